import PyProof.Rows.All
import Wide.All
import OpenK.AllK
import Wide.FinOn
import HandS.ForMost
import HandS.TupAny
import HandS.Wide
import HandS.IsInst
import HandS.Style
import HandS.SortInts
import HandS.NoneIn
import HandS.SetFor
import HandS.Strs
import KE.GoesMore
import HandS.CallLocal
import KE.KUnpack
import PyProof.CollectIter
import HandS.Flow
import PySem.Challenge.RW_hushnotice_k16_rules_written
set_option Elab.async false
set_option linter.all false
set_option maxRecDepth 100000
set_option autoImplicit false
/-! A small language of states behind the hand layer: data, cells, slots, and what they say of the tracked heap. -/
namespace Yi
open PySem L2
/-- data: tuples and settled lists stand by their items; ref n is the n-th cell; lk the script; fn a def at an address -/
inductive D where
  | non | bl (b : Bool) | int (i : Int) | str (s : Str)
  | tup (ds : List D) | fl (ds : List D) | lk (ns : List Int) | ref (n : Nat) | fn (n : Nat) | ty (n : String)
inductive Cell where
  | lst (ds : List D) | dk (kvs : List (Key × D)) | dt (kvs : List (List Key × D)) | ins (c : Nat) (fs : List (Str × D)) | lk (kvs : List (Key × D))
/-- a value: data, or a new object that nobody else holds -/
inductive VV where
  | d (x : D) | own (c : Cell)
abbrev Slt := List (Option VV)
abbrev Sto := List Cell
/-- what the text tells: the written part, the classes -/
structure Gm where
  K : PySem.W.Frag
  cl : Nat → Addr
  fn : Nat → Addr
abbrev Pre (a b : List Addr) : Prop := a <+: b
section
variable (G : Gm)
mutual
def RD (F : Hp) (ι : List Addr) : D → V → Prop
  | .non, v => v = .non
  | .bl b, v => v = .bl b
  | .int i, v => v = .int i
  | .str s, v => v = .str s
  | .tup ds, v => ∃ a vs, v = .ref a ∧ SqT G.K F a vs ∧ (ds ≠ [] → F a = some (.tup vs)) ∧ RDs F ι ds vs
  | .fl ds, v => ∃ a vs, v = .ref a ∧ F a = some (.lst vs) ∧ RDs F ι ds vs
  | .lk ns, v => ∃ a, v = .ref a ∧ SqL G.K F a (ns.map V.int)
  | .ref n, v => ∃ a, v = .ref a ∧ ι[n]? = some a
  | .fn n, v => v = .ref (G.fn n)
  | .ty n, v => v = .ty n
def RDs (F : Hp) (ι : List Addr) : List D → List V → Prop
  | [], vs => vs = []
  | d :: ds, vs => ∃ v r, vs = v :: r ∧ RD F ι d v ∧ RDs F ι ds r
end
def RKs {κ : Type} (F : Hp) (ι : List Addr) : List (κ × D) → List (κ × V) → Prop
  | [], kv => kv = []
  | (k, d) :: r, kv => ∃ v r', kv = (k, v) :: r' ∧ RD G F ι d v ∧ RKs F ι r r'
def RC (F : Hp) (ι : List Addr) : Cell → HO → Prop
  | .lst ds, o => ∃ vs, o = .lst vs ∧ RDs G F ι ds vs
  | .dk kvs, o => ∃ kv, o = .dK kv ∧ RKs G F ι kvs kv
  | .dt kvs, o => ∃ kv, o = .dT kv ∧ RKs G F ι kvs kv
  | .ins c fs, o => ∃ dx kv, o = .ins (G.cl c) dx kv ∧ RKs G F ι fs kv
  | .lk kvs, o => ∃ ob kv, o = .frz ob (.dK kv) ∧ RKs G F ι kvs kv
end
section
variable {G : Gm} {F F' H H' : Hp} {ι ι' : List Addr}
theorem pre_get {a b : List Addr} (h : Pre a b) {n : Nat} {x : Addr} (e : a[n]? = some x) : b[n]? = some x := by
  obtain ⟨t, rfl⟩ := h
  have hn := (List.getElem?_eq_some_iff.mp e).1
  rw [List.getElem?_append_left hn]
  exact e
theorem rd_ex {a : Addr} {u : HO} (e : Same F F') (h : Rd F a u) : Rd F' a u := by
  rcases h with h | ⟨o, h⟩
  · exact .inl (e _ _ h)
  · exact .inr ⟨o, e _ _ h⟩
theorem sqt_ex {K : PySem.W.Frag} {a : Addr} {xs : List V} (e : Same F F') (h : SqT K F a xs) : SqT K F' a xs := h.elim (fun z => .inl (rd_ex e z)) .inr
theorem sql_ex {K : PySem.W.Frag} {a : Addr} {xs : List V} (e : Same F F') (h : SqL K F a xs) : SqL K F' a xs := h.elim (fun z => .inl (rd_ex e z)) .inr
mutual
theorem RD.mono (e : Same F F') (p : Pre ι ι') : ∀ {d : D} {v : V}, RD G F ι d v → RD G F' ι' d v
  | .non, _, h => by simp only [RD] at h ⊢; exact h
  | .bl _, _, h => by simp only [RD] at h ⊢; exact h
  | .int _, _, h => by simp only [RD] at h ⊢; exact h
  | .str _, _, h => by simp only [RD] at h ⊢; exact h
  | .tup ds, _, h => by
    simp only [RD] at h ⊢
    obtain ⟨a, vs, h1, h2, h3, h4⟩ := h
    exact ⟨a, vs, h1, sqt_ex e h2, fun q => e _ _ (h3 q), RDs.mono e p h4⟩
  | .fl ds, _, h => by
    simp only [RD] at h ⊢
    obtain ⟨a, vs, h1, h2, h4⟩ := h
    exact ⟨a, vs, h1, e _ _ h2, RDs.mono e p h4⟩
  | .lk ns, _, h => by
    simp only [RD] at h ⊢
    obtain ⟨a, h1, h2⟩ := h
    exact ⟨a, h1, sql_ex e h2⟩
  | .ref n, _, h => by
    simp only [RD] at h ⊢
    obtain ⟨a, h1, h2⟩ := h
    exact ⟨a, h1, pre_get p h2⟩
  | .fn _, _, h => by simp only [RD] at h ⊢; exact h
  | .ty _, _, h => by simp only [RD] at h ⊢; exact h
theorem RDs.mono (e : Same F F') (p : Pre ι ι') : ∀ {ds : List D} {vs : List V}, RDs G F ι ds vs → RDs G F' ι' ds vs
  | [], _, h => by simp only [RDs] at h ⊢; exact h
  | d :: ds, _, h => by
    simp only [RDs] at h ⊢
    obtain ⟨v, r, h1, h2, h3⟩ := h
    exact ⟨v, r, h1, RD.mono e p h2, RDs.mono e p h3⟩
end
theorem RKs.mono {κ : Type} (e : Same F F') (p : Pre ι ι') : ∀ {kvs : List (κ × D)} {kv : List (κ × V)}, RKs G F ι kvs kv → RKs G F' ι' kvs kv
  | [], _, h => h
  | (k, d) :: r, _, ⟨v, r', h1, h2, h3⟩ => ⟨v, r', h1, h2.mono e p, RKs.mono e p h3⟩
theorem RC.mono (e : Same F F') (p : Pre ι ι') {c : Cell} {o : HO} (h : RC G F ι c o) : RC G F' ι' c o := by
  cases c with
  | lst ds => obtain ⟨vs, h1, h2⟩ := h; exact ⟨vs, h1, h2.mono e p⟩
  | dk kvs => obtain ⟨vs, h1, h2⟩ := h; exact ⟨vs, h1, h2.mono e p⟩
  | dt kvs => obtain ⟨vs, h1, h2⟩ := h; exact ⟨vs, h1, h2.mono e p⟩
  | ins c fs => obtain ⟨dx, vs, h1, h2⟩ := h; exact ⟨dx, vs, h1, h2.mono e p⟩
  | lk kvs => obtain ⟨dx, vs, h1, h2⟩ := h; exact ⟨dx, vs, h1, h2.mono e p⟩
theorem rds_nil {vs : List V} : RDs G F ι [] vs ↔ vs = [] := by simp only [RDs]
theorem rds_cons {d : D} {ds : List D} {vs : List V} : RDs G F ι (d :: ds) vs ↔ ∃ v r, vs = v :: r ∧ RD G F ι d v ∧ RDs G F ι ds r := by simp only [RDs]
theorem RDs.len : ∀ {ds : List D} {vs : List V}, RDs G F ι ds vs → ds.length = vs.length
  | [], _, h => by rw [rds_nil] at h; subst h; rfl
  | d :: ds, _, h => by
    obtain ⟨v, r, rfl, _, h3⟩ := rds_cons.mp h
    exact congrArg Nat.succ h3.len
theorem RDs.get : ∀ {ds : List D} {vs : List V}, RDs G F ι ds vs → ∀ {i : Nat} {d : D}, ds[i]? = some d → ∃ v, vs[i]? = some v ∧ RD G F ι d v
  | [], _, _, i, d, e => by simp at e
  | x :: ds, _, h, 0, d, e => by
    obtain ⟨v, r, rfl, h2, _⟩ := rds_cons.mp h
    have e' : x = d := by simpa using e
    subst e'
    exact ⟨v, rfl, h2⟩
  | x :: ds, _, h, i + 1, d, e => by
    obtain ⟨v, r, rfl, _, h3⟩ := rds_cons.mp h
    obtain ⟨w, q1, q2⟩ := h3.get (i := i) (d := d) (by simpa using e)
    exact ⟨w, by simpa using q1, q2⟩
theorem RDs.getV : ∀ {ds : List D} {vs : List V}, RDs G F ι ds vs → ∀ {i : Nat} {v : V}, vs[i]? = some v → ∃ d, ds[i]? = some d ∧ RD G F ι d v
  | [], _, h, i, d, e => by rw [rds_nil] at h; subst h; simp at e
  | x :: ds, _, h, 0, d, e => by
    obtain ⟨v, r, rfl, h2, _⟩ := rds_cons.mp h
    have e' : v = d := by simpa using e
    subst e'
    exact ⟨x, rfl, h2⟩
  | x :: ds, _, h, i + 1, d, e => by
    obtain ⟨v, r, rfl, _, h3⟩ := rds_cons.mp h
    obtain ⟨w, q1, q2⟩ := h3.getV (i := i) (v := d) (by simpa using e)
    exact ⟨w, by simpa using q1, q2⟩
theorem RDs.app : ∀ {ds es : List D} {vs ws : List V}, RDs G F ι ds vs → RDs G F ι es ws → RDs G F ι (ds ++ es) (vs ++ ws)
  | [], _, _, _, h, k => by rw [rds_nil] at h; subst h; exact k
  | d :: ds, _, _, _, h, k => by
    obtain ⟨v, r, rfl, h2, h3⟩ := rds_cons.mp h
    exact rds_cons.mpr ⟨v, _, rfl, h2, h3.app k⟩
theorem RDs.one {d : D} {v : V} (h : RD G F ι d v) : RDs G F ι [d] [v] := rds_cons.mpr ⟨v, [], rfl, h, rds_nil.mpr rfl⟩
theorem RDs.take : ∀ {ds : List D} {vs : List V} (n : Nat), RDs G F ι ds vs → RDs G F ι (ds.take n) (vs.take n)
  | _, _, 0, _ => by rw [List.take_zero, List.take_zero]; exact rds_nil.mpr rfl
  | [], _, n + 1, h => by rw [rds_nil] at h; subst h; rw [List.take_nil, List.take_nil]; exact rds_nil.mpr rfl
  | d :: ds, _, n + 1, h => by
    obtain ⟨v, r, rfl, h2, h3⟩ := rds_cons.mp h
    rw [List.take_succ_cons, List.take_succ_cons]
    exact rds_cons.mpr ⟨v, _, rfl, h2, h3.take n⟩
theorem RDs.drop : ∀ {ds : List D} {vs : List V} (n : Nat), RDs G F ι ds vs → RDs G F ι (ds.drop n) (vs.drop n)
  | _, _, 0, h => by rw [List.drop_zero, List.drop_zero]; exact h
  | [], _, n + 1, h => by rw [rds_nil] at h; subst h; rw [List.drop_nil, List.drop_nil]; exact rds_nil.mpr rfl
  | d :: ds, _, n + 1, h => by
    obtain ⟨v, r, rfl, h2, h3⟩ := rds_cons.mp h
    rw [List.drop_succ_cons, List.drop_succ_cons]
    exact h3.drop n
theorem RDs.set {d : D} {v : V} (hd : RD G F ι d v) : ∀ {ds : List D} {vs : List V} (n : Nat), RDs G F ι ds vs → RDs G F ι (ds.set n d) (vs.set n v)
  | [], _, _, h => by rw [rds_nil] at h; subst h; exact rds_nil.mpr rfl
  | x :: ds, _, 0, h => by
    obtain ⟨w, r, rfl, _, h3⟩ := rds_cons.mp h
    exact rds_cons.mpr ⟨v, r, rfl, hd, h3⟩
  | x :: ds, _, n + 1, h => by
    obtain ⟨w, r, rfl, h2, h3⟩ := rds_cons.mp h
    exact rds_cons.mpr ⟨w, _, rfl, h2, h3.set hd n⟩
theorem RDs.erase : ∀ {ds : List D} {vs : List V} (n : Nat), RDs G F ι ds vs → RDs G F ι (ds.eraseIdx n) (vs.eraseIdx n)
  | [], _, _, h => by rw [rds_nil] at h; subst h; exact rds_nil.mpr rfl
  | x :: ds, _, 0, h => by
    obtain ⟨w, r, rfl, _, h3⟩ := rds_cons.mp h
    exact h3
  | x :: ds, _, n + 1, h => by
    obtain ⟨w, r, rfl, h2, h3⟩ := rds_cons.mp h
    exact rds_cons.mpr ⟨w, _, rfl, h2, h3.erase n⟩
theorem RDs.rep {d : D} {v : V} (hd : RD G F ι d v) : ∀ n : Nat, RDs G F ι (List.replicate n d) (List.replicate n v)
  | 0 => rds_nil.mpr rfl
  | n + 1 => rds_cons.mpr ⟨v, _, rfl, hd, RDs.rep hd n⟩
theorem RDs.rev {ds : List D} {vs : List V} (h : RDs G F ι ds vs) : RDs G F ι ds.reverse vs.reverse := by
  induction ds generalizing vs with
  | nil => rw [rds_nil] at h; subst h; exact rds_nil.mpr rfl
  | cons d ds ih =>
    obtain ⟨v, r, rfl, h2, h3⟩ := rds_cons.mp h
    rw [List.reverse_cons, List.reverse_cons]
    exact (ih h3).app (RDs.one h2)
theorem rds_ints : ∀ {ns : List Int} {vs : List V}, RDs G F ι (ns.map D.int) vs ↔ vs = ns.map V.int
  | [], vs => rds_nil
  | n :: ns, vs => by
    rw [List.map_cons, List.map_cons, rds_cons]
    constructor
    · rintro ⟨v, r, rfl, h2, h3⟩
      simp only [RD] at h2
      rw [h2, rds_ints.mp h3]
    · rintro rfl
      exact ⟨_, _, rfl, by simp only [RD], rds_ints.mpr rfl⟩
theorem rds_strs : ∀ {ns : List Str} {vs : List V}, RDs G F ι (ns.map D.str) vs ↔ vs = ns.map V.str
  | [], vs => rds_nil
  | n :: ns, vs => by
    rw [List.map_cons, List.map_cons, rds_cons]
    constructor
    · rintro ⟨v, r, rfl, h2, h3⟩
      simp only [RD] at h2
      rw [h2, rds_strs.mp h3]
    · rintro rfl
      exact ⟨_, _, rfl, by simp only [RD], rds_strs.mpr rfl⟩
theorem rds_bls : ∀ {ns : List Bool} {vs : List V}, RDs G F ι (ns.map D.bl) vs ↔ vs = ns.map V.bl
  | [], vs => rds_nil
  | n :: ns, vs => by
    rw [List.map_cons, List.map_cons, rds_cons]
    constructor
    · rintro ⟨v, r, rfl, h2, h3⟩
      simp only [RD] at h2
      rw [h2, rds_bls.mp h3]
    · rintro rfl
      exact ⟨_, _, rfl, by simp only [RD], rds_bls.mpr rfl⟩
/-! ### the state -/
structure Rep (G : Gm) (F : Hp) (ι : List Addr) (S : Sto) (H : Hp) : Prop where
  ex : Same F H
  cell : ∀ (n : Nat) (c : Cell), S[n]? = some c → ∃ a o, ι[n]? = some a ∧ H a = some o ∧ RC G F ι c o
  len : ι.length = S.length
  nd : ι.Nodup
  sep : ∀ a ∈ ι, F a = none
def OwnA (ρ : Slt) (σ : St) (a : Addr) : Prop := ∃ (i : Nat) (c : Cell), ρ[i]? = some (some (.own c)) ∧ σ[i]? = some (some (.ref a))
def NoO (_ : Addr) : Prop := False
structure Sls (G : Gm) (F : Hp) (ι : List Addr) (ρ : Slt) (σ : St) (H : Hp) : Prop where
  len : ρ.length = σ.length
  val : ∀ (i : Nat) (d : D), ρ[i]? = some (some (.d d)) → ∃ v, σ[i]? = some (some v) ∧ RD G F ι d v
  own : ∀ (i : Nat) (c : Cell), ρ[i]? = some (some (.own c)) → ∃ a o, σ[i]? = some (some (.ref a)) ∧ H a = some o ∧ RC G F ι c o ∧ F a = none ∧ a ∉ ι
  osep : ∀ (i j : Nat) (ci cj : Cell) (a : Addr), ρ[i]? = some (some (.own ci)) → ρ[j]? = some (some (.own cj)) → σ[i]? = some (some (.ref a)) → σ[j]? = some (some (.ref a)) → i = j
structure Sta (G : Gm) (F : Hp) (ι : List Addr) (S : Sto) (ρ : Slt) (σ : St) (H : Hp) : Prop where
  rep : Rep G F ι S H
  sl : Sls G F ι ρ σ H
/-- what a step leaves: O, O' the addresses that the frame alone holds -/
structure Stp (F : Hp) (ι : List Addr) (O : Addr → Prop) (H : Hp) (F' : Hp) (ι' : List Addr) (O' : Addr → Prop) (H' : Hp) : Prop where
  exF : Same F F'
  pre : Pre ι ι'
  fr : ∀ a o, H a = some o → a ∉ ι → ¬ O a → H' a = some o
  nF : ∀ a, F' a ≠ none → F a ≠ none ∨ H a = none ∨ O a
  nI : ∀ a, a ∈ ι' → a ∈ ι ∨ H a = none ∨ O a
  nO : ∀ a, O' a → O a ∨ H a = none
  dom : ∀ a, H a ≠ none → H' a ≠ none
  fz : ∀ a ob u, H a = some (.frz ob u) → H' a = some (.frz ob u)
theorem pre_mem {a b : List Addr} (h : Pre a b) {x : Addr} (e : x ∈ a) : x ∈ b := by
  obtain ⟨t, rfl⟩ := h
  exact List.mem_append_left _ e
theorem Stp.refl {O : Addr → Prop} : Stp F ι O H F ι O H :=
  ⟨Same.refl _, List.prefix_refl _, fun _ _ h _ _ => h, fun _ h => .inl h, fun _ h => .inl h, fun _ h => .inl h, fun _ h => h, fun _ _ _ h => h⟩
theorem Stp.trans {F1 F2 H1 H2 : Hp} {ι1 ι2 : List Addr} {O O1 O2 : Addr → Prop} (a : Stp F ι O H F1 ι1 O1 H1) (b : Stp F1 ι1 O1 H1 F2 ι2 O2 H2) : Stp F ι O H F2 ι2 O2 H2 where
  exF := a.exF.trans b.exF
  pre := a.pre.trans b.pre
  fr := fun x o h n1 n2 => by
    have hne : H x ≠ none := by rw [h]; exact fun z => by cases z
    refine b.fr x o (a.fr x o h n1 n2) (fun z => ?_) fun z => ?_
    · rcases a.nI x z with q | q | q
      · exact n1 q
      · exact hne q
      · exact n2 q
    · rcases a.nO x z with q | q
      · exact n2 q
      · exact hne q
  nF := fun x h => by
    rcases b.nF x h with q | q | q
    · exact a.nF x q
    · exact .inr (.inl (Classical.byContradiction fun z => a.dom x z q))
    · rcases a.nO x q with r | r
      · exact .inr (.inr r)
      · exact .inr (.inl r)
  nI := fun x h => by
    rcases b.nI x h with q | q | q
    · exact a.nI x q
    · exact .inr (.inl (Classical.byContradiction fun z => a.dom x z q))
    · rcases a.nO x q with r | r
      · exact .inr (.inr r)
      · exact .inr (.inl r)
  nO := fun x h => by
    rcases b.nO x h with q | q
    · exact a.nO x q
    · exact .inr (Classical.byContradiction fun z => a.dom x z q)
  dom := fun x h => b.dom x (a.dom x h)
  fz := fun x ob u h => b.fz x ob u (a.fz x ob u h)
/-- fewer are held behind -/
theorem Stp.less {O O' O2 : Addr → Prop} {F1 H1 : Hp} {ι1 : List Addr} (a : Stp F ι O H F1 ι1 O' H1) (h : ∀ x, O2 x → O' x) : Stp F ι O H F1 ι1 O2 H1 :=
  ⟨a.exF, a.pre, a.fr, a.nF, a.nI, fun x q => a.nO x (h x q), a.dom, a.fz⟩
/-- the addresses told as held ahead may be more -/
theorem Stp.more {O O' O2 : Addr → Prop} {F1 H1 : Hp} {ι1 : List Addr} (a : Stp F ι O H F1 ι1 O' H1) (h : ∀ x, O x → O2 x) : Stp F ι O2 H F1 ι1 O' H1 :=
  ⟨a.exF, a.pre, fun x o q n1 n2 => a.fr x o q n1 fun z => n2 (h x z), fun x q => (a.nF x q).imp_right (Or.imp_right (h x)), fun x q => (a.nI x q).imp_right (Or.imp_right (h x)), fun x q => (a.nO x q).imp_left (h x), a.dom, a.fz⟩
/-- a call (or what keeps the frame's own objects) lies behind a state with slots -/
theorem Sta.after {S S' : Sto} {ρ : Slt} {σ : St} (s : Sta G F ι S ρ σ H) (r : Rep G F' ι' S' H') (p : Stp F ι NoO H F' ι' NoO H') :
    Sta G F' ι' S' ρ σ H' ∧ Stp F ι (OwnA ρ σ) H F' ι' (OwnA ρ σ) H' := by
  refine ⟨⟨r, s.sl.len, fun i d h => ?_, fun i c h => ?_, s.sl.osep⟩, ⟨p.exF, p.pre, fun a o h n1 _ => p.fr a o h n1 (fun z => z), fun a h => ?_, fun a h => ?_, fun a h => .inl h, p.dom, p.fz⟩⟩
  · obtain ⟨v, h1, h2⟩ := s.sl.val i d h
    exact ⟨v, h1, h2.mono p.exF p.pre⟩
  · obtain ⟨a, o, h1, h2, h3, h4, h5⟩ := s.sl.own i c h
    have hne : H a ≠ none := by rw [h2]; exact fun z => by cases z
    refine ⟨a, o, h1, p.fr a o h2 h5 (fun z => z), h3.mono p.exF p.pre, ?_, fun z => ?_⟩
    · refine Classical.byContradiction fun z => ?_
      rcases p.nF a z with q | q | q
      · exact q h4
      · exact hne q
      · exact q
    · rcases p.nI a z with q | q | q
      · exact h5 q
      · exact hne q
      · exact q
  · rcases p.nF a h with q | q | q
    · exact .inl q
    · exact .inr (.inl q)
    · exact q.elim
  · rcases p.nI a h with q | q | q
    · exact .inl q
    · exact .inr (.inl q)
    · exact q.elim
/-- a new settled object -/
theorem Rep.newF {S : Sto} {p : Addr} {o : HO} (r : Rep G F ι S H) (hp : H p = none) : Rep G (upd F p o) ι S (upd H p o) ∧ Stp F ι NoO H (upd F p o) ι NoO (upd H p o) := by
  have nF : F p = none := by
    cases q : F p with
    | none => rfl
    | some u => have := r.ex _ _ q; rw [hp] at this; cases this
  have eF : Same F (upd F p o) := fun b u h => by rw [upd_ne (ne_of_none h nF)]; exact h
  have eH : Same H (upd H p o) := fun b u h => by rw [upd_ne (ne_of_none h hp)]; exact h
  refine ⟨⟨fun b u h => ?_, fun n c h => ?_, r.len, r.nd, fun a h => ?_⟩, eF, List.prefix_refl _, fun a u h _ _ => eH _ _ h, fun a h => ?_, fun a h => .inl h, fun a h => .inl h, fun a h => ?_, fun a _ _ h => eH _ _ h⟩
  · by_cases hb : b = p
    · subst hb; rw [upd_same] at h ⊢; exact h
    · rw [upd_ne hb] at h ⊢; exact r.ex _ _ h
  · obtain ⟨a, u, h1, h2, h3⟩ := r.cell n c h
    exact ⟨a, u, h1, eH _ _ h2, h3.mono eF (List.prefix_refl _)⟩
  · have hne : a ≠ p := fun z => by
      subst z
      obtain ⟨n, hn⟩ := List.getElem?_of_mem h
      have hl : n < S.length := by rw [← r.len]; exact (List.getElem?_eq_some_iff.mp hn).1
      obtain ⟨b, u, h1, h2, _⟩ := r.cell n S[n] (List.getElem?_eq_getElem hl)
      rw [hn] at h1; cases h1
      rw [hp] at h2; cases h2
    rw [upd_ne hne]; exact r.sep a h
  · by_cases ha : a = p
    · subst ha; exact .inr (.inl hp)
    · rw [upd_ne ha] at h; exact .inl h
  · by_cases ha : a = p
    · subst ha; rw [upd_same]; exact fun z => by cases z
    · rw [upd_ne ha]; exact h
theorem Rep.live {S : Sto} {a : Addr} (r : Rep G F ι S H) (h : a ∈ ι) : ∃ (n : Nat) (c : Cell) (o : HO), ι[n]? = some a ∧ S[n]? = some c ∧ H a = some o ∧ RC G F ι c o := by
  obtain ⟨n, hn⟩ := List.getElem?_of_mem h
  have hl : n < S.length := by rw [← r.len]; exact (List.getElem?_eq_some_iff.mp hn).1
  obtain ⟨b, u, h1, h2, h3⟩ := r.cell n S[n] (List.getElem?_eq_getElem hl)
  rw [hn] at h1; cases h1
  exact ⟨n, S[n], u, hn, List.getElem?_eq_getElem hl, h2, h3⟩
theorem Rep.noF {S : Sto} {p : Addr} (r : Rep G F ι S H) (hp : H p = none) : F p = none := by
  cases q : F p with
  | none => rfl
  | some u => have := r.ex _ _ q; rw [hp] at this; cases this
theorem Rep.noI {S : Sto} {p : Addr} (r : Rep G F ι S H) (hp : H p = none) : p ∉ ι := fun h => by
  obtain ⟨_, _, _, _, _, h3, _⟩ := r.live h
  rw [hp] at h3; cases h3
/-- a new object that is not settled -/
theorem Rep.newO {S : Sto} {p : Addr} {o : HO} (r : Rep G F ι S H) (hp : H p = none) : Rep G F ι S (upd H p o) ∧ Stp F ι NoO H F ι NoO (upd H p o) := by
  have eH : Same H (upd H p o) := fun b u h => by rw [upd_ne (ne_of_none h hp)]; exact h
  refine ⟨⟨fun b u h => eH _ _ (r.ex _ _ h), fun n c h => ?_, r.len, r.nd, r.sep⟩, Same.refl _, List.prefix_refl _, fun a u h _ _ => eH _ _ h, fun a h => .inl h, fun a h => .inl h, fun a h => .inl h, fun a h => ?_, fun a _ _ h => eH _ _ h⟩
  · obtain ⟨a, u, h1, h2, h3⟩ := r.cell n c h
    exact ⟨a, u, h1, eH _ _ h2, h3⟩
  · by_cases ha : a = p
    · subst ha; rw [upd_same]; exact fun z => by cases z
    · rw [upd_ne ha]; exact h
def Cell.lkd : Cell → Bool
  | .lk _ => true
  | _ => false
theorem RC.notFrz {c : Cell} {ob : Obj} {u : HO} (h : RC G F ι c (.frz ob u)) : c.lkd = true := by
  cases c with
  | lk kvs => rfl
  | lst ds => obtain ⟨vs, h1, _⟩ := h; cases h1
  | dk ds => obtain ⟨vs, h1, _⟩ := h; cases h1
  | dt ds => obtain ⟨vs, h1, _⟩ := h; cases h1
  | ins c ds => obtain ⟨_, vs, h1, _⟩ := h; cases h1
/-- a cell is changed -/
theorem Rep.put {S : Sto} {n : Nat} {a : Addr} {c0 c' : Cell} {o' : HO} (r : Rep G F ι S H) (hn : ι[n]? = some a) (h0 : S[n]? = some c0) (hl0 : c0.lkd = false) (hc : RC G F ι c' o') : Rep G F ι (S.set n c') (upd H a o') ∧ Stp F ι NoO H F ι NoO (upd H a o') := by
  have hm : a ∈ ι := List.mem_of_getElem? hn
  have nF : F a = none := r.sep a hm
  obtain ⟨k, c, o, h1, h2, h3, h4⟩ := r.live hm
  refine ⟨⟨fun b u h => ?_, fun m d h => ?_, by rw [List.length_set]; exact r.len, r.nd, r.sep⟩, Same.refl _, List.prefix_refl _, fun b u h n1 _ => ?_, fun a h => .inl h, fun a h => .inl h, fun a h => .inl h, fun b h => ?_, fun b ob u h => ?_⟩
  · rw [upd_ne (ne_of_none h nF)]; exact r.ex _ _ h
  · by_cases hm' : m = n
    · subst hm'
      have hl : m < S.length := by rw [← r.len]; exact (List.getElem?_eq_some_iff.mp hn).1
      rw [List.getElem?_set_self hl] at h
      cases h
      exact ⟨a, o', hn, upd_same, hc⟩
    · rw [List.getElem?_set_ne (Ne.symm hm')] at h
      obtain ⟨b, u, q1, q2, q3⟩ := r.cell m d h
      have hb : b ≠ a := fun z => by
        subst z
        obtain ⟨l1, e1⟩ := List.getElem?_eq_some_iff.mp q1
        obtain ⟨l2, e2⟩ := List.getElem?_eq_some_iff.mp hn
        exact hm' ((List.getElem_inj r.nd).mp (e1.trans e2.symm))
      exact ⟨b, u, q1, by rw [upd_ne hb]; exact q2, q3⟩
  · have hb : b ≠ a := fun z => n1 (z ▸ hm)
    rw [upd_ne hb]; exact h
  · by_cases hb : b = a
    · subst hb; rw [upd_same]; exact fun z => by cases z
    · rw [upd_ne hb]; exact h
  · have hb : b ≠ a := fun z => by
      subst z
      obtain ⟨q, o, e1, e2, e3⟩ := r.cell n c0 h0
      rw [hn] at e1
      cases e1
      rw [h] at e2
      cases e2
      rw [e3.notFrz] at hl0
      cases hl0
    rw [upd_ne hb]; exact h
/-- what nobody else holds becomes a cell -/
theorem Rep.box {S : Sto} {a : Addr} {c : Cell} {o : HO} (r : Rep G F ι S H) (h1 : H a = some o) (h2 : RC G F ι c o) (h3 : F a = none) (h4 : a ∉ ι) : Rep G F (ι ++ [a]) (S ++ [c]) H := by
  have p : Pre ι (ι ++ [a]) := List.prefix_append _ _
  refine ⟨r.ex, fun n d h => ?_, by simp [r.len], ?_, fun b hb => ?_⟩
  · by_cases hn : n < S.length
    · rw [List.getElem?_append_left hn] at h
      obtain ⟨b, u, q1, q2, q3⟩ := r.cell n d h
      exact ⟨b, u, pre_get p q1, q2, q3.mono (Same.refl _) p⟩
    · have e : n = S.length := by
        have := (List.getElem?_eq_some_iff.mp h).1
        simp at this
        omega
      subst e
      rw [List.getElem?_append_right (Nat.le_refl _), Nat.sub_self] at h
      have h' : c = d := by simpa using h
      subst h'
      refine ⟨a, o, ?_, h1, h2.mono (Same.refl _) p⟩
      rw [← r.len, List.getElem?_append_right (Nat.le_refl _), Nat.sub_self]
      rfl
  · rw [List.nodup_append]
    refine ⟨r.nd, by simp, fun x hx y hy => ?_⟩
    have : y = a := by simpa using hy
    subst this
    exact fun z => h4 (z ▸ hx)
  · rcases List.mem_append.mp hb with q | q
    · exact r.sep b q
    · have : b = a := by simpa using q
      subst this
      exact h3
/-- .. is settled -/
theorem Rep.settle {S : Sto} {a : Addr} {o : HO} (r : Rep G F ι S H) (h1 : H a = some o) (h3 : F a = none) (h4 : a ∉ ι) : Rep G (upd F a o) ι S H := by
  have eF : Same F (upd F a o) := fun b u h => by rw [upd_ne (ne_of_none h h3)]; exact h
  refine ⟨fun b u h => ?_, fun n d h => ?_, r.len, r.nd, fun b hb => ?_⟩
  · by_cases hb : b = a
    · subst hb; rw [upd_same] at h; cases h; exact h1
    · rw [upd_ne hb] at h; exact r.ex _ _ h
  · obtain ⟨b, u, q1, q2, q3⟩ := r.cell n d h
    exact ⟨b, u, q1, q2, q3.mono eF (List.prefix_refl _)⟩
  · rw [upd_ne fun z => h4 (by rw [← z]; exact hb)]
    exact r.sep b hb
theorem same_upd {p : Addr} {o : HO} (h : F p = none) : Same F (upd F p o) := fun b u q => by rw [upd_ne (ne_of_none q h)]; exact q
end
end Yi
/-! Readings and what they mean over states: judgements, basic expressions, statements. -/
namespace Yi
open PySem L2
abbrev EM := Slt → Sto → Option (VV × Sto)
abbrev DM := Slt → Sto → Option (D × Sto)
abbrev BM := Slt → Sto → Option (Bool × Sto)
abbrev AM := Slt → Sto → Option (List D × Sto)
inductive Fl where
  | nx | bk | ct | rt (v : VV)
abbrev SM := Slt → Sto → Option (Fl × Slt × Sto)
abbrev TM := D → Slt → Option Slt
def RV (G : Gm) (F : Hp) (ι : List Addr) (O : Addr → Prop) (H0 H : Hp) : VV → V → Prop
  | .d x, v => RD G F ι x v
  | .own c, v => ∃ a o, v = .ref a ∧ H a = some o ∧ RC G F ι c o ∧ F a = none ∧ a ∉ ι ∧ (O a ∨ H0 a = none)
abbrev Stx (F : Hp) (ι : List Addr) (H F' : Hp) (ι' : List Addr) (H' : Hp) : Prop := Stp F ι NoO H F' ι' NoO H'
def SndV (G : Gm) (t : TE) (m : EM) : Prop := ∀ {F : Hp} {ι : List Addr} {S : Sto} {ρ : Slt} {σ : St} {H : Hp} {w : VV} {S' : Sto}, Sta G F ι S ρ σ H → m ρ S = some (w, S') → ∀ Q : VK,
  (∀ F' ι' H' v, Sta G F' ι' S' ρ σ H' → Stx F ι H F' ι' H' → RV G F' ι' NoO H H' w v → Q v H') → t σ H Q
def SndD (G : Gm) (t : TE) (m : DM) : Prop := ∀ {F : Hp} {ι : List Addr} {S : Sto} {ρ : Slt} {σ : St} {H : Hp} {d : D} {S' : Sto}, Sta G F ι S ρ σ H → m ρ S = some (d, S') → ∀ Q : VK,
  (∀ F' ι' H' v, Sta G F' ι' S' ρ σ H' → Stx F ι H F' ι' H' → RD G F' ι' d v → Q v H') → t σ H Q
def SndT (G : Gm) (t : TT) (m : BM) : Prop := ∀ {F : Hp} {ι : List Addr} {S : Sto} {ρ : Slt} {σ : St} {H : Hp} {b : Bool} {S' : Sto}, Sta G F ι S ρ σ H → m ρ S = some (b, S') → ∀ Q : Bool → Hp → Prop,
  (∀ F' ι' H', Sta G F' ι' S' ρ σ H' → Stx F ι H F' ι' H' → Q b H') → t σ H Q
def SndA (G : Gm) (t : TA) (m : AM) : Prop := ∀ {F : Hp} {ι : List Addr} {S : Sto} {ρ : Slt} {σ : St} {H : Hp} {ds : List D} {S' : Sto}, Sta G F ι S ρ σ H → m ρ S = some (ds, S') → ∀ Q : List V → Hp → Prop,
  (∀ F' ι' H' vs, Sta G F' ι' S' ρ σ H' → Stx F ι H F' ι' H' → RDs G F' ι' ds vs → Q vs H') → t σ H Q
/-- what is wanted at a statement's end, as its flow says -/
def EndW (G : Gm) (F : Hp) (ι : List Addr) (O : Addr → Prop) (H : Hp) (D : Ends) (ρ' : Slt) (S' : Sto) : Fl → Prop
  | .nx => ∀ F' ι' σ' H', Sta G F' ι' S' ρ' σ' H' → Stp F ι O H F' ι' (OwnA ρ' σ') H' → D.nx σ' H'
  | .bk => ∀ F' ι' σ' H', Sta G F' ι' S' ρ' σ' H' → Stp F ι O H F' ι' (OwnA ρ' σ') H' → D.bk σ' H'
  | .ct => ∀ F' ι' σ' H', Sta G F' ι' S' ρ' σ' H' → Stp F ι O H F' ι' (OwnA ρ' σ') H' → D.ct σ' H'
  | .rt w => ∀ F' ι' H' v, Rep G F' ι' S' H' → Stp F ι O H F' ι' NoO H' → RV G F' ι' O H H' w v → D.rt v H'
def SndS (G : Gm) (t : TS) (m : SM) : Prop := ∀ {F : Hp} {ι : List Addr} {S : Sto} {ρ : Slt} {σ : St} {H : Hp} {f : Fl} {ρ' : Slt} {S' : Sto}, Sta G F ι S ρ σ H → m ρ S = some (f, ρ', S') → ∀ D : Ends,
  EndW G F ι (OwnA ρ σ) H D ρ' S' f → t D σ H
section
variable {G : Gm} {F F' H H' : Hp} {ι ι' : List Addr} {S S' : Sto} {ρ ρ' : Slt} {σ σ' : St} {ta tb tc te : TE} {ma mb mc me : EM} {tt tu : TT} {mt mu : BM} {t1 t2 : TS} {m1 m2 : SM} {W : Ends}
theorem Stp.own {O O' : Addr → Prop} (p : Stp F ι NoO H F' ι' NoO H') (h : ∀ x, O' x → O x) : Stp F ι O H F' ι' O' H' :=
  ⟨p.exF, p.pre, fun a o q n _ => p.fr a o q n (fun z => z), fun a q => (p.nF a q).imp_right (Or.imp_right fun z => z.elim), fun a q => (p.nI a q).imp_right (Or.imp_right fun z => z.elim), fun a q => .inl (h a q), p.dom, p.fz⟩
/-! ### operands are settled -/
def eD (m : EM) : DM := fun ρ S => (m ρ S).bind fun p => match p.1 with
  | .d x => some (x, p.2)
  | .own (.lst ds) => some (.fl ds, p.2)
  | _ => none
theorem none_noO {a : Addr} : NoO a ∨ H a = none ↔ H a = none := ⟨fun h => h.elim (fun z => z.elim) id, .inr⟩
theorem snd_d (h : SndV G te me) : SndD G te (eD me) := by
  intro F ι S ρ σ H d S' s e Q k
  unfold eD at e
  obtain ⟨⟨w, S1⟩, e1, e2⟩ := Option.bind_eq_some_iff.mp e
  refine h s e1 Q fun F' ι' H' v s' p r => ?_
  match w, e2 with
  | .d x, e2 => cases e2; exact k F' ι' H' v s' p r
  | .own (.lst ds), e2 =>
    cases e2
    obtain ⟨a, o, rfl, h1, ⟨vs, rfl, h2⟩, h3, h4, h5⟩ := r
    have h6 : H a = none := none_noO.mp h5
    have q : Rep G (upd F' a (.lst vs)) ι' _ H' := s'.rep.settle h1 h3 h4
    have p2 : Stx F ι H (upd F' a (.lst vs)) ι' H' :=
      ⟨p.exF.trans (same_upd h3), p.pre, p.fr, fun b hb => by
        by_cases z : b = a
        · subst z; exact .inr (.inl h6)
        · rw [upd_ne z] at hb; exact p.nF b hb, p.nI, p.nO, p.dom, p.fz⟩
    refine k _ ι' H' _ (s.after q p2).1 p2 ?_
    simp only [RD]
    exact ⟨a, vs, rfl, upd_same, h2.mono (same_upd h3) (List.prefix_refl _)⟩
/-- a value that is data -/
def eV (m : DM) : EM := fun ρ S => (m ρ S).map fun p => (.d p.1, p.2)
theorem snd_v {md : DM} (h : SndD G te md) : SndV G te (eV md) := by
  intro F ι S ρ σ H w S' s e Q k
  unfold eV at e
  obtain ⟨⟨d, S1⟩, e1, e2⟩ := Option.map_eq_some_iff.mp e
  cases e2
  exact h s e1 Q fun F' ι' H' v s' p r => k F' ι' H' v s' p r
/-- a new list, told to be a cell -/
def eBox (m : EM) : EM := fun ρ S => (m ρ S).bind fun p => match p.1 with
  | .own c => some (.d (.ref p.2.length), p.2 ++ [c])
  | .d _ => none
theorem snd_box (h : SndV G te me) : SndV G te (eBox me) := by
  intro F ι S ρ σ H d S' s e Q k
  unfold eBox at e
  obtain ⟨⟨w, S1⟩, e1, e2⟩ := Option.bind_eq_some_iff.mp e
  refine h s e1 Q fun F' ι' H' v s' p r => ?_
  match w, e2 with
  | .own c, e2 =>
    cases e2
    obtain ⟨a, o, rfl, h1, h2, h3, h4, h5⟩ := r
    have h6 : H a = none := none_noO.mp h5
    have q := s'.rep.box h1 h2 h3 h4
    have p2 : Stx F ι H F' (ι' ++ [a]) H' :=
      ⟨p.exF, p.pre.trans (List.prefix_append _ _), p.fr, p.nF, fun b hb => by
        rcases List.mem_append.mp hb with z | z
        · exact p.nI b z
        · have : b = a := by simpa using z
          subst this
          exact .inr (.inl h6), p.nO, p.dom, p.fz⟩
    refine k F' _ H' _ (s.after q p2).1 p2 ?_
    simp only [RV, RD]
    exact ⟨a, rfl, by rw [← s'.rep.len, List.getElem?_append_right (Nat.le_refl _), Nat.sub_self]; rfl⟩
/-! ### names and constants -/
def eNm (i : Nat) : EM := fun ρ S => match ρ[i]? with
  | some (some (.d d)) => some (.d d, S)
  | _ => none
theorem snd_nm (i : Nat) : SndV G (tVar i) (eNm i) := by
  intro F ι S ρ σ H w S' s e Q k
  unfold eNm at e
  split at e
  · rename_i d hd
    cases e
    obtain ⟨v, h1, h2⟩ := s.sl.val i d hd
    exact ⟨v, h1, k F ι H v s .refl h2⟩
  · cases e
def eC (d : D) : EM := fun _ S => some (.d d, S)
theorem snd_c {d : D} {v : V} (h : ∀ F ι, RD G F ι d v) : SndV G (tC v) (eC d) := by
  intro F ι S ρ σ H w S' s e Q k
  cases e
  exact k F ι H v s .refl (h F ι)
theorem snd_int {i : Int} : SndV G (tC (.int i)) (eC (.int i)) := snd_c fun F ι => by simp only [RD]
theorem snd_str {i : Str} : SndV G (tC (.str i)) (eC (.str i)) := snd_c fun F ι => by simp only [RD]
theorem snd_bl {i : Bool} : SndV G (tC (.bl i)) (eC (.bl i)) := snd_c fun F ι => by simp only [RD]
theorem snd_non : SndV G (tC .non) (eC .non) := snd_c fun F ι => by simp only [RD]
theorem snd_ty {n : String} : SndV G (tC (.ty n)) (eC (.ty n)) := snd_c fun F ι => by simp only [RD]
theorem snd_fn {n : Nat} : SndV G (tC (.ref (G.fn n))) (eC (.fn n)) := snd_c fun F ι => by simp only [RD]
/-! ### operations by values -/
def SndR2 (G : Gm) (r : R2) (f : D → D → Sto → Option VV) : Prop := ∀ {F : Hp} {ι : List Addr} {S : Sto} {H : Hp} {x y : D} {vx vy : V} {w : VV}, Rep G F ι S H → RD G F ι x vx → RD G F ι y vy → f x y S = some w → ∀ Q : VK,
  (∀ F' H' v, Rep G F' ι S H' → Stx F ι H F' ι H' → RV G F' ι NoO H H' w v → Q v H') → r vx vy H Q
def SndR1 (G : Gm) (r : V → Hp → VK → Prop) (f : D → Sto → Option VV) : Prop := ∀ {F : Hp} {ι : List Addr} {S : Sto} {H : Hp} {x : D} {vx : V} {w : VV}, Rep G F ι S H → RD G F ι x vx → f x S = some w → ∀ Q : VK,
  (∀ F' H' v, Rep G F' ι S H' → Stx F ι H F' ι H' → RV G F' ι NoO H H' w v → Q v H') → r vx H Q
def SndRL (G : Gm) (r : List V → Hp → VK → Prop) (f : List D → Sto → Option VV) : Prop := ∀ {F : Hp} {ι : List Addr} {S : Sto} {H : Hp} {xs : List D} {vs : List V} {w : VV}, Rep G F ι S H → RDs G F ι xs vs → f xs S = some w → ∀ Q : VK,
  (∀ F' H' v, Rep G F' ι S H' → Stx F ι H F' ι H' → RV G F' ι NoO H H' w v → Q v H') → r vs H Q
def eOp (f : D → D → Sto → Option VV) (a b : EM) : EM := fun ρ S => (eD a ρ S).bind fun p => (eD b ρ p.2).bind fun q => (f p.1 q.1 q.2).map fun w => (w, q.2)
theorem RV.back {w : VV} {v : V} {H0 H1 : Hp} (h : RV G F ι NoO H1 H w v) (d : ∀ a, H1 a = none → H0 a = none) : RV G F ι NoO H0 H w v := by
  cases w with
  | d x => exact h
  | own c =>
    obtain ⟨a, o, h1, h2, h3, h4, h5, h6⟩ := h
    exact ⟨a, o, h1, h2, h3, h4, h5, .inr (d a (none_noO.mp h6))⟩
theorem Stp.back {O O' : Addr → Prop} (p : Stp F ι O H F' ι' O' H') : ∀ a, H' a = none → H a = none := fun a h => Classical.byContradiction fun z => p.dom a z h
theorem snd_op {r : R2} {f : D → D → Sto → Option VV} (hr : SndR2 G r f) (ha : SndV G ta ma) (hb : SndV G tb mb) : SndV G (tOp r ta tb) (eOp f ma mb) := by
  intro F ι S ρ σ H w S' s e Q k
  unfold eOp at e
  obtain ⟨⟨x, S1⟩, e1, e⟩ := Option.bind_eq_some_iff.mp e
  obtain ⟨⟨y, S2⟩, e2, e⟩ := Option.bind_eq_some_iff.mp e
  obtain ⟨w', e3, e⟩ := Option.map_eq_some_iff.mp e
  cases e
  refine snd_d ha s e1 _ fun F1 ι1 H1 vx s1 p1 rx => ?_
  refine snd_d hb s1 e2 _ fun F2 ι2 H2 vy s2 p2 ry => ?_
  refine hr s2.rep (rx.mono p2.exF p2.pre) ry e3 Q fun F3 H3 v r3 p3 rv => ?_
  exact k F3 ι2 H3 v (s2.after r3 p3).1 ((p1.trans p2).trans p3) (rv.back (p1.trans p2).back)
def eUn (f : D → Sto → Option VV) (a : EM) : EM := fun ρ S => (eD a ρ S).bind fun p => (f p.1 p.2).map fun w => (w, p.2)
theorem snd_un {r : V → Hp → VK → Prop} {f : D → Sto → Option VV} (hr : SndR1 G r f) (ha : SndV G ta ma) : SndV G (tUn r ta) (eUn f ma) := by
  intro F ι S ρ σ H w S' s e Q k
  unfold eUn at e
  obtain ⟨⟨x, S1⟩, e1, e⟩ := Option.bind_eq_some_iff.mp e
  obtain ⟨w', e3, e⟩ := Option.map_eq_some_iff.mp e
  cases e
  refine snd_d ha s e1 _ fun F1 ι1 H1 vx s1 p1 rx => ?_
  exact hr s1.rep rx e3 Q fun F3 H3 v r3 p3 rv => k F3 ι1 H3 v (s1.after r3 p3).1 (p1.trans p3) (rv.back p1.back)
/-- argument lists -/
def aNil : AM := fun _ S => some ([], S)
def aCons (a : EM) (r : AM) : AM := fun ρ S => (eD a ρ S).bind fun p => (r ρ p.2).map fun q => (p.1 :: q.1, q.2)
theorem snd_nil : SndA G tNil aNil := by
  intro F ι S ρ σ H ds S' s e Q k
  cases e
  exact k F ι H [] s .refl (rds_nil.mpr rfl)
theorem snd_cons {tr : TA} {mr : AM} (ha : SndV G ta ma) (hr : SndA G tr mr) : SndA G (tCons ta tr) (aCons ma mr) := by
  intro F ι S ρ σ H ds S' s e Q k
  unfold aCons at e
  obtain ⟨⟨x, S1⟩, e1, e⟩ := Option.bind_eq_some_iff.mp e
  obtain ⟨⟨r, S2⟩, e2, e⟩ := Option.map_eq_some_iff.mp e
  cases e
  refine snd_d ha s e1 _ fun F1 ι1 H1 vx s1 p1 rx => ?_
  refine hr s1 e2 _ fun F2 ι2 H2 vs s2 p2 rs => ?_
  exact k F2 ι2 H2 _ s2 (p1.trans p2) (rds_cons.mpr ⟨_, _, rfl, rx.mono p2.exF p2.pre, rs⟩)
def szOk (n : Nat) : Bool := decide (n ≤ 1000000)
theorem szOk_le {n : Nat} (h : szOk n = true) : n ≤ sizeLine := by
  have := of_decide_eq_true (show decide (n ≤ 1000000) = true from h)
  rw [sizeLine_eq]; omega
theorem szOk_lt {n : Nat} (h : szOk n = true) : n < sizeLine := by
  have := of_decide_eq_true (show decide (n ≤ 1000000) = true from h)
  rw [sizeLine_eq]; omega
/-- a tuple, a list displayed -/
def eTup (a : AM) : EM := fun ρ S => (a ρ S).bind fun p => if szOk p.1.length then some (.d (.tup p.1), p.2) else none
def eLst (a : AM) : EM := fun ρ S => (a ρ S).bind fun p => if szOk p.1.length then some (.own (.lst p.1), p.2) else none
theorem snd_tup {t : TA} {m : AM} (h : SndA G t m) : SndV G (tTup t) (eTup m) := by
  intro F ι S ρ σ H w S' s e Q k
  unfold eTup at e
  obtain ⟨⟨ds, S1⟩, e1, e⟩ := Option.bind_eq_some_iff.mp e
  dsimp only at e
  split at e
  · rename_i hz
    cases e
    refine h s e1 _ fun F1 ι1 H1 vs s1 p1 rs => ?_
    refine ⟨by rw [← rs.len]; exact szOk_le hz, fun p hp => ?_⟩
    obtain ⟨r2, p2⟩ := s1.rep.newF (o := .tup vs) hp
    refine k _ ι1 _ _ (s1.after r2 p2).1 (p1.trans p2) ?_
    simp only [RV, RD]
    exact ⟨p, vs, rfl, SqT.of upd_same, fun _ => upd_same, rs.mono p2.exF p2.pre⟩
  · cases e
theorem snd_lst {t : TA} {m : AM} (h : SndA G t m) : SndV G (tLst t) (eLst m) := by
  intro F ι S ρ σ H w S' s e Q k
  unfold eLst at e
  obtain ⟨⟨ds, S1⟩, e1, e⟩ := Option.bind_eq_some_iff.mp e
  dsimp only at e
  split at e
  · rename_i hz
    cases e
    refine h s e1 _ fun F1 ι1 H1 vs s1 p1 rs => ?_
    refine ⟨by rw [← rs.len]; exact szOk_le hz, fun p hp => ?_⟩
    obtain ⟨r2, p2⟩ := s1.rep.newO (o := .lst vs) hp
    refine k _ ι1 _ _ (s1.after r2 p2).1 (p1.trans p2) ?_
    exact ⟨p, _, rfl, upd_same, ⟨vs, rfl, rs⟩, s1.rep.noF hp, s1.rep.noI hp, .inr (p1.back p hp)⟩
  · cases e
/-- a built-in's call -/
def eCB (f : List D → Sto → Option VV) (a : AM) : EM := fun ρ S => (a ρ S).bind fun p => (f p.1 p.2).map fun w => (w, p.2)
theorem snd_cb {r : List V → Hp → VK → Prop} {f : List D → Sto → Option VV} {t : TA} {m : AM} (hr : SndRL G r f) (h : SndA G t m) : SndV G (tCB r t) (eCB f m) := by
  intro F ι S ρ σ H w S' s e Q k
  unfold eCB at e
  obtain ⟨⟨ds, S1⟩, e1, e⟩ := Option.bind_eq_some_iff.mp e
  obtain ⟨w', e3, e⟩ := Option.map_eq_some_iff.mp e
  cases e
  refine h s e1 _ fun F1 ι1 H1 vs s1 p1 rs => ?_
  exact hr s1.rep rs e3 Q fun F3 H3 v r3 p3 rv => k F3 ι1 H3 v (s1.after r3 p3).1 (p1.trans p3) (rv.back p1.back)
/-! ### tests -/
def bV (m : EM) : BM := fun ρ S => (eD m ρ S).bind fun p => match p.1 with
  | .bl b => some (b, p.2)
  | _ => none
theorem snd_test (h : SndV G te me) : SndT G (tTest te) (bV me) := by
  intro F ι S ρ σ H b S' s e Q k
  unfold bV at e
  obtain ⟨⟨d, S1⟩, e1, e⟩ := Option.bind_eq_some_iff.mp e
  match d, e with
  | .bl c, e =>
    cases e
    refine snd_d h s e1 _ fun F1 ι1 H1 v s1 p1 r => ?_
    simp only [RD] at r
    exact ⟨b, r, k F1 ι1 H1 s1 p1⟩
theorem snd_tB (h : SndV G te me) : SndT G (tB te) (bV me) := by
  intro F ι S ρ σ H b S' s e Q k
  unfold bV at e
  obtain ⟨⟨d, S1⟩, e1, e⟩ := Option.bind_eq_some_iff.mp e
  match d, e with
  | .bl c, e =>
    cases e
    refine snd_d h s e1 _ fun F1 ι1 H1 v s1 p1 r => ?_
    simp only [RD] at r
    exact ⟨b, r, k F1 ι1 H1 s1 p1⟩
def bAnd (a b : BM) : BM := fun ρ S => (a ρ S).bind fun p => if p.1 = true then b ρ p.2 else some (false, p.2)
def bOr (a b : BM) : BM := fun ρ S => (a ρ S).bind fun p => if p.1 = true then some (true, p.2) else b ρ p.2
def bNot (a : BM) : BM := fun ρ S => (a ρ S).map fun p => (!p.1, p.2)
theorem snd_and (h1 : SndT G tt mt) (h2 : SndT G tu mu) : SndT G (tAnd tt tu) (bAnd mt mu) := by
  intro F ι S ρ σ H b S' s e Q k
  unfold bAnd at e
  obtain ⟨⟨c, S1⟩, e1, e⟩ := Option.bind_eq_some_iff.mp e
  refine h1 s e1 _ fun F1 ι1 H1 s1 p1 => ?_
  cases c with
  | true => exact h2 s1 e _ fun F2 ι2 H2 s2 p2 => k F2 ι2 H2 s2 (p1.trans p2)
  | false => cases e; exact k F1 ι1 H1 s1 p1
theorem snd_or (h1 : SndT G tt mt) (h2 : SndT G tu mu) : SndT G (tOr tt tu) (bOr mt mu) := by
  intro F ι S ρ σ H b S' s e Q k
  unfold bOr at e
  obtain ⟨⟨c, S1⟩, e1, e⟩ := Option.bind_eq_some_iff.mp e
  refine h1 s e1 _ fun F1 ι1 H1 s1 p1 => ?_
  cases c with
  | true => cases e; exact k F1 ι1 H1 s1 p1
  | false => exact h2 s1 e _ fun F2 ι2 H2 s2 p2 => k F2 ι2 H2 s2 (p1.trans p2)
theorem snd_not (h1 : SndT G tt mt) : SndT G (tNot tt) (bNot mt) := by
  intro F ι S ρ σ H b S' s e Q k
  unfold bNot at e
  obtain ⟨⟨c, S1⟩, e1, e⟩ := Option.map_eq_some_iff.mp e
  cases e
  exact h1 s e1 _ fun F1 ι1 H1 s1 p1 => k F1 ι1 H1 s1 p1
/-- and, or, not as values; the conditional -/
def eAnd (a b : EM) : EM := fun ρ S => (bV a ρ S).bind fun p => if p.1 = true then eV (eD b) ρ p.2 else some (.d (.bl false), p.2)
def eOr (a b : EM) : EM := fun ρ S => (bV a ρ S).bind fun p => if p.1 = true then some (.d (.bl true), p.2) else eV (eD b) ρ p.2
def eNot (a : EM) : EM := fun ρ S => (bV a ρ S).map fun p => (.d (.bl (!p.1)), p.2)
theorem bV_some {b : Bool} {S' : Sto} (e : bV me ρ S = some (b, S')) : eD me ρ S = some (.bl b, S') := by
  unfold bV at e
  obtain ⟨⟨d, S1⟩, e1, e⟩ := Option.bind_eq_some_iff.mp e
  match d, e with
  | .bl c, e => cases e; exact e1
theorem snd_andV (h1 : SndV G ta ma) (h2 : SndV G tb mb) : SndV G (tAndV ta tb) (eAnd ma mb) := by
  intro F ι S ρ σ H w S' s e Q k
  unfold eAnd at e
  obtain ⟨⟨c, S1⟩, e1, e⟩ := Option.bind_eq_some_iff.mp e
  refine snd_d h1 s (bV_some e1) _ fun F1 ι1 H1 v s1 p1 r => ?_
  simp only [RD] at r
  refine ⟨c, r, ?_⟩
  cases c with
  | true => exact snd_v (snd_d h2) s1 e _ fun F2 ι2 H2 v2 s2 p2 r2 => k F2 ι2 H2 v2 s2 (p1.trans p2) (r2.back p1.back)
  | false => cases e; exact k F1 ι1 H1 _ s1 p1 (by simp only [RV, RD])
theorem snd_orV (h1 : SndV G ta ma) (h2 : SndV G tb mb) : SndV G (tOrV ta tb) (eOr ma mb) := by
  intro F ι S ρ σ H w S' s e Q k
  unfold eOr at e
  obtain ⟨⟨c, S1⟩, e1, e⟩ := Option.bind_eq_some_iff.mp e
  refine snd_d h1 s (bV_some e1) _ fun F1 ι1 H1 v s1 p1 r => ?_
  simp only [RD] at r
  refine ⟨c, r, ?_⟩
  cases c with
  | false => exact snd_v (snd_d h2) s1 e _ fun F2 ι2 H2 v2 s2 p2 r2 => k F2 ι2 H2 v2 s2 (p1.trans p2) (r2.back p1.back)
  | true => cases e; exact k F1 ι1 H1 _ s1 p1 (by simp only [RV, RD])
theorem snd_notV (h1 : SndV G ta ma) : SndV G (tNotV ta) (eNot ma) := by
  intro F ι S ρ σ H w S' s e Q k
  unfold eNot at e
  obtain ⟨⟨c, S1⟩, e1, e⟩ := Option.map_eq_some_iff.mp e
  cases e
  refine snd_d h1 s (bV_some e1) _ fun F1 ι1 H1 v s1 p1 r => ?_
  simp only [RD] at r
  exact ⟨c, r, k F1 ι1 H1 _ s1 p1 (by simp only [RV, RD])⟩
def eIf (c : BM) (a b : EM) : EM := fun ρ S => (c ρ S).bind fun p => if p.1 = true then a ρ p.2 else b ρ p.2
theorem snd_if (hc : SndT G tt mt) (h1 : SndV G ta ma) (h2 : SndV G tb mb) : SndV G (tIf tt ta tb) (eIf mt ma mb) := by
  intro F ι S ρ σ H w S' s e Q k
  unfold eIf at e
  obtain ⟨⟨c, S1⟩, e1, e⟩ := Option.bind_eq_some_iff.mp e
  refine hc s e1 _ fun F1 ι1 H1 s1 p1 => ?_
  cases c with
  | true => exact h1 s1 e _ fun F2 ι2 H2 v2 s2 p2 r2 => k F2 ι2 H2 v2 s2 (p1.trans p2) (r2.back p1.back)
  | false => exact h2 s1 e _ fun F2 ι2 H2 v2 s2 p2 r2 => k F2 ι2 H2 v2 s2 (p1.trans p2) (r2.back p1.back)
/-- a op1 b op2 c -/
def eChain (f g : D → D → Sto → Option VV) (a b c : EM) : EM := fun ρ S => (eD a ρ S).bind fun p => (eD b ρ p.2).bind fun q => (f p.1 q.1 q.2).bind fun w => match w with
  | .d (.bl true) => (eD c ρ q.2).bind fun u => (g q.1 u.1 u.2).bind fun w => match w with
    | .d x => some (.d x, u.2)
    | .own _ => none
  | .d (.bl false) => some (.d (.bl false), q.2)
  | _ => none
theorem snd_chain {r r' : R2} {f g : D → D → Sto → Option VV} (hr : SndR2 G r f) (hr' : SndR2 G r' g) (ha : SndV G ta ma) (hb : SndV G tb mb) (hc : SndV G tc mc) : SndV G (tChain r r' ta tb tc) (eChain f g ma mb mc) := by
  intro F ι S ρ σ H w S' s e Q k
  unfold eChain at e
  obtain ⟨⟨x, S1⟩, e1, e⟩ := Option.bind_eq_some_iff.mp e
  obtain ⟨⟨y, S2⟩, e2, e⟩ := Option.bind_eq_some_iff.mp e
  obtain ⟨w', e3, e⟩ := Option.bind_eq_some_iff.mp e
  refine snd_d ha s e1 _ fun F1 ι1 H1 vx s1 p1 rx => ?_
  refine snd_d hb s1 e2 _ fun F2 ι2 H2 vy s2 p2 ry => ?_
  refine hr s2.rep (rx.mono p2.exF p2.pre) ry e3 _ fun F3 H3 v r3 p3 rv => ?_
  match w', e with
  | .d (.bl true), e =>
    simp only [RV, RD] at rv
    refine ⟨true, rv, ?_⟩
    rw [if_pos rfl]
    obtain ⟨⟨z, S4⟩, e4, e⟩ := Option.bind_eq_some_iff.mp e
    obtain ⟨w2, e5, e⟩ := Option.bind_eq_some_iff.mp e
    refine snd_d hc (s2.after r3 p3).1 e4 _ fun F4 ι4 H4 vz s4 p4 rz => ?_
    have pp := (p3.trans p4)
    refine hr' s4.rep (ry.mono pp.exF pp.pre) rz e5 Q fun F5 H5 v5 r5 p5 rv5 => ?_
    match w2, e with
    | .d x, e =>
      cases e
      exact k F5 ι4 H5 v5 (s4.after r5 p5).1 (((p1.trans p2).trans pp).trans p5) rv5
  | .d (.bl false), e =>
    cases e
    simp only [RV, RD] at rv
    refine ⟨false, rv, ?_⟩
    rw [if_neg Bool.false_ne_true]
    exact k F3 ι2 H3 _ (s2.after r3 p3).1 ((p1.trans p2).trans p3) (by simp only [RV, RD])
/-! ### statements -/
theorem EndW.later {F1 H1 : Hp} {ι1 : List Addr} {O O1 : Addr → Prop} {f : Fl} (p : Stp F ι O H F1 ι1 O1 H1) (h : EndW G F ι O H W ρ' S' f) : EndW G F1 ι1 O1 H1 W ρ' S' f := by
  cases f with
  | nx => exact fun F' ι' σ' H' s q => h F' ι' σ' H' s (p.trans q)
  | bk => exact fun F' ι' σ' H' s q => h F' ι' σ' H' s (p.trans q)
  | ct => exact fun F' ι' σ' H' s q => h F' ι' σ' H' s (p.trans q)
  | rt w =>
    refine fun F' ι' H' v r q rv => h F' ι' H' v r (p.trans q) ?_
    cases w with
    | d x => exact rv
    | own c =>
      obtain ⟨a, o, h1, h2, h3, h4, h5, h6⟩ := rv
      refine ⟨a, o, h1, h2, h3, h4, h5, ?_⟩
      rcases h6 with z | z
      · exact p.nO a z
      · exact .inr (p.back a z)
def sNext : SM := fun ρ S => some (.nx, ρ, S)
def sSeq (a b : SM) : SM := fun ρ S => (a ρ S).bind fun p => match p.1 with
  | .nx => b p.2.1 p.2.2
  | f => some (f, p.2.1, p.2.2)
theorem snd_next : SndS G tNext sNext := by
  intro F ι S ρ σ H f ρ' S' s e W k
  cases e
  exact k F ι σ H s .refl
theorem snd_seq (h1 : SndS G t1 m1) (h2 : SndS G t2 m2) : SndS G (tSeq t1 t2) (sSeq m1 m2) := by
  intro F ι S ρ σ H f ρ' S' s e W k
  unfold sSeq at e
  obtain ⟨⟨g, ρ1, S1⟩, e1, e⟩ := Option.bind_eq_some_iff.mp e
  refine h1 s e1 _ ?_
  cases g with
  | nx => exact fun F1 ι1 σ1 H1 s1 p1 => h2 s1 e W (k.later p1)
  | bk => cases e; exact k
  | ct => cases e; exact k
  | rt w => cases e; exact k
def sIf (c : BM) (a b : SM) : SM := fun ρ S => (c ρ S).bind fun p => if p.1 = true then a ρ p.2 else b ρ p.2
theorem stx_own {O : Addr → Prop} (p : Stx F ι H F' ι' H') : Stp F ι O H F' ι' O H' := p.own fun _ h => h
theorem snd_ifS (hc : SndT G tt mt) (h1 : SndS G t1 m1) (h2 : SndS G t2 m2) : SndS G (tIfS tt t1 t2) (sIf mt m1 m2) := by
  intro F ι S ρ σ H f ρ' S' s e W k
  unfold sIf at e
  obtain ⟨⟨c, S1⟩, e1, e⟩ := Option.bind_eq_some_iff.mp e
  refine hc s e1 _ fun F1 ι1 H1 s1 p1 => ?_
  cases c with
  | true => exact h1 s1 e W (k.later (stx_own p1))
  | false => exact h2 s1 e W (k.later (stx_own p1))
def sBreak : SM := fun ρ S => some (.bk, ρ, S)
def sCont : SM := fun ρ S => some (.ct, ρ, S)
theorem snd_break : SndS G tBreak sBreak := by
  intro F ι S ρ σ H f ρ' S' s e W k
  cases e
  exact k F ι σ H s .refl
theorem snd_cont : SndS G tCont sCont := by
  intro F ι S ρ σ H f ρ' S' s e W k
  cases e
  exact k F ι σ H s .refl
def sNever : SM := fun _ _ => none
theorem snd_never : SndS G tNever sNever := by
  intro F ι S ρ σ H f ρ' S' s e W k
  cases e
def sExpr (m : EM) : SM := fun ρ S => (m ρ S).map fun p => (.nx, ρ, p.2)
theorem snd_expr (h : SndV G te me) : SndS G (tDrop te) (sExpr me) := by
  intro F ι S ρ σ H f ρ' S' s e W k
  unfold sExpr at e
  obtain ⟨⟨w, S1⟩, e1, e⟩ := Option.map_eq_some_iff.mp e
  cases e
  exact h s e1 _ fun F1 ι1 H1 v s1 p1 r => k F1 ι1 σ H1 s1 (stx_own p1)
def sRet (m : EM) : SM := fun ρ S => (m ρ S).map fun p => (.rt p.1, ρ, p.2)
theorem RV.up {w : VV} {v : V} {O : Addr → Prop} {H0 : Hp} (h : RV G F ι NoO H0 H w v) : RV G F ι O H0 H w v := by
  cases w with
  | d x => exact h
  | own c =>
    obtain ⟨a, o, h1, h2, h3, h4, h5, h6⟩ := h
    exact ⟨a, o, h1, h2, h3, h4, h5, .inr (none_noO.mp h6)⟩
theorem snd_ret (h : SndV G te me) : SndS G (tRet te) (sRet me) := by
  intro F ι S ρ σ H f ρ' S' s e W k
  unfold sRet at e
  obtain ⟨⟨w, S1⟩, e1, e⟩ := Option.map_eq_some_iff.mp e
  cases e
  exact h s e1 _ fun F1 ι1 H1 v s1 p1 r => k F1 ι1 H1 v s1.rep (p1.own fun _ z => z.elim) r.up
/-- return x, where the frame alone holds x -/
def sRetO (i : Nat) : SM := fun ρ S => match ρ[i]? with
  | some (some (.own c)) => some (.rt (.own c), ρ, S)
  | _ => none
theorem snd_retO (i : Nat) : SndS G (tRet (tVar i)) (sRetO i) := by
  intro F ι S ρ σ H f ρ' S' s e W k
  unfold sRetO at e
  split at e
  · rename_i c hc
    cases e
    obtain ⟨a, o, h1, h2, h3, h4, h5⟩ := s.sl.own i c hc
    refine ⟨.ref a, h1, k F ι H _ s.rep (Stp.refl.less fun _ z => z.elim) ⟨a, o, rfl, h2, h3, h4, h5, .inl ⟨i, c, hc, h1⟩⟩⟩
  · cases e
def sRetN : SM := fun ρ S => some (.rt (.d .non), ρ, S)
theorem snd_retN : SndS G tRetN sRetN := by
  intro F ι S ρ σ H f ρ' S' s e W k
  cases e
  exact k F ι H .non s.rep (Stp.refl.less fun _ z => z.elim) (by simp only [RV, RD])
/-! ### slots -/
theorem set_get {α : Type} {l : List α} {i j : Nat} {x y : α} (h : (l.set i x)[j]? = some y) : (j = i ∧ y = x) ∨ (j ≠ i ∧ l[j]? = some y) := by
  by_cases e : j = i
  · subst e
    have hl : j < l.length := by
      have := (List.getElem?_eq_some_iff.mp h).1
      rwa [List.length_set] at this
    rw [List.getElem?_set_self hl] at h
    cases h
    exact .inl ⟨rfl, rfl⟩
  · rw [List.getElem?_set_ne (Ne.symm e)] at h
    exact .inr ⟨e, h⟩
/-- a value goes to a slot -/
theorem Sta.set {i : Nat} {w : VV} {v : V} {O : Addr → Prop} {H0 : Hp} (s : Sta G F ι S ρ σ H) (r : RV G F ι NoO H0 H w v) (hn : ∀ a, H0 a = none → ¬ OwnA ρ σ a) :
    Sta G F ι S (ρ.set i (some w)) (σ.set i (some v)) H ∧ (∀ a, OwnA (ρ.set i (some w)) (σ.set i (some v)) a → OwnA ρ σ a ∨ H0 a = none) := by
  have hlen : i < ρ.length ↔ i < σ.length := by rw [s.sl.len]
  refine ⟨⟨s.rep, by rw [List.length_set, List.length_set]; exact s.sl.len, fun j d h => ?_, fun j c h => ?_, fun j k cj ck a h1 h2 h3 h4 => ?_⟩, ?_⟩
  · rcases set_get h with ⟨rfl, e⟩ | ⟨e, h⟩
    · have hl : j < σ.length := by
        have := (List.getElem?_eq_some_iff.mp h).1
        rw [List.length_set] at this
        exact hlen.mp this
      cases w with
      | d x =>
        cases e
        exact ⟨v, List.getElem?_set_self hl, r⟩
      | own c => cases e
    · obtain ⟨u, h1, h2⟩ := s.sl.val j d h
      exact ⟨u, by rw [List.getElem?_set_ne (Ne.symm e)]; exact h1, h2⟩
  · rcases set_get h with ⟨rfl, e⟩ | ⟨e, h⟩
    · have hl : j < σ.length := by
        have := (List.getElem?_eq_some_iff.mp h).1
        rw [List.length_set] at this
        exact hlen.mp this
      cases w with
      | d x => cases e
      | own c' =>
        cases e
        obtain ⟨a, o, rfl, h2, h3, h4, h5, _⟩ := r
        exact ⟨a, o, List.getElem?_set_self hl, h2, h3, h4, h5⟩
    · obtain ⟨a, o, h1, h2⟩ := s.sl.own j c h
      exact ⟨a, o, by rw [List.getElem?_set_ne (Ne.symm e)]; exact h1, h2⟩
  · have other : ∀ {j : Nat} {cj : Cell}, j ≠ i → (ρ.set i (some w))[j]? = some (some (.own cj)) → ρ[j]? = some (some (.own cj)) := fun {j cj} hj h => by
      rw [List.getElem?_set_ne (Ne.symm hj)] at h; exact h
    have otherσ : ∀ {j : Nat}, j ≠ i → (σ.set i (some v))[j]? = some (some (.ref a)) → σ[j]? = some (some (.ref a)) := fun {j} hj h => by
      rw [List.getElem?_set_ne (Ne.symm hj)] at h; exact h
    have clash : ∀ {j k : Nat} {cj ck : Cell}, j = i → k ≠ i → (ρ.set i (some w))[j]? = some (some (.own cj)) → (σ.set i (some v))[j]? = some (some (.ref a)) → ρ[k]? = some (some (.own ck)) → σ[k]? = some (some (.ref a)) → False := fun {j k cj ck} hj hk e1 e2 e3 e4 => by
      subst hj
      rcases set_get e1 with ⟨_, q⟩ | ⟨q, _⟩
      · rcases set_get e2 with ⟨_, q2⟩ | ⟨q2, _⟩
        · cases q
          cases q2
          obtain ⟨b, o, hb, _, _, _, _, h6⟩ := r
          cases hb
          exact hn _ (none_noO.mp h6) ⟨k, ck, e3, e4⟩
        · exact q2 rfl
      · exact q rfl
    by_cases hj : j = i
    · by_cases hk : k = i
      · exact hj.trans hk.symm
      · exact (clash hj hk h1 h3 (other hk h2) (otherσ hk h4)).elim
    · by_cases hk : k = i
      · exact (clash hk hj h2 h4 (other hj h1) (otherσ hj h3)).elim
      · exact s.sl.osep j k cj ck a (other hj h1) (other hk h2) (otherσ hj h3) (otherσ hk h4)
  · rintro a ⟨j, c, h1, h2⟩
    rcases set_get h1 with ⟨rfl, e⟩ | ⟨e, h1⟩
    · cases w with
      | d x => cases e
      | own c' =>
        obtain ⟨b, o, rfl, _, _, _, _, h6⟩ := r
        rcases set_get h2 with ⟨_, q⟩ | ⟨q, _⟩
        · cases q
          exact .inr (none_noO.mp h6)
        · exact (q rfl).elim
    · rw [List.getElem?_set_ne (Ne.symm e)] at h2
      exact .inl ⟨j, c, h1, h2⟩
/-- what is new was held by nobody -/
theorem Sta.notOwn (s : Sta G F ι S ρ σ H) {a : Addr} (h : H a = none) : ¬ OwnA ρ σ a := by
  rintro ⟨i, c, h1, h2⟩
  obtain ⟨b, o, q1, q2, _⟩ := s.sl.own i c h1
  rw [h2] at q1
  cases q1
  rw [h] at q2
  cases q2
def sSet (i : Nat) (m : EM) : SM := fun ρ S => (m ρ S).map fun p => (.nx, ρ.set i (some p.1), p.2)
theorem snd_set {i : Nat} (h : SndV G te me) : SndS G (tAsg te (gName i)) (sSet i me) := by
  intro F ι S ρ σ H f ρ' S' s e W k
  unfold sSet at e
  obtain ⟨⟨w, S1⟩, e1, e⟩ := Option.map_eq_some_iff.mp e
  cases e
  refine h s e1 _ fun F1 ι1 H1 v s1 p1 r => ?_
  obtain ⟨s2, h2⟩ := s1.set (i := i) (O := NoO) (H0 := H) r fun a ha => s.notOwn ha
  refine k F1 ι1 _ H1 s2 ?_
  have q : Stp F ι (OwnA ρ σ) H F1 ι1 (OwnA ρ σ) H1 := stx_own p1
  exact ⟨q.exF, q.pre, q.fr, q.nF, q.nI, fun a ha => (h2 a ha).imp_left fun z => z, q.dom, q.fz⟩
/-- targets: names, tuples of names (slots vs) -/
def Only (vs : List Nat) (σ σ' : St) : Prop := σ'.length = σ.length ∧ ∀ i, i ∉ vs → σ'[i]? = σ[i]?
def SndG (G : Gm) (g : TG) (m : TM) (vs : List Nat) : Prop := ∀ {F : Hp} {ι : List Addr} {S : Sto} {ρ : Slt} {σ : St} {H : Hp} {d : D} {v : V} {ρ' : Slt}, Sta G F ι S ρ σ H → RD G F ι d v → m d ρ = some ρ' → ∀ Q : St → Hp → Prop,
  (∀ σ', Sta G F ι S ρ' σ' H → (∀ a, OwnA ρ' σ' a → OwnA ρ σ a) → Only vs σ σ' → Q σ' H) → g v σ H Q
abbrev TMs := List D → Slt → Option Slt
def SndGs (G : Gm) (g : TGs) (m : TMs) (vs : List Nat) : Prop := ∀ {F : Hp} {ι : List Addr} {S : Sto} {ρ : Slt} {σ : St} {H : Hp} {ds : List D} {xs : List V} {ρ' : Slt}, Sta G F ι S ρ σ H → RDs G F ι ds xs → m ds ρ = some ρ' → ∀ Q : St → Hp → Prop,
  (∀ σ', Sta G F ι S ρ' σ' H → (∀ a, OwnA ρ' σ' a → OwnA ρ σ a) → Only vs σ σ' → Q σ' H) → g xs σ H Q
def gNm (i : Nat) : TM := fun d ρ => some (ρ.set i (some (.d d)))
theorem Only.refl {vs : List Nat} : Only vs σ σ := ⟨rfl, fun _ _ => rfl⟩
theorem Only.trans {vs ws : List Nat} {σ1 σ2 : St} (a : Only vs σ σ1) (b : Only ws σ1 σ2) : Only (vs ++ ws) σ σ2 :=
  ⟨b.1.trans a.1, fun i h => (b.2 i fun z => h (List.mem_append_right _ z)).trans (a.2 i fun z => h (List.mem_append_left _ z))⟩
theorem snd_gname {i : Nat} : SndG G (gName i) (gNm i) [i] := by
  intro F ι S ρ σ H d v ρ' s r e Q k
  cases e
  obtain ⟨s2, h2⟩ := s.set (i := i) (w := .d d) (v := v) (O := NoO) (H0 := H) r fun a ha => s.notOwn ha
  refine k _ s2 (fun a h => ?_) ⟨List.length_set, fun j h => List.getElem?_set_ne (fun z => h (by simp [z]))⟩
  obtain ⟨j, c, h1, h3⟩ := h
  rcases set_get h1 with ⟨_, q⟩ | ⟨q, h1⟩
  · cases q
  · rw [List.getElem?_set_ne (Ne.symm q)] at h3
    exact ⟨j, c, h1, h3⟩
def gsNil : TMs := fun ds ρ => match ds with
  | [] => some ρ
  | _ :: _ => none
def gsCons (g : TM) (r : TMs) : TMs := fun ds ρ => match ds with
  | [] => none
  | d :: ds => (g d ρ).bind fun p => r ds p
theorem snd_gnil : SndGs G gNil gsNil [] := by
  intro F ι S ρ σ H ds vs ρ' s r e Q k
  cases ds with
  | nil =>
    cases e
    exact ⟨rds_nil.mp r, k σ s (fun _ h => h) .refl⟩
  | cons => cases e
theorem snd_gcons {t : TG} {u : TGs} {m : TM} {n : TMs} {vs ws : List Nat} (h1 : SndG G t m vs) (h2 : SndGs G u n ws) : SndGs G (gCons t u) (gsCons m n) (vs ++ ws) := by
  intro F ι S ρ σ H ds xs ρ' s r e Q k
  cases ds with
  | nil => cases e
  | cons d ds =>
    obtain ⟨v, vr, rfl, r1, r2⟩ := rds_cons.mp r
    obtain ⟨ρ1, e1, e⟩ := Option.bind_eq_some_iff.mp (show ((m d ρ).bind fun p => n ds p) = some ρ' from e)
    exact ⟨v, vr, rfl, h1 s r1 e1 _ fun σ1 s1 o1 p1 => h2 s1 r2 e Q fun σ2 s2 o2 p2 => k σ2 s2 (fun a h => o1 a (o2 a h)) (p1.trans p2)⟩
def gT (n : Nat) (g : TMs) : TM := fun d ρ => match d with
  | .tup ds => if ds.length = n then g ds ρ else none
  | _ => none
theorem snd_gtup {n : Nat} {t : TGs} {m : TMs} {vs : List Nat} (h : SndGs G t m vs) : SndG G (gTup G.K n t) (gT n m) vs := by
  intro F ι S ρ σ H d v ρ' s r e Q k
  cases d with
  | tup ds =>
    simp only [RD] at r
    obtain ⟨a, vs, rfl, h1, h2, h3⟩ := r
    unfold gT at e
    dsimp only at e
    split at e
    · rename_i hl
      exact ⟨a, vs, rfl, sqt_ex s.rep.ex h1, h3.len ▸ hl, h s h3 e Q k⟩
    · cases e
  | _ => cases e
def sAsg (g : TM) (m : EM) : SM := fun ρ S => (eD m ρ S).bind fun p => (g p.1 ρ).map fun q => (.nx, q, p.2)
theorem Stp.same {O O' : Addr → Prop} (h : ∀ a, O' a → O a) : Stp F ι O H F ι O' H := Stp.refl.less h
theorem snd_asg {g : TG} {mg : TM} {vs : List Nat} (h : SndV G te me) (hg : SndG G g mg vs) : SndS G (tAsg te g) (sAsg mg me) := by
  intro F ι S ρ σ H f ρ' S' s e W k
  unfold sAsg at e
  obtain ⟨⟨d, S1⟩, e1, e⟩ := Option.bind_eq_some_iff.mp e
  obtain ⟨ρ2, e2, e⟩ := Option.map_eq_some_iff.mp e
  cases e
  refine snd_d h s e1 _ fun F1 ι1 H1 v s1 p1 r => ?_
  exact hg s1 r e2 _ fun σ2 s2 o2 _ => k F1 ι1 σ2 H1 s2 ((stx_own p1).trans (Stp.same o2))
/-- a list that the frame alone holds is settled; becomes a cell; is let go -/
def sFrz (i : Nat) (m : SM) : SM := fun ρ S => match ρ[i]? with
  | some (some (.own (.lst ds))) => m (ρ.set i (some (.d (.fl ds)))) S
  | _ => none
def sBox (i : Nat) (m : SM) : SM := fun ρ S => match ρ[i]? with
  | some (some (.own c)) => m (ρ.set i (some (.d (.ref S.length)))) (S ++ [c])
  | _ => none
theorem Sta.reslot {i : Nat} {c : Cell} {a : Addr} {d : D} (s : Sta G F ι S ρ σ H) (hi : ρ[i]? = some (some (.own c))) (hσ : σ[i]? = some (some (.ref a))) (r : Rep G F' ι' S' H) (e : Same F F') (p : Pre ι ι')
    (rd : RD G F' ι' d (.ref a)) (nF : ∀ b, F' b ≠ none → F b ≠ none ∨ b = a) (nI : ∀ b, b ∈ ι' → b ∈ ι ∨ b = a) :
    Sta G F' ι' S' (ρ.set i (some (.d d))) σ H ∧ Stp F ι (OwnA ρ σ) H F' ι' (OwnA (ρ.set i (some (.d d))) σ) H := by
  have hO : OwnA ρ σ a := ⟨i, c, hi, hσ⟩
  refine ⟨⟨r, by rw [List.length_set]; exact s.sl.len, fun j x h => ?_, fun j x h => ?_, fun j k cj ck b h1 h2 h3 h4 => ?_⟩, e, p, fun b o h _ _ => h, fun b h => ?_, fun b h => ?_, fun b h => ?_, fun b h => h, fun b _ _ h => h⟩
  · rcases set_get h with ⟨rfl, q⟩ | ⟨q, h⟩
    · cases q
      exact ⟨_, hσ, rd⟩
    · obtain ⟨u, h1, h2⟩ := s.sl.val j x h
      exact ⟨u, h1, h2.mono e p⟩
  · rcases set_get h with ⟨rfl, q⟩ | ⟨q, h⟩
    · cases q
    · obtain ⟨b, o, h1, h2, h3, h4, h5⟩ := s.sl.own j x h
      have hb : b ≠ a := fun z => q (s.sl.osep j i x c a h hi (by rw [← z]; exact h1) hσ)
      refine ⟨b, o, h1, h2, h3.mono e p, ?_, fun z => ?_⟩
      · refine Classical.byContradiction fun z => ?_
        rcases nF b z with y | y
        · exact y h4
        · exact hb y
      · rcases nI b z with y | y
        · exact h5 y
        · exact hb y
  · rcases set_get h1 with ⟨_, q⟩ | ⟨q1, h1⟩
    · cases q
    · rcases set_get h2 with ⟨_, q⟩ | ⟨q2, h2⟩
      · cases q
      · exact s.sl.osep j k cj ck b h1 h2 h3 h4
  · rcases nF b h with y | y
    · exact .inl y
    · exact .inr (.inr (y ▸ hO))
  · rcases nI b h with y | y
    · exact .inl y
    · exact .inr (.inr (y ▸ hO))
  · obtain ⟨j, x, h1, h2⟩ := h
    rcases set_get h1 with ⟨_, q⟩ | ⟨_, h1⟩
    · cases q
    · exact .inl ⟨j, x, h1, h2⟩
theorem snd_frz {t : TS} {m : SM} (i : Nat) (h : SndS G t m) : SndS G t (sFrz i m) := by
  intro F ι S ρ σ H f ρ' S' s e W k
  unfold sFrz at e
  split at e
  · rename_i ds hi
    obtain ⟨a, o, h1, h2, ⟨vs, rfl, h3⟩, h4, h5⟩ := s.sl.own i _ hi
    obtain ⟨s1, p1⟩ := s.reslot (d := .fl ds) hi h1 (s.rep.settle h2 h4 h5) (same_upd h4) (List.prefix_refl _) (by simp only [RD]; exact ⟨a, vs, rfl, upd_same, h3.mono (same_upd h4) (List.prefix_refl _)⟩)
      (fun b hb => by by_cases z : b = a; exact .inr z; exact .inl (by rw [upd_ne z] at hb; exact hb)) (fun b hb => .inl hb)
    exact h s1 e W (k.later p1)
  · cases e
theorem snd_boxS {t : TS} {m : SM} (i : Nat) (h : SndS G t m) : SndS G t (sBox i m) := by
  intro F ι S ρ σ H f ρ' S' s e W k
  unfold sBox at e
  split at e
  · rename_i c hi
    obtain ⟨a, o, h1, h2, h3, h4, h5⟩ := s.sl.own i _ hi
    obtain ⟨s1, p1⟩ := s.reslot (d := .ref S.length) hi h1 (s.rep.box h2 h3 h4 h5) (Same.refl _) (List.prefix_append _ _) (by simp only [RD]; exact ⟨a, rfl, by rw [← s.rep.len, List.getElem?_append_right (Nat.le_refl _), Nat.sub_self]; rfl⟩)
      (fun b hb => .inl hb) (fun b hb => (List.mem_append.mp hb).imp_right fun z => by simpa using z)
    exact h s1 e W (k.later p1)
  · cases e
end
end Yi
/-! Defs, calls, fields, loops, comprehensions over states. -/
namespace Yi
open PySem L2
abbrev Den := List D → Sto → Option (VV × Sto)
/-- a def's meaning from its body's: n slots, np parameters -/
def den (n np : Nat) (m : SM) : Den := fun ds S => if ds.length = np then (m (ds.map (fun d => some (.d d)) ++ List.replicate (n - ds.length) none) S).bind fun p => match p.1 with
  | .nx => some (.d .non, p.2.2)
  | .rt v => some (v, p.2.2)
  | _ => none
  else none
def spI (G : Gm) (np : Nat) (f : Den) : Sp := fun vs H Q _ => vs.length = np ∧ ∃ F ι S ds w S', Rep G F ι S H ∧ RDs G F ι ds vs ∧ f ds S = some (w, S') ∧
  ∀ F' ι' H' v, Rep G F' ι' S' H' → Stx F ι H F' ι' H' → RV G F' ι' NoO H H' w v → Q v H'
section
variable {G : Gm} {F F' H H' : Hp} {ι ι' : List Addr} {S S' : Sto} {ρ ρ' : Slt} {σ σ' : St} {ta tb tc te : TE} {ma mb mc me : EM} {tt tu : TT} {mt mu : BM} {t1 t2 : TS} {m1 m2 : SM}
theorem start_sta {N : List Str} {ds : List D} {vs : List V} (r : Rep G F ι S H) (h : RDs G F ι ds vs) : Sta G F ι S (ds.map (fun d => some (.d d)) ++ List.replicate (N.length - ds.length) none) (L2.start N vs) H ∧ ∀ a, ¬ OwnA (ds.map (fun d => some (VV.d d)) ++ List.replicate (N.length - ds.length) none) (L2.start N vs) a := by
  have hl := h.len
  have no : ∀ (i : Nat) (c : Cell), ¬ (ds.map (fun d => some (VV.d d)) ++ List.replicate (N.length - ds.length) none)[i]? = some (some (.own c)) := fun i c e => by
    by_cases hi : i < ds.length
    · rw [List.getElem?_append_left (by simpa using hi), List.getElem?_map, List.getElem?_eq_getElem hi] at e
      cases e
    · rw [List.getElem?_append_right (by simpa using hi), List.getElem?_replicate] at e
      split at e <;> cases e
  refine ⟨⟨r, ?_, fun i d e => ?_, fun i c e => (no i c e).elim, fun i j ci cj a e1 => (no i ci e1).elim⟩, fun a ⟨i, c, e, _⟩ => no i c e⟩
  · unfold L2.start
    simp only [List.length_append, List.length_map, List.length_replicate]
    omega
  · by_cases hi : i < ds.length
    · rw [List.getElem?_append_left (by simpa using hi), List.getElem?_map, List.getElem?_eq_getElem hi] at e
      cases e
      obtain ⟨v, h1, h2⟩ := h.get (List.getElem?_eq_getElem hi)
      refine ⟨v, ?_, h2⟩
      unfold L2.start
      rw [List.getElem?_append_left (by simpa [← hl] using hi), List.getElem?_map, h1]
      rfl
    · rw [List.getElem?_append_right (by simpa using hi), List.getElem?_replicate] at e
      split at e <;> cases e
/-- a body's reading, at the parameters' values -/
theorem body_I {N : List Str} {np : Nat} {t : TS} {m : SM} (h : SndS G t m) {vs : List V} {Q : VK} {E : XK} (p : spI G np (den N.length np m) vs H Q E) : t { nx := fun _ H' => Q .non H', rt := Q } (L2.start N vs) H := by
  obtain ⟨_, F, ι, S, ds, w, S', r, rs, e, k⟩ := p
  unfold den at e
  split at e
  · obtain ⟨⟨f, ρ', S1⟩, e1, e⟩ := Option.bind_eq_some_iff.mp e
    obtain ⟨s, no⟩ := start_sta (N := N) r rs
    refine h s e1 _ ?_
    have nn : ∀ {F' : Hp} {ι' : List Addr} {H' : Hp} {O' : Addr → Prop}, Stp F ι (OwnA (ds.map (fun d => some (VV.d d)) ++ List.replicate (N.length - ds.length) none) (L2.start N vs)) H F' ι' O' H' → Stx F ι H F' ι' H' := fun p =>
      ⟨p.exF, p.pre, fun a o h1 h2 _ => p.fr a o h1 h2 (no a), fun a h1 => (p.nF a h1).imp_right (Or.imp_right fun z => (no a z).elim), fun a h1 => (p.nI a h1).imp_right (Or.imp_right fun z => (no a z).elim), fun _ z => z.elim, p.dom, p.fz⟩
    cases f with
    | nx =>
      cases e
      exact fun F' ι' σ' H' s' p' => k F' ι' H' _ s'.rep (nn p') (by simp only [RV, RD])
    | rt v =>
      cases e
      refine fun F' ι' H' u r' p' rv => k F' ι' H' u r' (nn p') ?_
      cases w with
      | d x => exact rv
      | own c =>
        obtain ⟨a, o, h1, h2, h3, h4, h5, h6⟩ := rv
        exact ⟨a, o, h1, h2, h3, h4, h5, .inr (h6.elim (fun z => (no a z).elim) id)⟩
    | bk => cases e
    | ct => cases e
  · cases e
/-! ### calls -/
def eCall (f : Den) (a : AM) (dds : List D) : EM := fun ρ S => (a ρ S).bind fun p => f (p.1 ++ dds) p.2
theorem snd_call {f : Den} {np : Nat} {t : TA} {m : AM} {dvs : List V} {dds : List D} {E : XK} (h : SndA G t m) (hd : ∀ F ι, RDs G F ι dds dvs) (hn : ∀ ds S w S', f ds S = some (w, S') → ds.length = np) : SndV G (tCall (spI G np f) dvs E t) (eCall f m dds) := by
  intro F ι S ρ σ H w S' s e Q k
  unfold eCall at e
  obtain ⟨⟨ds, S1⟩, e1, e⟩ := Option.bind_eq_some_iff.mp e
  refine h s e1 _ fun F1 ι1 H1 vs s1 p1 rs => ?_
  have rs2 := rs.app (hd F1 ι1)
  exact ⟨by rw [← rs2.len]; exact hn _ _ _ _ e, F1, ι1, S1, _, w, S', s1.rep, rs2, e, fun F' ι' H' v r' p' rv => k F' ι' H' v (s1.after r' p').1 (p1.trans p') (rv.back p1.back)⟩
theorem den_len {n np : Nat} {m : SM} : ∀ (ds : List D) (S : Sto) (w : VV) (S' : Sto), den n np m ds S = some (w, S') → ds.length = np := fun ds S w S' e => by
  unfold den at e
  split at e
  · assumption
  · cases e
/-- keywords: gD, gV put the values in the parameters' order -/
def eCallK (f : Den) (gD : List D → List D → List D) (a b : AM) : EM := fun ρ S => (a ρ S).bind fun p => (b ρ p.2).bind fun q => f (gD p.1 q.1) q.2
theorem snd_callK {f : Den} {np : Nat} {t tk : TA} {m mk : AM} {gV : List V → List V → List V} {gD : List D → List D → List D} {E : XK} (h : SndA G t m) (hk : SndA G tk mk) (hg : ∀ F ι ds es vs zs, RDs G F ι ds vs → RDs G F ι es zs → RDs G F ι (gD ds es) (gV vs zs))
    (hn : ∀ ds S w S', f ds S = some (w, S') → ds.length = np) : SndV G (tCallK (spI G np f) gV E t tk) (eCallK f gD m mk) := by
  intro F ι S ρ σ H w S' s e Q k
  unfold eCallK at e
  obtain ⟨⟨ds, S1⟩, e1, e⟩ := Option.bind_eq_some_iff.mp e
  obtain ⟨⟨es, S2⟩, e2, e⟩ := Option.bind_eq_some_iff.mp e
  refine h s e1 _ fun F1 ι1 H1 vs s1 p1 rs => ?_
  refine hk s1 e2 _ fun F2 ι2 H2 zs s2 p2 rz => ?_
  have rs2 := hg F2 ι2 _ _ _ _ (rs.mono p2.exF p2.pre) rz
  have pp := p1.trans p2
  exact ⟨by rw [← rs2.len]; exact hn _ _ _ _ e, F2, ι2, S2, _, w, S', s2.rep, rs2, e, fun F' ι' H' v r' p' rv => k F' ι' H' v (s2.after r' p').1 (pp.trans p') (rv.back pp.back)⟩
/-! ### instances -/
def lkp {κ β : Type} [DecidableEq κ] (k : κ) : List (κ × β) → Option β
  | [] => none
  | (j, d) :: r => if k = j then some d else lkp k r
def putD (f : Str) (d : D) : List (Str × D) → List (Str × D)
  | [] => [(f, d)]
  | (g, x) :: r => if g = f then (g, d) :: r else (g, x) :: putD f d r
theorem rks_lkp {f : Str} : ∀ {fs : List (Str × D)} {kv : List (Str × V)}, RKs G F ι fs kv → (∀ d, lkp f fs = some d → ∃ v, kv.lookup f = some v ∧ RD G F ι d v) ∧ (lkp f fs = none → kv.lookup f = none)
  | [], kv, h => by
    cases (show kv = [] from h)
    exact ⟨fun d e => by simp [lkp] at e, fun _ => rfl⟩
  | (g, x) :: r, kv, h => by
    obtain ⟨v, r', rfl, h1, h2⟩ := h
    obtain ⟨i1, i2⟩ := rks_lkp (f := f) h2
    unfold lkp
    by_cases e : f = g
    · subst e
      rw [if_pos rfl]
      exact ⟨fun d q => ⟨v, by simp [List.lookup], by cases q; exact h1⟩, fun q => by cases q⟩
    · have hb : (f == g) = false := beq_eq_false_iff_ne.mpr e
      rw [if_neg e]
      refine ⟨fun d q => ?_, fun q => ?_⟩
      · obtain ⟨u, q1, q2⟩ := i1 d q
        exact ⟨u, by simp [List.lookup, hb, q1], q2⟩
      · simp [List.lookup, hb, i2 q]
theorem rks_put {f : Str} {d : D} {v : V} (hd : RD G F ι d v) : ∀ {fs : List (Str × D)} {kv : List (Str × V)}, RKs G F ι fs kv → RKs G F ι (putD f d fs) (putF f v kv)
  | [], kv, h => by
    cases (show kv = [] from h)
    exact ⟨v, [], rfl, hd, rfl⟩
  | (g, x) :: r, kv, h => by
    obtain ⟨u, r', rfl, h1, h2⟩ := h
    unfold putD putF
    by_cases e : g = f
    · rw [if_pos e, if_pos e]
      exact ⟨v, r', rfl, hd, h2⟩
    · rw [if_neg e, if_neg e]
      exact ⟨u, _, rfl, h1, rks_put hd h2⟩
theorem rks_len {κ : Type} : ∀ {fs : List (κ × D)} {kv : List (κ × V)}, RKs G F ι fs kv → fs.length = kv.length
  | [], kv, h => by cases (show kv = [] from h); rfl
  | (g, x) :: r, kv, h => by
    obtain ⟨u, r', rfl, h1, h2⟩ := h
    exact congrArg Nat.succ (rks_len h2)
/-- what a class c must have for the attribute f -/
structure FldOk (G : Gm) (c : Nat) (f : Str) : Prop where
  cl : Cls G.K (G.cl c)
  na : NoAttr G.K (G.cl c) f
def insAt (c : Nat) (d : D) (S : Sto) : Option (Nat × List (Str × D)) := match d with
  | .ref n => match S[n]? with
    | some (.ins c' fs) => if c' = c then some (n, fs) else none
    | _ => none
  | _ => none
theorem insAt_some {c : Nat} {d : D} {n : Nat} {fs : List (Str × D)} (h : insAt c d S = some (n, fs)) : d = .ref n ∧ S[n]? = some (.ins c fs) := by
  unfold insAt at h
  split at h
  · split at h
    · rename_i m c' gs e
      split at h
      · rename_i hc
        cases h
        exact ⟨rfl, by rw [e, hc]⟩
      · cases h
    · cases h
  · cases h
theorem ins_get {c : Nat} {d : D} {n : Nat} {fs : List (Str × D)} {v : V} (r : Rep G F ι S H) (h : insAt c d S = some (n, fs)) (rd : RD G F ι d v) : ∃ a dx kv, v = .ref a ∧ ι[n]? = some a ∧ H a = some (.ins (G.cl c) dx kv) ∧ RKs G F ι fs kv := by
  obtain ⟨rfl, h'⟩ := insAt_some h
  obtain ⟨a, o, h1, h2, dx, kv, rfl, h3⟩ := r.cell n _ h'
  simp only [RD] at rd
  obtain ⟨b, rfl, q⟩ := rd
  rw [h1] at q
  cases q
  exact ⟨_, dx, kv, rfl, h1, h2, h3⟩
def eFld (c : Nat) (f : Str) (m : EM) : EM := fun ρ S => (eD m ρ S).bind fun p => (insAt c p.1 p.2).bind fun q => (lkp f q.2).map fun d => (.d d, p.2)
theorem snd_fld {c : Nat} {f : Str} (ok : FldOk G c f) (h : SndV G te me) : SndV G (tFld G.K te f) (eFld c f me) := by
  intro F ι S ρ σ H w S' s e Q k
  unfold eFld at e
  obtain ⟨⟨x, S1⟩, e1, e⟩ := Option.bind_eq_some_iff.mp e
  obtain ⟨⟨n, fs⟩, e2, e⟩ := Option.bind_eq_some_iff.mp e
  obtain ⟨d, e3, e⟩ := Option.map_eq_some_iff.mp e
  cases e
  refine snd_d h s e1 _ fun F1 ι1 H1 v s1 p1 r => ?_
  obtain ⟨a, dx, kv, rfl, _, h2, h3⟩ := ins_get s1.rep e2 r
  obtain ⟨u, q1, q2⟩ := (rks_lkp h3).1 d e3
  exact ⟨a, _, dx, kv, u, rfl, h2, ok.cl, ok.na, q1, k F1 ι1 H1 u s1 p1 q2⟩
def sFldS (c : Nat) (f : Str) (mo mv : EM) : SM := fun ρ S => (eD mv ρ S).bind fun p => (eD mo ρ p.2).bind fun q => (insAt c q.1 q.2).bind fun u => if u.2.length < 999 then some (.nx, ρ, q.2.set u.1 (.ins c (putD f p.1 u.2))) else none
theorem snd_fldS {c : Nat} {f : Str} {to tv : TE} {mo mv : EM} (ok : FldOk G c f) (ho : SndV G to mo) (hv : SndV G tv mv) : SndS G (sFld G.K to tv f) (sFldS c f mo mv) := by
  intro F ι S ρ σ H fl ρ' S' s e W k
  unfold sFldS at e
  obtain ⟨⟨y, S1⟩, e1, e⟩ := Option.bind_eq_some_iff.mp e
  obtain ⟨⟨x, S2⟩, e2, e⟩ := Option.bind_eq_some_iff.mp e
  obtain ⟨⟨n, fs⟩, e3, e⟩ := Option.bind_eq_some_iff.mp e
  dsimp only at e
  split at e
  · rename_i hz
    cases e
    refine snd_d hv s e1 _ fun F1 ι1 H1 vy s1 p1 ry => ?_
    refine snd_d ho s1 e2 _ fun F2 ι2 H2 vx s2 p2 rx => ?_
    obtain ⟨a, dx, kv, rfl, h1, h2, h3⟩ := ins_get s2.rep e3 rx
    have rc : RC G F2 ι2 (.ins c (putD f y fs)) (.ins (G.cl c) dx (putF f vy kv)) := ⟨dx, _, rfl, rks_put (ry.mono p2.exF p2.pre) h3⟩
    obtain ⟨r3, p3⟩ := s2.rep.put h1 (insAt_some e3).2 rfl rc
    refine ⟨a, _, dx, kv, rfl, h2, ok.cl, ok.na, by rw [← rks_len h3]; omega, ?_⟩
    exact k F2 ι2 σ _ (s2.after r3 p3).1 (stx_own ((p1.trans p2).trans p3))
  · cases e
/-- o.f op= e, where the operation on values leaves the store -/
def sFldA (c : Nat) (f : Str) (g : D → D → Sto → Option VV) (mo mv : EM) : SM := fun ρ S => (eD mo ρ S).bind fun p => (insAt c p.1 p.2).bind fun u => (lkp f u.2).bind fun x => (eD mv ρ p.2).bind fun q => (g x q.1 q.2).bind fun w => match w with
  | .d z => (insAt c p.1 q.2).bind fun u2 => if u2.2.length < 999 then some (.nx, ρ, q.2.set u2.1 (.ins c (putD f z u2.2))) else none
  | .own _ => none
theorem snd_fldA {c : Nat} {f : Str} {to tv : TE} {mo mv : EM} {rd : V → V → Hp → VK → Prop} {g : D → D → Sto → Option VV} (ok : FldOk G c f) (ho : SndV G to mo) (hv : SndV G tv mv) (hg : SndR2 G rd g) : SndS G (sFldAug G.K to tv rd f) (sFldA c f g mo mv) := by
  intro F ι S ρ σ H fl ρ' S' s e W k
  unfold sFldA at e
  obtain ⟨⟨o, S1⟩, e1, e⟩ := Option.bind_eq_some_iff.mp e
  obtain ⟨⟨n, fs⟩, e2, e⟩ := Option.bind_eq_some_iff.mp e
  obtain ⟨x, e3, e⟩ := Option.bind_eq_some_iff.mp e
  obtain ⟨⟨y, S2⟩, e4, e⟩ := Option.bind_eq_some_iff.mp e
  obtain ⟨w, e5, e⟩ := Option.bind_eq_some_iff.mp e
  match w, e with
  | .d z, e =>
    obtain ⟨⟨n2, fs2⟩, e6, e⟩ := Option.bind_eq_some_iff.mp e
    dsimp only at e
    split at e
    · rename_i hz
      cases e
      refine snd_d ho s e1 _ fun F1 ι1 H1 vo s1 p1 ro => ?_
      obtain ⟨a, dx, kv, rfl, h1, h2, h3⟩ := ins_get s1.rep e2 ro
      obtain ⟨vx, q1, q2⟩ := (rks_lkp h3).1 x e3
      refine ⟨a, _, dx, kv, vx, rfl, h2, ok.cl, ok.na, q1, ?_⟩
      refine snd_d hv s1 e4 _ fun F2 ι2 H2 vy s2 p2 ry => ?_
      refine hg s2.rep (q2.mono p2.exF p2.pre) ry e5 _ fun F3 H3 vz r3 p3 rz => ?_
      have pp := p2.trans p3
      obtain ⟨a', dx', kv', ea, h1', h2', h3'⟩ := ins_get r3 e6 (ro.mono pp.exF pp.pre)
      cases ea
      have rc : RC G F3 ι2 (.ins c (putD f z fs2)) (.ins (G.cl c) dx' (putF f vz kv')) := ⟨dx', _, rfl, rks_put rz h3'⟩
      obtain ⟨r4, p4⟩ := r3.put h1' (insAt_some e6).2 rfl rc
      refine ⟨dx', kv', h2', by rw [← rks_len h3']; omega, ?_⟩
      exact k F3 ι2 σ _ (s1.after r4 (pp.trans p4)).1 (stx_own ((p1.trans pp).trans p4))
    · cases e
def eMeth (c : Nat) (m : Str) (f : Den) (mo : EM) (a : AM) (dds : List D) : EM := fun ρ S => (eD mo ρ S).bind fun p => (insAt c p.1 p.2).bind fun u => if (lkp m u.2).isNone = true then (a ρ p.2).bind fun q => f (p.1 :: (q.1 ++ dds)) q.2 else none
theorem snd_meth {c : Nat} {m : Str} {f : Den} {np : Nat} {to : TE} {mo : EM} {t : TA} {a : AM} {dvs : List V} {dds : List D} {E : XK} (ho : SndV G to mo) (h : SndA G t a) (hd : ∀ F ι, RDs G F ι dds dvs) (hn : ∀ ds S w S', f ds S = some (w, S') → ds.length = np) :
    SndV G (tMeth (G.cl c) m (spI G np f) dvs E to t) (eMeth c m f mo a dds) := by
  intro F ι S ρ σ H w S' s e Q k
  unfold eMeth at e
  obtain ⟨⟨o, S1⟩, e1, e⟩ := Option.bind_eq_some_iff.mp e
  obtain ⟨⟨n, fs⟩, e2, e⟩ := Option.bind_eq_some_iff.mp e
  dsimp only at e
  split at e
  · rename_i hl
    obtain ⟨⟨ds, S2⟩, e3, e⟩ := Option.bind_eq_some_iff.mp e
    refine snd_d ho s e1 _ fun F1 ι1 H1 vo s1 p1 ro => ?_
    obtain ⟨b, dx, kv, rfl, h1, h2, h3⟩ := ins_get s1.rep e2 ro
    refine ⟨b, dx, kv, rfl, h2, (rks_lkp h3).2 (Option.isNone_iff_eq_none.mp hl), ?_⟩
    refine h s1 e3 _ fun F2 ι2 H2 vs s2 p2 rs => ?_
    have rs2 : RDs G F2 ι2 (o :: (ds ++ dds)) (.ref b :: (vs ++ dvs)) := rds_cons.mpr ⟨_, _, rfl, ro.mono p2.exF p2.pre, rs.app (hd F2 ι2)⟩
    have pp := p1.trans p2
    exact ⟨by rw [← rs2.len]; exact hn _ _ _ _ e, F2, ι2, S2, _, w, S', s2.rep, rs2, e, fun F' ι' H' v r' p' rv => k F' ι' H' v (s2.after r' p').1 (pp.trans p') (rv.back pp.back)⟩
  · cases e
def eMake (c : Nat) (f : Den) (a : AM) (dds : List D) : EM := fun ρ S => (a ρ S).bind fun p => (f (.ref p.2.length :: (p.1 ++ dds)) (p.2 ++ [.ins c []])).bind fun q => match q.1 with
  | .d .non => some (.d (.ref p.2.length), q.2)
  | _ => none
theorem snd_make {c : Nat} {f : Den} {np : Nat} {t : TA} {a : AM} {dvs : List V} {dds : List D} {E : XK} (h : SndA G t a) (hd : ∀ F ι, RDs G F ι dds dvs) (hn : ∀ ds S w S', f ds S = some (w, S') → ds.length = np) :
    SndV G (tMake (G.cl c) (spI G np f) dvs E t) (eMake c f a dds) := by
  intro F ι S ρ σ H w S' s e Q k
  unfold eMake at e
  obtain ⟨⟨ds, S1⟩, e1, e⟩ := Option.bind_eq_some_iff.mp e
  obtain ⟨⟨u, S2⟩, e2, e⟩ := Option.bind_eq_some_iff.mp e
  match u, e with
  | .d .non, e =>
    cases e
    refine h s e1 _ fun F1 ι1 H1 vs s1 p1 rs x dx hx hdx hne => ?_
    obtain ⟨r2, p2⟩ := s1.rep.newO (o := .own x) hdx
    have hx2 : upd H1 dx (.own x) x = none := by rw [upd_ne (Ne.symm hne)]; exact hx
    obtain ⟨r3, p3⟩ := r2.newO (o := .ins (G.cl c) dx []) hx2
    have hF : F1 x = none := s1.rep.noF hx
    have hI : x ∉ ι1 := s1.rep.noI hx
    have r4 := r3.box (c := .ins c []) upd_same ⟨dx, [], rfl, rfl⟩ hF hI
    have p4 : Stx F1 ι1 H1 F1 (ι1 ++ [x]) (upd (upd H1 dx (.own x)) x (.ins (G.cl c) dx [])) := by
      have pp := p2.trans p3
      exact ⟨pp.exF, List.prefix_append _ _, pp.fr, pp.nF, fun b hb => by
        rcases List.mem_append.mp hb with z | z
        · exact .inl z
        · have : b = x := by simpa using z
          subst this
          exact .inr (.inl hx), pp.nO, pp.dom, pp.fz⟩
    have rx : RD G F1 (ι1 ++ [x]) (.ref S1.length) (.ref x) := by
      simp only [RD]
      exact ⟨x, rfl, by rw [← s1.rep.len, List.getElem?_append_right (Nat.le_refl _), Nat.sub_self]; rfl⟩
    have rs2 : RDs G F1 (ι1 ++ [x]) (.ref S1.length :: (ds ++ dds)) (.ref x :: (vs ++ dvs)) := rds_cons.mpr ⟨_, _, rfl, rx, (rs.mono (Same.refl _) (List.prefix_append _ _)).app (hd _ _)⟩
    refine ⟨by rw [← rs2.len]; exact hn _ _ _ _ e2, F1, ι1 ++ [x], _, _, _, _, r4, rs2, e2, fun F' ι' H' v r' p' rv => ?_⟩
    simp only [RV, RD] at rv
    have pp := p4.trans p'
    exact ⟨rv, k F' ι' H' _ (s1.after r' pp).1 (p1.trans pp) (rx.mono p'.exF p'.pre)⟩
/-! ### for -/
def ItL (G : Gm) (F : Hp) (ι : List Addr) (H : Hp) (J : It) (items : List D) : Prop := ∀ {F1 : Hp} {ι1 : List Addr} {S1 : Sto} {H1 : Hp}, Same F F1 → Pre ι ι1 → (∀ a ob u, H a = some (.frz ob u) → H1 a = some (.frz ob u)) → Rep G F1 ι1 S1 H1 → ∀ i : Nat,
  (∀ d, items[i]? = some d → J.go i H1 ∧ ∀ x H2, J.yld i H1 x H2 → ∃ F2, Rep G F2 ι1 S1 H2 ∧ Stx F1 ι1 H1 F2 ι1 H2 ∧ RD G F2 ι1 d x) ∧ (items.length ≤ i → J.stop i H1)
def SndI (G : Gm) (wi : TI) (m : AM) : Prop := ∀ {F : Hp} {ι : List Addr} {S : Sto} {ρ : Slt} {σ : St} {H : Hp} {ds : List D} {S' : Sto}, Sta G F ι S ρ σ H → m ρ S = some (ds, S') → ∀ R : It → Hp → Prop,
  (∀ F' ι' H' J, Sta G F' ι' S' ρ σ H' → Stx F ι H F' ι' H' → ItL G F' ι' H' J ds → R J H') → wi σ H R
def forL (g : TM) (b : SM) : List D → SM
  | [], ρ, S => some (.nx, ρ, S)
  | d :: r, ρ, S => (g d ρ).bind fun ρ1 => (b ρ1 S).bind fun p => match p.1 with
    | .nx => forL g b r p.2.1 p.2.2
    | .ct => forL g b r p.2.1 p.2.2
    | .bk => some (.nx, p.2.1, p.2.2)
    | .rt v => some (.rt v, p.2.1, p.2.2)
def sFor (i : AM) (g : TM) (b : SM) : SM := fun ρ S => (i ρ S).bind fun p => forL g b p.1 ρ p.2
theorem snd_for {wi : TI} {mi : AM} {g : TG} {mg : TM} {vs : List Nat} {tb : TS} {mb : SM} (hi : SndI G wi mi) (hg : SndG G g mg vs) (hb : SndS G tb mb) : SndS G (tFor wi g tb) (sFor mi mg mb) := by
  intro F ι S ρ σ H fl ρ' S' s e W k
  unfold sFor at e
  obtain ⟨⟨items, S1⟩, e1, e⟩ := Option.bind_eq_some_iff.mp e
  dsimp only at e
  refine hi s e1 _ fun F1 ι1 H1 J s1 p1 hJ => ?_
  have k1 := k.later (stx_own (O := OwnA ρ σ) p1)
  refine ⟨fun i m σ2 H2 => m = items.length - i ∧ i ≤ items.length ∧ ∃ F2 ι2 S2 ρ2, Sta G F2 ι2 S2 ρ2 σ2 H2 ∧ Stp F1 ι1 (OwnA ρ σ) H1 F2 ι2 (OwnA ρ2 σ2) H2 ∧ forL mg mb (items.drop i) ρ2 S2 = some (fl, ρ', S'), ⟨items.length, by simp, Nat.zero_le _, F1, ι1, S1, ρ, s1, .refl, by simpa using e⟩, ?_⟩
  rintro i m σ2 H2 ⟨rfl, hle, F2, ι2, S2, ρ2, s2, p2, e2⟩
  obtain ⟨j1, j2⟩ := hJ p2.exF p2.pre p2.fz s2.rep i
  by_cases hlt : i < items.length
  · have ed : items.drop i = items[i] :: items.drop (i + 1) := List.drop_eq_getElem_cons hlt
    rw [ed] at e2
    obtain ⟨ρ3, e3, e2⟩ := Option.bind_eq_some_iff.mp (show ((mg items[i] ρ2).bind fun ρ1 => (mb ρ1 S2).bind fun p => match p.1 with
      | .nx => forL mg mb (items.drop (i + 1)) p.2.1 p.2.2
      | .ct => forL mg mb (items.drop (i + 1)) p.2.1 p.2.2
      | .bk => some (.nx, p.2.1, p.2.2)
      | .rt v => some (.rt v, p.2.1, p.2.2)) = some (fl, ρ', S') from e2)
    obtain ⟨⟨f4, ρ4, S4⟩, e4, e2⟩ := Option.bind_eq_some_iff.mp e2
    obtain ⟨go, yl⟩ := j1 items[i] (List.getElem?_eq_getElem hlt)
    refine .inr ⟨go, fun σ' H' => ∃ F2 ι2 S2 ρ2, Sta G F2 ι2 S2 ρ2 σ' H' ∧ Stp F1 ι1 (OwnA ρ σ) H1 F2 ι2 (OwnA ρ2 σ') H' ∧ forL mg mb (items.drop (i + 1)) ρ2 S2 = some (fl, ρ', S'), fun σ' H' h => ⟨items.length - (i + 1), by omega, rfl, hlt, h⟩, fun x H3 y => ?_⟩
    obtain ⟨F3, r3, p3, rd⟩ := yl x H3 y
    have s3 := (s2.after r3 p3).1
    have pp : Stp F1 ι1 (OwnA ρ σ) H1 F3 ι2 (OwnA ρ2 σ2) H3 := p2.trans (stx_own p3)
    refine hg s3 rd e3 _ fun σ4 s4 o4 _ => ?_
    have p4 : Stp F1 ι1 (OwnA ρ σ) H1 F3 ι2 (OwnA ρ3 σ4) H3 := pp.trans (Stp.same o4)
    refine hb s4 e4 _ ?_
    cases f4 with
    | nx => exact fun F5 ι5 σ5 H5 s5 p5 => ⟨F5, ι5, S4, ρ4, s5, p4.trans p5, e2⟩
    | ct => exact fun F5 ι5 σ5 H5 s5 p5 => ⟨F5, ι5, S4, ρ4, s5, p4.trans p5, e2⟩
    | bk => cases e2; exact fun F5 ι5 σ5 H5 s5 p5 => k1 F5 ι5 σ5 H5 s5 (p4.trans p5)
    | rt v => cases e2; exact k1.later p4
  · have ei : i = items.length := by omega
    subst ei
    rw [List.drop_length] at e2
    cases e2
    exact .inl ⟨j2 (Nat.le_refl _), k1 F2 ι2 σ2 H2 s2 p2⟩
/-! ### while -/
def whL (c : BM) (b : SM) : Nat → SM
  | 0, _, _ => none
  | n + 1, ρ, S => (c ρ S).bind fun q => if q.1 = true then (b ρ q.2).bind fun p => match p.1 with
    | .nx => whL c b n p.2.1 p.2.2
    | .ct => whL c b n p.2.1 p.2.2
    | .bk => some (.nx, p.2.1, p.2.2)
    | .rt v => some (.rt v, p.2.1, p.2.2)
    else some (.nx, ρ, q.2)
theorem snd_while {tb : TS} {mb : SM} (n : Nat) (hc : SndT G tt mt) (hb : SndS G tb mb) : SndS G (tWhile tt tb) (whL mt mb n) := by
  intro F ι S ρ σ H fl ρ' S' s e W k
  refine ⟨fun m σ2 H2 => ∃ F2 ι2 S2 ρ2, Sta G F2 ι2 S2 ρ2 σ2 H2 ∧ Stp F ι (OwnA ρ σ) H F2 ι2 (OwnA ρ2 σ2) H2 ∧ whL mt mb m ρ2 S2 = some (fl, ρ', S'), ⟨n, F, ι, S, ρ, s, .refl, e⟩, ?_⟩
  rintro m σ2 H2 ⟨F2, ι2, S2, ρ2, s2, p2, e2⟩
  cases m with
  | zero => cases e2
  | succ m =>
    obtain ⟨⟨b, S3⟩, e3, e2⟩ := Option.bind_eq_some_iff.mp (show ((mt ρ2 S2).bind fun q => if q.1 = true then (mb ρ2 q.2).bind fun p => match p.1 with
      | .nx => whL mt mb m p.2.1 p.2.2
      | .ct => whL mt mb m p.2.1 p.2.2
      | .bk => some (.nx, p.2.1, p.2.2)
      | .rt v => some (.rt v, p.2.1, p.2.2)
      else some (.nx, ρ2, q.2)) = some (fl, ρ', S') from e2)
    refine hc s2 e3 _ fun F3 ι3 H3 s3 p3 => ?_
    have p4 : Stp F ι (OwnA ρ σ) H F3 ι3 (OwnA ρ2 σ2) H3 := p2.trans (stx_own p3)
    cases b with
    | true =>
      rw [if_pos rfl]
      obtain ⟨⟨f4, ρ4, S4⟩, e4, e2⟩ := Option.bind_eq_some_iff.mp (show ((mb ρ2 S3).bind _) = some (fl, ρ', S') from e2)
      refine ⟨fun σ' H' => ∃ F2 ι2 S2 ρ2, Sta G F2 ι2 S2 ρ2 σ' H' ∧ Stp F ι (OwnA ρ σ) H F2 ι2 (OwnA ρ2 σ') H' ∧ whL mt mb m ρ2 S2 = some (fl, ρ', S'), fun σ' H' h => ⟨m, Nat.lt_succ_self m, h⟩, ?_⟩
      refine hb s3 e4 _ ?_
      cases f4 with
      | nx => exact fun F5 ι5 σ5 H5 s5 p5 => ⟨F5, ι5, S4, ρ4, s5, p4.trans p5, e2⟩
      | ct => exact fun F5 ι5 σ5 H5 s5 p5 => ⟨F5, ι5, S4, ρ4, s5, p4.trans p5, e2⟩
      | bk => cases e2; exact fun F5 ι5 σ5 H5 s5 p5 => k F5 ι5 σ5 H5 s5 (p4.trans p5)
      | rt v => cases e2; exact k.later p4
    | false =>
      rw [if_neg Bool.false_ne_true]
      cases e2
      exact k F3 ι3 σ2 H3 s3 p4
/-! ### comprehensions -/
def wipeS (ρ : Slt) : List Nat → Slt
  | [] => ρ
  | v :: vs => (wipeS ρ vs).set v none
theorem wipeS_len : ∀ vs : List Nat, (wipeS ρ vs).length = ρ.length
  | [] => rfl
  | v :: vs => by unfold wipeS; rw [List.length_set, wipeS_len vs]
theorem wipeS_some {i : Nat} {x : VV} : ∀ {vs : List Nat}, (wipeS ρ vs)[i]? = some (some x) → ρ[i]? = some (some x) ∧ i ∉ vs
  | [], h => ⟨h, by simp⟩
  | v :: vs, h => by
    unfold wipeS at h
    rcases set_get h with ⟨_, q⟩ | ⟨q, h⟩
    · cases q
    · obtain ⟨h1, h2⟩ := wipeS_some h
      exact ⟨h1, by simp [q, h2]⟩
theorem Sta.wipe {vs : List Nat} (s : Sta G F ι S ρ σ H) : Sta G F ι S (wipeS ρ vs) (wipe σ vs) H := by
  have up : ∀ {i : Nat}, i ∉ vs → (L2.wipe σ vs)[i]? = σ[i]? := fun h => wipe_out h
  refine ⟨s.rep, by rw [wipeS_len, wipe_length]; exact s.sl.len, fun i d h => ?_, fun i c h => ?_, fun i j ci cj a h1 h2 h3 h4 => ?_⟩
  · obtain ⟨h1, h2⟩ := wipeS_some h
    obtain ⟨v, q1, q2⟩ := s.sl.val i d h1
    exact ⟨v, by rw [up h2]; exact q1, q2⟩
  · obtain ⟨h1, h2⟩ := wipeS_some h
    obtain ⟨a, o, q1, q2⟩ := s.sl.own i c h1
    exact ⟨a, o, by rw [up h2]; exact q1, q2⟩
  · obtain ⟨q1, q2⟩ := wipeS_some h1
    obtain ⟨q3, q4⟩ := wipeS_some h2
    rw [up q2] at h3
    rw [up q4] at h4
    exact s.sl.osep i j ci cj a q1 q3 h3 h4
theorem wipe_get {σ : St} {i : Nat} : ∀ {vs : List Nat}, i ∈ vs → (L2.wipe σ vs)[i]? = if i < σ.length then some none else none
  | [], h => by simp at h
  | v :: vs, h => by
    unfold L2.wipe
    by_cases e : i = v
    · subst e
      by_cases hl : i < σ.length
      · rw [List.getElem?_set_self (by rw [wipe_length]; exact hl), if_pos hl]
      · rw [if_neg hl, List.getElem?_eq_none_iff]
        rw [List.length_set, wipe_length]
        omega
    · rw [List.getElem?_set_ne (Ne.symm e)]
      rcases List.mem_cons.mp h with z | z
      · exact absurd z e
      · exact wipe_get z
theorem wipe_only {vs ws : List Nat} (h : Only ws (L2.wipe σ vs) σ') (hs : ∀ i ∈ ws, i ∈ vs) : L2.wipe σ' vs = L2.wipe σ vs := by
  apply List.ext_getElem?
  intro i
  have hl : σ'.length = σ.length := by rw [h.1, wipe_length]
  by_cases hi : i ∈ vs
  · rw [wipe_get hi, wipe_get hi, hl]
  · rw [wipe_out hi, wipe_out hi, h.2 i (fun z => hi (hs i z)), wipe_out hi]
def compL (g : TM) (c : BM) (m : EM) (ρ : Slt) : List D → List D → Sto → Option (List D × Sto)
  | [], ys, S => some (ys, S)
  | d :: r, ys, S => (g d ρ).bind fun ρ1 => (c ρ1 S).bind fun p => if p.1 = true then (eD m ρ1 p.2).bind fun q => if szOk ys.length then compL g c m ρ r (ys ++ [q.1]) q.2 else none else compL g c m ρ r ys p.2
def eLc (i : AM) (g : TM) (c : BM) (m : EM) (vs : List Nat) : EM := fun ρ S => (i ρ S).bind fun p => (compL g c m (wipeS ρ vs) p.1 [] p.2).map fun q => (.own (.lst q.1), q.2)
def bYes : BM := fun _ S => some (true, S)
theorem snd_yes : SndT G tYes bYes := by
  intro F ι S ρ σ H b S' s e Q k
  cases e
  exact k F ι H s .refl
theorem snd_lc {wi : TI} {mi : AM} {g : TG} {mg : TM} {ws vs : List Nat} (hi : SndI G wi mi) (hg : SndG G g mg ws) (ht : SndT G tt mt) (he : SndV G te me) (hw : ∀ i ∈ ws, i ∈ vs) : SndV G (tLc wi g tt te vs) (eLc mi mg mt me vs) := by
  intro F ι S ρ σ H w S' s e Q k
  unfold eLc at e
  obtain ⟨⟨items, S1⟩, e1, e⟩ := Option.bind_eq_some_iff.mp e
  obtain ⟨⟨ys, S2⟩, e2, e⟩ := Option.map_eq_some_iff.mp e
  cases e
  refine hi s e1 _ fun F1 ι1 H1 J s1 p1 hJ => fun C hC => ?_
  have n1 : F1 C = none := s1.rep.noF hC
  have n2 : C ∉ ι1 := s1.rep.noI hC
  obtain ⟨r0, q0⟩ := s1.rep.newO (o := .lst []) hC
  refine ⟨fun i m H2 => m = items.length - i ∧ i ≤ items.length ∧ ∃ F2 ι2 S3 acc zs, Rep G F2 ι2 S3 H2 ∧ Stx F1 ι1 H1 F2 ι2 H2 ∧ H2 C = some (.lst acc) ∧ RDs G F2 ι2 zs acc ∧ F2 C = none ∧ C ∉ ι2 ∧ compL mg mt me (wipeS ρ vs) (items.drop i) zs S3 = some (ys, S2),
    ⟨items.length, by simp, Nat.zero_le _, F1, ι1, S1, [], [], r0, q0, upd_same, rds_nil.mpr rfl, n1, n2, by simpa using e2⟩, ?_⟩
  rintro i m H2 ⟨rfl, hle, F2, ι2, S3, acc, zs, r2, p2, hc, rz, c1, c2, e3⟩
  obtain ⟨j1, j2⟩ := hJ p2.exF p2.pre p2.fz r2 i
  by_cases hlt : i < items.length
  · have ed : items.drop i = items[i] :: items.drop (i + 1) := List.drop_eq_getElem_cons hlt
    rw [ed] at e3
    obtain ⟨ρ3, e4, e3⟩ := Option.bind_eq_some_iff.mp (show ((mg items[i] (wipeS ρ vs)).bind fun ρ1 => (mt ρ1 S3).bind fun p => if p.1 = true then (eD me ρ1 p.2).bind fun q => if szOk zs.length then compL mg mt me (wipeS ρ vs) (items.drop (i + 1)) (zs ++ [q.1]) q.2 else none else compL mg mt me (wipeS ρ vs) (items.drop (i + 1)) zs p.2) = some (ys, S2) from e3)
    obtain ⟨⟨b, S4⟩, e5, e3⟩ := Option.bind_eq_some_iff.mp e3
    obtain ⟨go, yl⟩ := j1 items[i] (List.getElem?_eq_getElem hlt)
    refine .inr ⟨go, fun H' => ∃ F2 ι2 S3 acc zs, Rep G F2 ι2 S3 H' ∧ Stx F1 ι1 H1 F2 ι2 H' ∧ H' C = some (.lst acc) ∧ RDs G F2 ι2 zs acc ∧ F2 C = none ∧ C ∉ ι2 ∧ compL mg mt me (wipeS ρ vs) (items.drop (i + 1)) zs S3 = some (ys, S2), fun H' h => ⟨items.length - (i + 1), by omega, rfl, hlt, h⟩, fun x H3 y => ?_⟩
    obtain ⟨F3, r3, p3, rd⟩ := yl x H3 y
    -- what is kept of the list that grows
    have keepC : ∀ {Fa : Hp} {ιa : List Addr} {Ha : Hp} {Fb : Hp} {ιb : List Addr} {Hb : Hp} {xs : List V}, Stx Fa ιa Ha Fb ιb Hb → Ha C = some (.lst xs) → Fa C = none → C ∉ ιa → Hb C = some (.lst xs) ∧ Fb C = none ∧ C ∉ ιb := fun {Fa ιa Ha Fb ιb Hb xs} p h1 h2 h3 => by
      have hne : Ha C ≠ none := by rw [h1]; exact fun z => by cases z
      refine ⟨p.fr C _ h1 h3 (fun z => z), ?_, fun z => ?_⟩
      · refine Classical.byContradiction fun z => ?_
        rcases p.nF C z with q | q | q
        · exact q h2
        · exact hne q
        · exact q
      · rcases p.nI C z with q | q | q
        · exact h3 q
        · exact hne q
        · exact q
    have s3 : Sta G F3 ι2 S3 ρ σ H3 := (s1.after r3 (p2.trans p3)).1
    obtain ⟨hc3, c3, d3⟩ := keepC p3 hc c1 c2
    refine hg (s3.wipe (vs := vs)) rd e4 _ fun σ4 s4 o4 on4 => ⟨wipe_only on4 hw, ?_⟩
    refine ht s4 e5 _ fun F5 ι5 H5 s5 p5 => ?_
    obtain ⟨hc5, c5, d5⟩ := keepC p5 hc3 c3 d3
    cases b with
    | true =>
      rw [if_pos rfl]
      dsimp only at e3
      rw [if_pos rfl] at e3
      obtain ⟨⟨yd, S6⟩, e6, e3⟩ := Option.bind_eq_some_iff.mp e3
      dsimp only at e3
      split at e3
      · rename_i hz
        refine snd_d he s5 e6 _ fun F6 ι6 H6 v6 s6 p6 r6 => ?_
        obtain ⟨hc6, c6, d6⟩ := keepC p6 hc5 c5 d5
        have pp := ((p2.trans p3).trans p5).trans p6
        have rz6 : RDs G F6 ι6 zs acc := rz.mono ((p3.trans p5).trans p6).exF ((p3.trans p5).trans p6).pre
        refine ⟨acc, hc6, by rw [← rz6.len]; exact szOk_lt hz, F6, ι6, S6, acc ++ [v6], zs ++ [yd], ?_, ?_, upd_same, rz6.app (RDs.one r6), c6, d6, e3⟩
        · refine ⟨fun a o h => ?_, fun n c h => ?_, s6.rep.len, s6.rep.nd, s6.rep.sep⟩
          · rw [upd_ne (ne_of_none h c6)]; exact s6.rep.ex a o h
          · obtain ⟨a, o, q1, q2, q3⟩ := s6.rep.cell n c h
            exact ⟨a, o, q1, by rw [upd_ne fun z => d6 (by rw [← z]; exact List.mem_of_getElem? q1)]; exact q2, q3⟩
        · refine ⟨pp.exF, pp.pre, fun a o h1 h2 h3 => ?_, pp.nF, pp.nI, fun _ z => z.elim, fun a h => ?_, fun a ob u h => ?_⟩
          · rw [upd_ne (ne_of_none h1 hC)]; exact pp.fr a o h1 h2 h3
          · by_cases ha : a = C
            · subst ha; rw [upd_same]; exact fun z => by cases z
            · rw [upd_ne ha]; exact pp.dom a h
          · rw [upd_ne (ne_of_none h hC)]; exact pp.fz a ob u h
      · cases e3
    | false =>
      rw [if_neg Bool.false_ne_true]
      dsimp only at e3
      rw [if_neg Bool.false_ne_true] at e3
      exact ⟨F5, ι5, S4, acc, zs, s5.rep, (p2.trans p3).trans p5, hc5, rz.mono (p3.trans p5).exF (p3.trans p5).pre, c5, d5, e3⟩
  · have ei : i = items.length := by omega
    subst ei
    rw [List.drop_length] at e3
    cases e3
    refine .inl ⟨j2 (Nat.le_refl _), ?_⟩
    have pp := p1.trans p2
    exact k F2 ι2 H2 _ (s.after r2 pp).1 pp ⟨C, _, rfl, hc, ⟨acc, rfl, rz⟩, c1, c2, .inr (p1.back C hC)⟩
end
end Yi
/-! Operations by values, over states. -/
namespace Yi
open PySem L2
section
variable {G : Gm} {F F' H H' : Hp} {ι ι' : List Addr} {S S' : Sto} {ρ ρ' : Slt} {σ σ' : St} {ta tb tc te : TE} {ma mb mc me : EM} {tt tu : TT} {mt mu : BM}
/-! ### what a sequence holds -/
def lstD : D → Sto → Option (List D)
  | .fl ds, _ => some ds
  | .ref n, S => match S[n]? with
    | some (.lst ds) => some ds
    | _ => none
  | _, _ => none
def seqD : D → Sto → Option (List D)
  | .tup ds, _ => some ds
  | .lk ns, _ => some (ns.map .int)
  | x, S => lstD x S
theorem lst_get {x : D} {ds : List D} {v : V} (r : Rep G F ι S H) (rd : RD G F ι x v) (h : lstD x S = some ds) : ∃ a vs, v = .ref a ∧ H a = some (.lst vs) ∧ RDs G F ι ds vs := by
  cases x with
  | fl es =>
    cases h
    simp only [RD] at rd
    obtain ⟨a, vs, e, h1, h2⟩ := rd
    exact ⟨a, vs, e, r.ex _ _ h1, h2⟩
  | ref n =>
    simp only [lstD] at h
    split at h
    · rename_i es e
      cases h
      obtain ⟨a, o, h1, h2, vs, rfl, h3⟩ := r.cell n _ e
      simp only [RD] at rd
      obtain ⟨b, rfl, q⟩ := rd
      rw [h1] at q
      cases q
      exact ⟨_, vs, rfl, h2, h3⟩
    · cases h
  | _ => cases h
theorem seq_get {x : D} {ds : List D} {v : V} (r : Rep G F ι S H) (rd : RD G F ι x v) (h : seqD x S = some ds) : ∃ a vs, v = .ref a ∧ (SqL G.K H a vs ∨ SqT G.K H a vs) ∧ RDs G F ι ds vs := by
  unfold seqD at h
  split at h
  · cases h
    simp only [RD] at rd
    obtain ⟨a, vs, e, h1, _, h2⟩ := rd
    exact ⟨a, vs, e, .inr (sqt_ex r.ex h1), h2⟩
  · cases h
    simp only [RD] at rd
    obtain ⟨a, e, h1⟩ := rd
    exact ⟨a, _, e, .inl (sql_ex r.ex h1), rds_ints.mpr rfl⟩
  · obtain ⟨a, vs, e, h1, h2⟩ := lst_get r rd h
    exact ⟨a, vs, e, .inl (SqL.of h1), h2⟩
theorem tup_get {ds : List D} {v : V} (r : Rep G F ι S H) (rd : RD G F ι (.tup ds) v) : ∃ a vs, v = .ref a ∧ SqT G.K H a vs ∧ (ds ≠ [] → H a = some (.tup vs)) ∧ RDs G F ι ds vs := by
  simp only [RD] at rd
  obtain ⟨a, vs, e, h1, h3, h2⟩ := rd
  exact ⟨a, vs, e, sqt_ex r.ex h1, fun q => r.ex _ _ (h3 q), h2⟩
/-! ### ints -/
def intR (f : Int → Int → Option D) : D → D → Sto → Option VV := fun x y _ => match x, y with
  | .int i, .int j => (f i j).map .d
  | _, _ => none
theorem snd_rI {C : Int → Int → Prop} {g : Int → Int → V} {f : Int → Int → Option D} (h : ∀ i j d, f i j = some d → C i j ∧ ∀ F ι, RD G F ι d (g i j)) : SndR2 G (rI C g) (intR f) := by
  intro F ι S H x y vx vy w r rx ry e Q k
  unfold intR at e
  split at e
  · rename_i i j
    obtain ⟨d, e1, e⟩ := Option.map_eq_some_iff.mp e
    cases e
    obtain ⟨h1, h2⟩ := h i j d e1
    simp only [RD] at rx ry
    exact ⟨i, j, rx, ry, h1, k F H _ r .refl (h2 F ι)⟩
  · cases e
theorem snd_rI0 {g : Int → Int → V} {f : Int → Int → D} (h : ∀ i j, ∀ F ι, RD G F ι (f i j) (g i j)) : SndR2 G (rI0 g) (intR fun i j => some (f i j)) := by
  intro F ι S H x y vx vy w r rx ry e Q k
  unfold intR at e
  split at e
  · rename_i i j
    cases e
    simp only [RD] at rx ry
    exact ⟨i, j, rx, ry, k F H _ r .refl (h i j F ι)⟩
  · cases e
def fSub : D → D → Sto → Option VV := intR fun i j => some (.int (i - j))
def fLt : D → D → Sto → Option VV := intR fun i j => some (.bl (decide (i < j)))
def fLe : D → D → Sto → Option VV := intR fun i j => some (.bl (decide (i ≤ j)))
def fGt : D → D → Sto → Option VV := intR fun i j => some (.bl (decide (j < i)))
def fGe : D → D → Sto → Option VV := intR fun i j => some (.bl (decide (j ≤ i)))
theorem snd_sub : SndR2 G (rI0 fun i j => .int (i - j)) fSub := snd_rI0 fun i j F ι => by simp only [RD]
theorem snd_lt : SndR2 G (rI0 fun i j => .bl (decide (i < j))) fLt := snd_rI0 fun i j F ι => by simp only [RD]
theorem snd_le : SndR2 G (rI0 fun i j => .bl (decide (i ≤ j))) fLe := snd_rI0 fun i j F ι => by simp only [RD]
theorem snd_gt : SndR2 G (rI0 fun i j => .bl (decide (j < i))) fGt := snd_rI0 fun i j F ι => by simp only [RD]
theorem snd_ge : SndR2 G (rI0 fun i j => .bl (decide (j ≤ i))) fGe := snd_rI0 fun i j F ι => by simp only [RD]
def fDiv : D → D → Sto → Option VV := intR fun i j => if 0 < j ∧ j < 2 ^ 80 then some (.int (i / j)) else none
def fMod : D → D → Sto → Option VV := intR fun i j => if 0 < j then some (.int (i % j)) else none
def fPow : D → D → Sto → Option VV := intR fun i j => if 0 ≤ j ∧ j ≤ 100 ∧ i.natAbs < 2 ^ 60 then some (.int (i ^ j.toNat)) else none
theorem snd_div : SndR2 G (rI CDivW fun i j => .int (i / j)) fDiv := snd_rI fun i j d e => by
  split at e
  · rename_i h
    cases e
    refine ⟨wide_div (b := 80) h.1 ?_ (by decide) (by decide), fun F ι => by simp only [RD]⟩
    have h2 : j < 2 ^ 80 := h.2
    have h1 : 0 < j := h.1
    omega
  · cases e
theorem snd_mod : SndR2 G (rI (fun _ j => 0 < j) fun i j => .int (i % j)) fMod := snd_rI fun i j d e => by
  split at e
  · rename_i h
    cases e
    exact ⟨h, fun F ι => by simp only [RD]⟩
  · cases e
theorem snd_pow : SndR2 G (rI CPow fun i j => .int (i ^ j.toNat)) fPow := snd_rI fun i j d e => by
  split at e
  · rename_i h
    cases e
    exact ⟨⟨h.1, by omega, by omega⟩, fun F ι => by simp only [RD]⟩
  · cases e
def fNeg : D → Sto → Option VV := fun x _ => match x with
  | .int i => some (.d (.int (-i)))
  | _ => none
theorem snd_neg : SndR1 G (rU fun i => .int (-i)) fNeg := by
  intro F ι S H x vx w r rx e Q k
  unfold fNeg at e
  split at e
  · rename_i i
    cases e
    simp only [RD] at rx
    exact ⟨i, rx, k F H _ r .refl (by simp only [RV, RD])⟩
  · cases e
/-! ### + of anything, * -/
theorem SndR2.or1 {r r' : R2} {f : D → D → Sto → Option VV} (h : SndR2 G r f) : SndR2 G (fun x y H Q => r x y H Q ∨ r' x y H Q) f := by
  intro F ι S H x y vx vy w q rx ry e Q k
  exact .inl (h q rx ry e Q k)
def rAddA (K : PySem.W.Frag) : R2 := fun x y H Q => rI0 (fun i j => .int (i + j)) x y H Q ∨ (rCat x y H Q ∨ (rCatA K x y H Q ∨ ∃ i j, x = .str i ∧ y = .str j ∧ i.length + j.length ≤ sizeLine ∧ Q (.str (i ++ j)) H))
theorem op_addA {X : Cx} : OpR X (binaryOp .Add) (rAddA X.K) := op_add.or (op_cat.or (op_catA.or op_add_str))
def fAdd : D → D → Sto → Option VV := fun x y S => match x, y with
  | .int i, .int j => some (.d (.int (i + j)))
  | .str a, .str b => if szOk (a.length + b.length) then some (.d (.str (a ++ b))) else none
  | .tup a, .tup b => if szOk (a.length + b.length) then some (.d (.tup (a ++ b))) else none
  | x, y => (lstD x S).bind fun a => (lstD y S).bind fun b => if szOk (a.length + b.length) then some (.own (.lst (a ++ b))) else none
theorem snd_add : SndR2 G (rAddA G.K) fAdd := by
  intro F ι S H x y vx vy w r rx ry e Q k
  unfold fAdd at e
  split at e
  · rename_i i j
    cases e
    simp only [RD] at rx ry
    exact .inl ⟨i, j, rx, ry, k F H _ r .refl (by simp only [RV, RD])⟩
  · rename_i a b
    split at e
    · rename_i hz
      cases e
      simp only [RD] at rx ry
      exact .inr (.inr (.inr ⟨a, b, rx, ry, szOk_le hz, k F H _ r .refl (by simp only [RV, RD])⟩))
    · cases e
  · rename_i a b
    split at e
    · rename_i hz
      cases e
      obtain ⟨p, xs, rfl, h1, h2, h3⟩ := tup_get r rx
      obtain ⟨q, ys, rfl, g1, g2, g3⟩ := tup_get r ry
      have l1 := h3.len
      have l2 := g3.len
      refine .inr (.inr (.inl ⟨p, q, xs, ys, rfl, rfl, h1, g1, by rw [← l1, ← l2]; exact szOk_le hz, fun ex => ?_, fun nx ey => ?_, fun nx ny t ht => ?_⟩))
      · subst ex
        have ea : a = [] := List.eq_nil_of_length_eq_zero l1
        subst ea
        exact k F H _ r .refl (by rw [List.nil_append]; exact ry)
      · subst ey
        have eb : b = [] := List.eq_nil_of_length_eq_zero l2
        subst eb
        exact k F H _ r .refl (by rw [List.append_nil]; exact rx)
      · obtain ⟨r2, p2⟩ := r.newF (o := .tup (xs ++ ys)) ht
        refine k _ _ _ r2 p2 ?_
        simp only [RV, RD]
        exact ⟨t, _, rfl, SqT.of upd_same, fun _ => upd_same, (h3.app g3).mono p2.exF p2.pre⟩
    · cases e
  · obtain ⟨a, e1, e⟩ := Option.bind_eq_some_iff.mp e
    obtain ⟨b, e2, e⟩ := Option.bind_eq_some_iff.mp e
    split at e
    · rename_i hz
      cases e
      obtain ⟨p, xs, rfl, h1, h3⟩ := lst_get r rx e1
      obtain ⟨q, ys, rfl, g1, g3⟩ := lst_get r ry e2
      refine .inr (.inl ⟨p, q, xs, ys, rfl, rfl, h1, g1, by rw [← h3.len, ← g3.len]; exact szOk_le hz, fun t ht => ?_⟩)
      obtain ⟨r2, p2⟩ := r.newO (o := .lst (xs ++ ys)) ht
      exact k _ _ _ r2 p2 ⟨t, _, rfl, upd_same, ⟨_, rfl, h3.app g3⟩, r.noF ht, r.noI ht, .inr ht⟩
    · cases e
def rMulA : R2 := fun x y H Q => rI CMul (fun i j => .int (i * j)) x y H Q ∨ rRep x y H Q
theorem op_mulA {X : Cx} : OpR X (binaryOp .Mult) rMulA := op_mul.or op_rep
def smallI (i : Int) : Bool := decide (-(2 ^ 63) ≤ i) && decide (i < 2 ^ 63)
theorem smallI_iff {i : Int} (h : smallI i = true) : -(2 ^ 63) ≤ i ∧ i < 2 ^ 63 := by
  unfold smallI at h
  rw [Bool.and_eq_true] at h
  exact ⟨of_decide_eq_true h.1, of_decide_eq_true h.2⟩
def fMul : D → D → Sto → Option VV := fun x y S => match x, y with
  | .int i, .int j => if smallI i || smallI j then some (.d (.int (i * j))) else none
  | x, .int k => (lstD x S).bind fun a => if smallI k && szOk (a.length * k.toNat) then some (.own (.lst (List.replicate k.toNat a).flatten)) else none
  | _, _ => none
theorem RDs.repl {ds : List D} {vs : List V} (h : RDs G F ι ds vs) : ∀ n : Nat, RDs G F ι (List.replicate n ds).flatten (List.replicate n vs).flatten
  | 0 => by simp only [List.replicate_zero, List.flatten_nil]; exact rds_nil.mpr rfl
  | n + 1 => by
    rw [List.replicate_succ, List.replicate_succ, List.flatten_cons, List.flatten_cons]
    exact h.app (h.repl n)
theorem snd_mul : SndR2 G rMulA fMul := by
  intro F ι S H x y vx vy w r rx ry e Q k
  unfold fMul at e
  split at e
  · rename_i i j
    split at e
    · rename_i hz
      cases e
      simp only [RD] at rx ry
      refine .inl ⟨i, j, rx, ry, ?_, k F H _ r .refl (by simp only [RV, RD])⟩
      rcases Bool.or_eq_true_iff.mp hz with z | z
      · have := smallI_iff z
        exact .inl ⟨by omega, by omega⟩
      · have := smallI_iff z
        exact .inr ⟨by omega, by omega⟩
    · cases e
  · rename_i i _
    obtain ⟨a, e1, e⟩ := Option.bind_eq_some_iff.mp e
    split at e
    · rename_i hz
      cases e
      obtain ⟨z1, z2⟩ := Bool.and_eq_true_iff.mp hz
      obtain ⟨p, xs, rfl, h1, h3⟩ := lst_get r rx e1
      simp only [RD] at ry
      have := smallI_iff z1
      refine .inr ⟨p, i, xs, rfl, ry, h1, this.1, this.2, by rw [← h3.len]; exact szOk_le z2, fun t ht => ?_⟩
      obtain ⟨r2, p2⟩ := r.newO (o := .lst (List.replicate i.toNat xs).flatten) ht
      exact k _ _ _ r2 p2 ⟨t, _, rfl, upd_same, ⟨_, rfl, h3.repl _⟩, r.noF ht, r.noI ht, .inr ht⟩
    · cases e
  · cases e
/-! ### is None -/
def isNon : D → Bool
  | .non => true
  | _ => false
theorem isNon_of {x : D} {v : V} (h : RD G F ι x v) : isNon x = decide (v = .non) := by
  cases x <;> simp only [RD] at h <;> first
    | (subst h; simp [isNon])
    | (obtain ⟨a, vs, rfl, _⟩ := h; simp [isNon])
    | (obtain ⟨a, rfl, _⟩ := h; simp [isNon])
def fIsN : D → D → Sto → Option VV := fun x y _ => match y with
  | .non => some (.d (.bl (isNon x)))
  | _ => none
def fNotN : D → D → Sto → Option VV := fun x y _ => match y with
  | .non => some (.d (.bl (!isNon x)))
  | _ => none
theorem snd_isN : SndR2 G (fun x y H Q => y = .non ∧ Q (.bl (decide (x = .non))) H) fIsN := by
  intro F ι S H x y vx vy w r rx ry e Q k
  unfold fIsN at e
  split at e
  · cases e
    simp only [RD] at ry
    exact ⟨ry, k F H _ r .refl (by rw [isNon_of rx]; simp only [RV, RD])⟩
  · cases e
theorem snd_notN : SndR2 G (fun x y H Q => y = .non ∧ Q (.bl (!decide (x = .non))) H) fNotN := by
  intro F ι S H x y vx vy w r rx ry e Q k
  unfold fNotN at e
  split at e
  · cases e
    simp only [RD] at ry
    exact ⟨ry, k F H _ r .refl (by rw [isNon_of rx]; simp only [RV, RD])⟩
  · cases e
/-! ### == of data -/
mutual
def pyD : Nat → Sto → D → Option PyData
  | _, _, .non => some .none
  | _, _, .bl b => some (.bool b)
  | _, _, .int i => some (.int i)
  | _, _, .str x => some (.str x)
  | n + 1, S, .tup ds => (pyDs n S ds).map .tuple
  | n + 1, S, .fl ds => (pyDs n S ds).map .list
  | n + 1, S, .ref k => match S[k]? with
    | some (.lst ds) => (pyDs n S ds).map .list
    | _ => none
  | _, _, _ => none
def pyDs : Nat → Sto → List D → Option (List PyData)
  | _, _, [] => some []
  | n, S, d :: ds => (pyD n S d).bind fun x => (pyDs n S ds).map fun xs => x :: xs
end
mutual
theorem pyD_dp (r : Rep G F ι S H) : ∀ (n : Nat) {x : D} {v : V} {p : PyData}, RD G F ι x v → pyD n S x = some p → Dp G.K H v p
  | n, .non, v, p, h, e => by simp only [RD] at h; simp only [pyD] at e; cases e; subst h; exact .non
  | n, .bl b, v, p, h, e => by simp only [RD] at h; simp only [pyD] at e; cases e; subst h; exact .bl b
  | n, .int i, v, p, h, e => by simp only [RD] at h; simp only [pyD] at e; cases e; subst h; exact .int i
  | n, .str i, v, p, h, e => by simp only [RD] at h; simp only [pyD] at e; cases e; subst h; exact .str i
  | 0, .tup ds, v, p, h, e => by simp only [pyD] at e; cases e
  | n + 1, .tup ds, v, p, h, e => by
    simp only [pyD] at e
    obtain ⟨ps, e1, rfl⟩ := Option.map_eq_some_iff.mp e
    obtain ⟨a, vs, rfl, h1, _, h3⟩ := tup_get r h
    exact .tup h1 (pyDs_dp r n h3 e1)
  | 0, .fl ds, v, p, h, e => by simp only [pyD] at e; cases e
  | n + 1, .fl ds, v, p, h, e => by
    simp only [pyD] at e
    obtain ⟨ps, e1, rfl⟩ := Option.map_eq_some_iff.mp e
    obtain ⟨a, vs, rfl, h1, h3⟩ := lst_get (x := .fl ds) r h rfl
    exact .lst (SqL.of h1) (pyDs_dp r n h3 e1)
  | 0, .ref k, v, p, h, e => by simp only [pyD] at e; cases e
  | n + 1, .ref k, v, p, h, e => by
    simp only [pyD] at e
    split at e
    · rename_i ds q
      obtain ⟨ps, e1, rfl⟩ := Option.map_eq_some_iff.mp e
      obtain ⟨a, vs, rfl, h1, h3⟩ := lst_get (x := .ref k) (ds := ds) r h (by simp only [lstD]; rw [q])
      exact .lst (SqL.of h1) (pyDs_dp r n h3 e1)
    · cases e
  | n, .lk ns, v, p, h, e => by cases n <;> simp only [pyD] at e <;> cases e
  | n, .fn a, v, p, h, e => by cases n <;> simp only [pyD] at e <;> cases e
  | n, .ty a, v, p, h, e => by cases n <;> simp only [pyD] at e <;> cases e
theorem pyDs_dp (r : Rep G F ι S H) : ∀ (n : Nat) {xs : List D} {vs : List V} {ps : List PyData}, RDs G F ι xs vs → pyDs n S xs = some ps → DpAll G.K H vs ps
  | n, [], vs, ps, h, e => by rw [rds_nil] at h; subst h; simp only [pyDs] at e; cases e; exact .nil
  | n, d :: ds, vs, ps, h, e => by
    obtain ⟨v, r', rfl, h1, h2⟩ := rds_cons.mp h
    simp only [pyDs] at e
    obtain ⟨p, e1, e⟩ := Option.bind_eq_some_iff.mp e
    obtain ⟨qs, e2, rfl⟩ := Option.map_eq_some_iff.mp e
    exact .cons (pyD_dp r n h1 e1) (pyDs_dp r n h2 e2)
end
def eqD (x y : D) (S : Sto) : Option Bool := (pyD 12 S x).bind fun p => (pyD 12 S y).bind fun q => if SeqAt.shaped p && SeqAt.shaped q then some (PyData.eqv p q) else none
def fEq : D → D → Sto → Option VV := fun x y S => (eqD x y S).map fun b => .d (.bl b)
def fNe : D → D → Sto → Option VV := fun x y S => (eqD x y S).map fun b => .d (.bl (!b))
theorem snd_eq : SndR2 G (rEqD G.K) fEq := by
  intro F ι S H x y vx vy w r rx ry e Q k
  unfold fEq eqD at e
  obtain ⟨b, e0, rfl⟩ := Option.map_eq_some_iff.mp e
  obtain ⟨p, e1, e⟩ := Option.bind_eq_some_iff.mp e0
  obtain ⟨q, e2, e⟩ := Option.bind_eq_some_iff.mp e
  split at e
  · rename_i hs
    cases e
    obtain ⟨s1, s2⟩ := Bool.and_eq_true_iff.mp hs
    exact ⟨p, q, pyD_dp r _ rx e1, pyD_dp r _ ry e2, s1, s2, k F H _ r .refl (by simp only [RV, RD])⟩
  · cases e
theorem snd_ne : SndR2 G (rNeD G.K) fNe := by
  intro F ι S H x y vx vy w r rx ry e Q k
  unfold fNe eqD at e
  obtain ⟨b, e0, rfl⟩ := Option.map_eq_some_iff.mp e
  obtain ⟨p, e1, e⟩ := Option.bind_eq_some_iff.mp e0
  obtain ⟨q, e2, e⟩ := Option.bind_eq_some_iff.mp e
  split at e
  · rename_i hs
    cases e
    obtain ⟨s1, s2⟩ := Bool.and_eq_true_iff.mp hs
    exact ⟨p, q, pyD_dp r _ rx e1, pyD_dp r _ ry e2, s1, s2, k F H _ r .refl (by simp only [RV, RD])⟩
  · cases e
/-! ### in, of flat things -/
def flatD : D → Bool
  | .non => true | .bl _ => true | .int _ => true | .str _ => true | _ => false
def eqF : D → D → Bool
  | .non, .non => true
  | .bl a, .bl b => a == b
  | .bl a, .int b => (if a then 1 else 0) == b
  | .int a, .bl b => a == (if b then 1 else 0)
  | .int a, .int b => a == b
  | .str a, .str b => a == b
  | _, _ => false
theorem flat_of {x : D} {v : V} (h : RD G F ι x v) (f : flatD x = true) : flatV v = true := by
  cases x <;> simp only [RD] at h <;> first | (subst h; rfl) | cases f
theorem eqF_of {x y : D} {v u : V} (h : RD G F ι x v) (h' : RD G F ι y u) (f : flatD x = true) (f' : flatD y = true) : eqV v u = eqF x y := by
  cases x <;> simp only [RD] at h <;> first | (subst h) | cases f
  all_goals (cases y <;> simp only [RD] at h' <;> first | (subst h'; rfl) | cases f')
def inF (x : D) (ys : List D) : Bool := ys.any fun y => eqF y x
theorem inF_of {x : D} {v : V} (h : RD G F ι x v) (f : flatD x = true) : ∀ {ys : List D} {us : List V}, RDs G F ι ys us → ys.all flatD = true → us.all flatV = true ∧ inV v us = inF x ys
  | [], us, hs, _ => by rw [rds_nil] at hs; subst hs; exact ⟨rfl, rfl⟩
  | y :: ys, us, hs, g => by
    obtain ⟨u, r, rfl, h1, h2⟩ := rds_cons.mp hs
    obtain ⟨g1, g2⟩ := Bool.and_eq_true_iff.mp (show (flatD y && ys.all flatD) = true from g)
    obtain ⟨i1, i2⟩ := inF_of h f h2 g2
    refine ⟨?_, ?_⟩
    · rw [List.all_cons, flat_of h1 g1, i1]
      rfl
    · show (eqV u v || inV v r) = (eqF y x || inF x ys)
      rw [i2, eqF_of h1 h g1 f]
def fIn (neg : Bool) : D → D → Sto → Option VV := fun x y S => (seqD y S).bind fun ys => if flatD x && ys.all flatD then some (.d (.bl (if neg then !inF x ys else inF x ys))) else none
theorem snd_in {neg : Bool} : SndR2 G (rIn G.K neg) (fIn neg) := by
  intro F ι S H x y vx vy w r rx ry e Q k
  unfold fIn at e
  obtain ⟨ys, e1, e⟩ := Option.bind_eq_some_iff.mp e
  split at e
  · rename_i hs
    cases e
    obtain ⟨f1, f2⟩ := Bool.and_eq_true_iff.mp hs
    obtain ⟨a, us, rfl, h1, h2⟩ := seq_get r ry e1
    obtain ⟨i1, i2⟩ := inF_of rx f1 h2 f2
    refine ⟨a, us, rfl, h1, flat_of rx f1, i1, k F H _ r .refl ?_⟩
    rw [i2]
    simp only [RV, RD]
  · cases e
/-- a sign in a text -/
def fInS (neg : Bool) : D → D → Sto → Option VV := fun x y _ => match x, y with
  | .str ⟨cs⟩, .str z => match cs.toList with
    | [c] => some (.d (.bl (if neg then !decide (c ∈ z.cps.toList) else decide (c ∈ z.cps.toList))))
    | _ => none
  | _, _ => none
theorem snd_inS : SndR2 G (fun x y H Q => ∃ (c : Nat) (z : Str), x = .str ⟨#[c]⟩ ∧ y = .str z ∧ Q (.bl (decide (c ∈ z.cps.toList))) H) (fInS false) := by
  intro F ι S H x y vx vy w r rx ry e Q k
  unfold fInS at e
  split at e
  · rename_i cs z
    split at e
    · rename_i c hc
      cases e
      simp only [RD] at rx ry
      have e2 : cs = #[c] := by
        apply Array.ext'
        rw [hc]
      subst e2
      exact ⟨c, z, rx, ry, k F H _ r .refl (by simp only [RV, RD]; rfl)⟩
    · cases e
  · cases e
/-! ### places and slices -/
def fIx : D → D → Sto → Option VV := fun x y S => match x, y with
  | .str z, .int i => if szOk z.length then (atI z.cps.toList i).map fun c => .d (.str ⟨#[c]⟩) else none
  | x, .int i => (seqD x S).bind fun ds => (atI ds i).map .d
  | _, _ => none
theorem atI_of {ds : List D} {vs : List V} {i : Int} {d : D} (h : RDs G F ι ds vs) (e : atI ds i = some d) : ∃ v, atI vs i = some v ∧ RD G F ι d v := by
  unfold atI at e ⊢
  obtain ⟨j, e1, e2⟩ := Option.bind_eq_some_iff.mp e
  obtain ⟨v, q1, q2⟩ := h.get e2
  exact ⟨v, by rw [← h.len, e1]; exact q1, q2⟩
theorem snd_ix : SndR2 G (rIx G.K) fIx := by
  intro F ι S H x y vx vy w r rx ry e Q k
  unfold fIx at e
  split at e
  · rename_i z i
    split at e
    · rename_i hz
      obtain ⟨c, e1, rfl⟩ := Option.map_eq_some_iff.mp e
      simp only [RD] at rx ry
      exact .inr (.inr ⟨z, i, c, rx, ry, szOk_le hz, e1, k F H _ r .refl (by simp only [RV, RD])⟩)
    · cases e
  · rename_i i _
    obtain ⟨ds, e1, e⟩ := Option.bind_eq_some_iff.mp e
    obtain ⟨d, e2, rfl⟩ := Option.map_eq_some_iff.mp e
    obtain ⟨a, vs, rfl, h1, h2⟩ := seq_get r rx e1
    obtain ⟨v, q1, q2⟩ := atI_of h2 e2
    simp only [RD] at ry
    rcases h1 with h1 | h1
    · exact .inl ⟨a, vs, i, v, rfl, ry, h1, q1, k F H _ r .refl q2⟩
    · exact .inr (.inl ⟨a, vs, i, v, rfl, ry, h1, q1, k F H _ r .refl q2⟩)
  · cases e
def SndO (G : Gm) (t : TO) (m : Slt → Sto → Option (Option Int × Sto)) : Prop := ∀ {F : Hp} {ι : List Addr} {S : Sto} {ρ : Slt} {σ : St} {H : Hp} {o : Option Int} {S' : Sto}, Sta G F ι S ρ σ H → m ρ S = some (o, S') → ∀ Q : Option Int → Hp → Prop,
  (∀ F' ι' H', Sta G F' ι' S' ρ σ H' → Stx F ι H F' ι' H' → Q o H') → t σ H Q
def oNo : Slt → Sto → Option (Option Int × Sto) := fun _ S => some (none, S)
def oPart (m : EM) : Slt → Sto → Option (Option Int × Sto) := fun ρ S => (eD m ρ S).bind fun p => match p.1 with
  | .int i => some (some i, p.2)
  | _ => none
theorem snd_oNo : SndO G tNoPart oNo := by
  intro F ι S ρ σ H o S' s e Q k
  cases e
  exact k F ι H s .refl
theorem snd_oPart (h : SndV G te me) : SndO G (tPart te) (oPart me) := by
  intro F ι S ρ σ H o S' s e Q k
  unfold oPart at e
  obtain ⟨⟨d, S1⟩, e1, e⟩ := Option.bind_eq_some_iff.mp e
  match d, e with
  | .int i, e =>
    cases e
    refine snd_d h s e1 _ fun F1 ι1 H1 v s1 p1 r => ?_
    simp only [RD] at r
    exact ⟨i, r, k F1 ι1 H1 s1 p1⟩
def cutL {α : Type} (xs : List α) (lo hi : Option Int) : List α := (xs.drop (HT.sIx xs.length 0 lo)).take (HT.sIx xs.length xs.length hi - HT.sIx xs.length 0 lo)
theorem cutL_rds {ds : List D} {vs : List V} (h : RDs G F ι ds vs) (lo hi : Option Int) : RDs G F ι (cutL ds lo hi) (cutV vs lo hi) := by
  unfold cutL cutV
  rw [← h.len]
  exact (h.drop _).take _
def rSlAny (K : PySem.W.Frag) : V → Option Int → Option Int → Hp → VK → Prop := fun x lo hi H Q => rSlL K x lo hi H Q ∨ (rSlA K x lo hi H Q ∨ rSlS x lo hi H Q)
theorem sl_any {X : Cx} : SlR X (rSlAny X.K) := sl_list.or (sl_tupA.or sl_str)
def fSl (x : D) (lo hi : Option Int) (S : Sto) : Option VV := match x with
  | .str z => if szOk z.length then some (.d (.str (cutS z lo hi))) else none
  | .tup ds => some (.d (.tup (cutL ds lo hi)))
  | x => (lstD x S).map fun ds => .own (.lst (cutL ds lo hi))
def eSl (m : EM) (lo hi : Slt → Sto → Option (Option Int × Sto)) : EM := fun ρ S => (eD m ρ S).bind fun p => (lo ρ p.2).bind fun l => (hi ρ l.2).bind fun u => (fSl p.1 l.1 u.1 u.2).map fun w => (w, u.2)
theorem cut_whole {ds : List D} {lo hi : Option Int} (h : HT.sIx ds.length 0 lo = 0 ∧ HT.sIx ds.length ds.length hi = ds.length) : cutL ds lo hi = ds := by
  unfold cutL
  rw [h.1, h.2, List.drop_zero, Nat.sub_zero, List.take_length]
theorem snd_sl {tl th : TO} {ml mh : Slt → Sto → Option (Option Int × Sto)} (he : SndV G te me) (hl : SndO G tl ml) (hh : SndO G th mh) : SndV G (tSl (rSlAny G.K) te tl th) (eSl me ml mh) := by
  intro F ι S ρ σ H w S' s e Q k
  unfold eSl at e
  obtain ⟨⟨x, S1⟩, e1, e⟩ := Option.bind_eq_some_iff.mp e
  obtain ⟨⟨lo, S2⟩, e2, e⟩ := Option.bind_eq_some_iff.mp e
  obtain ⟨⟨hi, S3⟩, e3, e⟩ := Option.bind_eq_some_iff.mp e
  obtain ⟨w', e4, e⟩ := Option.map_eq_some_iff.mp e
  cases e
  refine snd_d he s e1 _ fun F1 ι1 H1 vx s1 p1 rx => ?_
  refine hl s1 e2 _ fun F2 ι2 H2 s2 p2 => ?_
  refine hh s2 e3 _ fun F3 ι3 H3 s3 p3 => ?_
  have pp := (p1.trans p2).trans p3
  have rx3 := rx.mono (p2.trans p3).exF (p2.trans p3).pre
  have r := s3.rep
  dsimp only at e4
  unfold fSl at e4
  split at e4
  · rename_i z
    split at e4
    · rename_i hz
      cases e4
      simp only [RD] at rx3
      exact .inr (.inr ⟨_, rx3, szOk_le hz, k F3 ι3 H3 _ s3 pp (by simp only [RV, RD])⟩)
    · cases e4
  · rename_i ds
    cases e4
    obtain ⟨a, vs, rfl, h1, h2, h3⟩ := tup_get r rx3
    have hl := h3.len
    refine .inr (.inl ⟨a, vs, rfl, h1, fun hw => ?_, fun hw t ht => ?_⟩)
    · rw [← hl] at hw
      exact k F3 ι3 H3 _ s3 pp (by rw [cut_whole hw]; exact rx3)
    · obtain ⟨r2, p4⟩ := r.newF (o := .tup (cutV vs lo hi)) ht
      refine k _ ι3 _ _ (s3.after r2 p4).1 (pp.trans p4) ?_
      simp only [RV, RD]
      exact ⟨t, _, rfl, SqT.of upd_same, fun _ => upd_same, (cutL_rds h3 lo hi).mono p4.exF p4.pre⟩
  · obtain ⟨ds, e5, rfl⟩ := Option.map_eq_some_iff.mp e4
    obtain ⟨a, vs, rfl, h1, h3⟩ := lst_get r rx3 e5
    refine .inl ⟨a, vs, rfl, SqL.of h1, fun t ht => ?_⟩
    obtain ⟨r2, p4⟩ := r.newO (o := .lst (cutV vs lo hi)) ht
    exact k _ ι3 _ _ (s3.after r2 p4).1 (pp.trans p4) ⟨t, _, rfl, upd_same, ⟨_, rfl, cutL_rds h3 lo hi⟩, r.noF ht, r.noI ht, .inr (pp.back t ht)⟩
def eRev (m : EM) : EM := fun ρ S => (eD m ρ S).bind fun p => (lstD p.1 p.2).map fun ds => (.own (.lst ds.reverse), p.2)
theorem snd_rev (he : SndV G te me) : SndV G (tRevL G.K te) (eRev me) := by
  intro F ι S ρ σ H w S' s e Q k
  unfold eRev at e
  obtain ⟨⟨x, S1⟩, e1, e⟩ := Option.bind_eq_some_iff.mp e
  obtain ⟨ds, e2, e⟩ := Option.map_eq_some_iff.mp e
  cases e
  refine snd_d he s e1 _ fun F1 ι1 H1 vx s1 p1 rx => ?_
  obtain ⟨a, vs, rfl, h1, h3⟩ := lst_get s1.rep rx e2
  refine ⟨a, vs, rfl, SqL.of h1, fun t ht => ?_⟩
  obtain ⟨r2, p4⟩ := s1.rep.newO (o := .lst vs.reverse) ht
  exact k _ ι1 _ _ (s1.after r2 p4).1 (p1.trans p4) ⟨t, _, rfl, upd_same, ⟨_, rfl, h3.rev⟩, s1.rep.noF ht, s1.rep.noI ht, .inr (p1.back t ht)⟩
end
end Yi
/-! Dicts, own slots, stores, iterators, built-in calls and methods, over states. -/
namespace Yi
open PySem L2
section
variable {G : Gm} {F F' H H' : Hp} {ι ι' : List Addr} {S S' : Sto} {ρ ρ' : Slt} {σ σ' : St} {ta tb tc te : TE} {ma mb mc me : EM} {tt tu : TT} {mt mu : BM}
/-! ### what a slot alone holds -/
theorem Sta.ownL {i : Nat} {ds : List D} (s : Sta G F ι S ρ σ H) (h : ρ[i]? = some (some (.own (.lst ds)))) : ∃ a vs, σ[i]? = some (some (.ref a)) ∧ H a = some (.lst vs) ∧ RDs G F ι ds vs := by
  obtain ⟨a, o, h1, h2, ⟨vs, rfl, h3⟩, _, _⟩ := s.sl.own i _ h
  exact ⟨a, vs, h1, h2, h3⟩
theorem Sta.putO {i : Nat} {c c' : Cell} {a : Addr} {o' : HO} (s : Sta G F ι S ρ σ H) (h : ρ[i]? = some (some (.own c))) (hl : c.lkd = false) (hσ : σ[i]? = some (some (.ref a))) (hc : RC G F ι c' o') :
    Sta G F ι S (ρ.set i (some (.own c'))) σ (upd H a o') ∧ Stp F ι (OwnA ρ σ) H F ι (OwnA (ρ.set i (some (.own c'))) σ) (upd H a o') := by
  obtain ⟨b, o, e1, h2, h3, h4, h5⟩ := s.sl.own i c h
  rw [hσ] at e1
  cases e1
  have hO : OwnA ρ σ a := ⟨i, c, h, hσ⟩
  have back : ∀ {j : Nat} {w : VV}, (ρ.set i (some (.own c')))[j]? = some (some w) → (j = i ∧ w = .own c') ∨ (j ≠ i ∧ ρ[j]? = some (some w)) := fun {j w} e => by
    rcases set_get e with ⟨q1, q2⟩ | ⟨q1, q2⟩
    · cases q2; exact .inl ⟨q1, rfl⟩
    · exact .inr ⟨q1, q2⟩
  refine ⟨⟨⟨fun b u e => ?_, fun n d e => ?_, s.rep.len, s.rep.nd, s.rep.sep⟩, by rw [List.length_set]; exact s.sl.len, fun j d e => ?_, fun j d e => ?_, fun j k cj ck b e1 e2 e3 e4 => ?_⟩,
    Same.refl _, List.prefix_refl _, fun b u e _ n2 => ?_, fun _ e => .inl e, fun _ e => .inl e, fun b e => ?_, fun b e => ?_, fun b ob u e => ?_⟩
  · rw [upd_ne (ne_of_none e h4)]; exact s.rep.ex b u e
  · obtain ⟨b, u, q1, q2, q3⟩ := s.rep.cell n d e
    exact ⟨b, u, q1, by rw [upd_ne fun z => h5 (by rw [← z]; exact List.mem_of_getElem? q1)]; exact q2, q3⟩
  · rcases back e with ⟨_, q⟩ | ⟨_, q⟩
    · cases q
    · exact s.sl.val j d q
  · rcases back e with ⟨q1, q⟩ | ⟨q1, q⟩
    · cases q
      subst q1
      exact ⟨a, o', hσ, upd_same, hc, h4, h5⟩
    · obtain ⟨b, u, w1, w2, w3, w4, w5⟩ := s.sl.own j d q
      have hb : b ≠ a := fun z => q1 (s.sl.osep j i d c a q h (by rw [← z]; exact w1) hσ)
      exact ⟨b, u, w1, by rw [upd_ne hb]; exact w2, w3, w4, w5⟩
  · rcases back e1 with ⟨q1, q⟩ | ⟨q1, q⟩
    · rcases back e2 with ⟨q2, _⟩ | ⟨q2, q'⟩
      · exact q1.trans q2.symm
      · subst q1
        exact s.sl.osep j k c ck b h q' e3 e4
    · rcases back e2 with ⟨q2, _⟩ | ⟨q2, q'⟩
      · subst q2
        exact s.sl.osep j k cj c b q h e3 e4
      · exact s.sl.osep j k cj ck b q q' e3 e4
  · rw [upd_ne fun z => n2 (by rw [z]; exact hO)]; exact e
  · obtain ⟨j, d, e1, e2⟩ := e
    rcases back e1 with ⟨q1, _⟩ | ⟨_, q⟩
    · subst q1
      rw [hσ] at e2
      cases e2
      exact .inl hO
    · exact .inl ⟨j, d, q, e2⟩
  · by_cases hb : b = a
    · subst hb; rw [upd_same]; exact fun z => by cases z
    · rw [upd_ne hb]; exact e
  · have hb : b ≠ a := fun z => by
      subst z
      rw [h2] at e
      cases e
      rw [h3.notFrz] at hl
      cases hl
    rw [upd_ne hb]; exact e
def sAppO (i : Nat) (m : EM) : SM := fun ρ S => (eD m ρ S).bind fun p => match ρ[i]? with
  | some (some (.own (.lst ds))) => if szOk ds.length then some (.nx, ρ.set i (some (.own (.lst (ds ++ [p.1])))), p.2) else none
  | _ => none
theorem snd_appO {i : Nat} (h : SndV G te me) : SndS G (tDrop (tBM G.K "list" rAppend (tVar i) (tCons te tNil))) (sAppO i me) := by
  intro F ι S ρ σ H f ρ' S' s e W k
  unfold sAppO at e
  obtain ⟨⟨d, S1⟩, e1, e⟩ := Option.bind_eq_some_iff.mp e
  dsimp only at e
  split at e
  · rename_i ds hi
    split at e
    · rename_i hz
      cases e
      obtain ⟨a, vs, h1, h2, h3⟩ := s.ownL hi
      refine ⟨.ref a, h1, .inl ⟨rfl, _, SqL.of h2⟩, ?_⟩
      refine snd_d h s e1 _ fun F1 ι1 H1 v s1 p1 r => ?_
      obtain ⟨b, ws, q1, q2, q3⟩ := s1.ownL hi
      rw [h1] at q1
      cases q1
      refine ⟨_, ws, v, rfl, rfl, q2, by rw [← q3.len]; exact szOk_lt hz, ?_⟩
      obtain ⟨s2, p2⟩ := s1.putO hi rfl h1 (c' := .lst (ds ++ [d])) (o' := .lst (ws ++ [v])) ⟨_, rfl, q3.app (RDs.one r)⟩
      exact k F1 ι1 σ _ s2 ((stx_own p1).trans p2)
    · cases e
  · cases e
def sExtO (i : Nat) (m : EM) : SM := fun ρ S => (eD m ρ S).bind fun p => match ρ[i]? with
  | some (some (.own (.lst ds))) => (lstD p.1 p.2).bind fun es => if szOk (ds.length + es.length) then some (.nx, ρ.set i (some (.own (.lst (ds ++ es)))), p.2) else none
  | _ => none
theorem set_same {i : Nat} {v : V} (h : σ[i]? = some (some v)) : σ.set i (some v) = σ := by
  apply List.ext_getElem?
  intro j
  by_cases e : j = i
  · subst e
    rw [List.getElem?_set_self (List.getElem?_eq_some_iff.mp h).1, h]
  · rw [List.getElem?_set_ne (Ne.symm e)]
theorem snd_extO {i : Nat} (h : SndV G te me) : SndS G (tAug i te rExt2) (sExtO i me) := by
  intro F ι S ρ σ H f ρ' S' s e W k
  unfold sExtO at e
  obtain ⟨⟨d, S1⟩, e1, e⟩ := Option.bind_eq_some_iff.mp e
  dsimp only at e
  split at e
  · rename_i ds hi
    obtain ⟨es, e2, e⟩ := Option.bind_eq_some_iff.mp e
    split at e
    · rename_i hz
      cases e
      obtain ⟨a, vs, h1, h2, h3⟩ := s.ownL hi
      refine ⟨.ref a, h1, ?_⟩
      refine snd_d h s e1 _ fun F1 ι1 H1 v s1 p1 r => ?_
      obtain ⟨b, ws, q1, q2, q3⟩ := s1.ownL hi
      rw [h1] at q1
      cases q1
      obtain ⟨c, zs, rfl, g1, g2⟩ := lst_get s1.rep r e2
      refine ⟨_, c, ws, zs, rfl, rfl, q2, g1, by rw [← q3.len, ← g2.len]; exact szOk_le hz, ?_⟩
      obtain ⟨s2, p2⟩ := s1.putO hi rfl h1 (c' := .lst (ds ++ es)) (o' := .lst (ws ++ zs)) ⟨_, rfl, q3.app g2⟩
      rw [set_same h1]
      exact k F1 ι1 σ _ s2 ((stx_own p1).trans p2)
    · cases e
  · cases e
/-- name op= e, of data -/
def sAug (i : Nat) (g : D → D → Sto → Option VV) (m : EM) : SM := fun ρ S => match ρ[i]? with
  | some (some (.d x)) => (eD m ρ S).bind fun p => (g x p.1 p.2).bind fun w => match w with
    | .d z => some (.nx, ρ.set i (some (.d z)), p.2)
    | .own _ => none
  | _ => none
theorem snd_aug {i : Nat} {ti : TIp} {g : D → D → Sto → Option VV} (h : SndV G te me) (hg : SndR2 G ti g) : SndS G (tAug i te ti) (sAug i g me) := by
  intro F ι S ρ σ H f ρ' S' s e W k
  unfold sAug at e
  split at e
  · rename_i x hi
    obtain ⟨⟨d, S1⟩, e1, e⟩ := Option.bind_eq_some_iff.mp e
    obtain ⟨w, e2, e⟩ := Option.bind_eq_some_iff.mp e
    match w, e with
    | .d z, e =>
      cases e
      obtain ⟨vx, h1, h2⟩ := s.sl.val i x hi
      refine ⟨vx, h1, ?_⟩
      refine snd_d h s e1 _ fun F1 ι1 H1 v s1 p1 r => ?_
      refine hg s1.rep (h2.mono p1.exF p1.pre) r e2 _ fun F2 H2 vz r2 p2 rz => ?_
      have pp := p1.trans p2
      have s2 := (s1.after r2 p2).1
      obtain ⟨s3, o3⟩ := s2.set (i := i) (w := .d z) (v := vz) (O := NoO) (H0 := H) rz fun a ha => s.notOwn ha
      refine k F2 ι1 _ H2 s3 ?_
      have q : Stp F ι (OwnA ρ σ) H F2 ι1 (OwnA ρ σ) H2 := stx_own pp
      exact ⟨q.exF, q.pre, q.fr, q.nF, q.nI, fun a ha => (o3 a ha).imp_left fun z => z, q.dom, q.fz⟩
  · cases e
def oIx (i : Nat) (m : EM) : EM := fun ρ S => (eD m ρ S).bind fun p => match ρ[i]?, p.1 with
  | some (some (.own (.lst ds))), .int j => (atI ds j).map fun d => (.d d, p.2)
  | _, _ => none
theorem snd_oIx {i : Nat} (h : SndV G te me) : SndV G (tOp (rIx G.K) (tVar i) te) (oIx i me) := by
  intro F ι S ρ σ H w S' s e Q k
  unfold oIx at e
  obtain ⟨⟨x, S1⟩, e1, e⟩ := Option.bind_eq_some_iff.mp e
  dsimp only at e
  split at e
  · rename_i ds j hi
    obtain ⟨d, e2, e⟩ := Option.map_eq_some_iff.mp e
    cases e
    obtain ⟨a, vs, h1, h2, h3⟩ := s.ownL hi
    refine ⟨.ref a, h1, ?_⟩
    refine snd_d h s e1 _ fun F1 ι1 H1 v s1 p1 r => ?_
    obtain ⟨b, ws, q1, q2, q3⟩ := s1.ownL hi
    rw [h1] at q1
    cases q1
    obtain ⟨u, g1, g2⟩ := atI_of q3 e2
    simp only [RD] at r
    exact .inl ⟨_, ws, j, u, rfl, r, SqL.of q2, g1, k F1 ι1 H1 u s1 p1 g2⟩
  · cases e
def oIn (neg : Bool) (m : EM) (i : Nat) : EM := fun ρ S => (eD m ρ S).bind fun p => match ρ[i]? with
  | some (some (.own (.lst ds))) => if flatD p.1 && ds.all flatD then some (.d (.bl (if neg then !inF p.1 ds else inF p.1 ds)), p.2) else none
  | _ => none
theorem snd_oIn {neg : Bool} {i : Nat} (h : SndV G te me) : SndV G (tOp (rIn G.K neg) te (tVar i)) (oIn neg me i) := by
  intro F ι S ρ σ H w S' s e Q k
  unfold oIn at e
  obtain ⟨⟨x, S1⟩, e1, e⟩ := Option.bind_eq_some_iff.mp e
  dsimp only at e
  split at e
  · rename_i ds hi
    split at e
    · rename_i hz
      cases e
      obtain ⟨f1, f2⟩ := Bool.and_eq_true_iff.mp hz
      refine snd_d h s e1 _ fun F1 ι1 H1 v s1 p1 r => ?_
      obtain ⟨b, ws, q1, q2, q3⟩ := s1.ownL hi
      obtain ⟨i1, i2⟩ := inF_of r f1 q3 f2
      refine ⟨.ref b, q1, b, ws, rfl, .inl (SqL.of q2), flat_of r f1, i1, k F1 ι1 H1 _ s1 p1 ?_⟩
      rw [i2]
      simp only [RV, RD]
    · cases e
  · cases e
def oEq (neg : Bool) (i : Nat) (m : EM) : EM := fun ρ S => (eD m ρ S).bind fun p => match ρ[i]? with
  | some (some (.own (.lst ds))) => (eqD (.fl ds) p.1 p.2).map fun b => (.d (.bl (if neg then !b else b)), p.2)
  | _ => none
theorem own_dp {i : Nat} {ds : List D} {x : D} {v : V} {b : Bool} (s : Sta G F ι S ρ σ H) (hi : ρ[i]? = some (some (.own (.lst ds)))) (r : RD G F ι x v) (e : eqD (.fl ds) x S = some b) :
    ∃ a p q, σ[i]? = some (some (.ref a)) ∧ Dp G.K H (.ref a) p ∧ Dp G.K H v q ∧ SeqAt.shaped p = true ∧ SeqAt.shaped q = true ∧ b = PyData.eqv p q := by
  unfold eqD at e
  obtain ⟨p, e1, e⟩ := Option.bind_eq_some_iff.mp e
  obtain ⟨q, e2, e⟩ := Option.bind_eq_some_iff.mp e
  split at e
  · rename_i hs
    cases e
    obtain ⟨s1, s2⟩ := Bool.and_eq_true_iff.mp hs
    obtain ⟨a, ws, q1, q2, q3⟩ := s.ownL hi
    simp only [pyD] at e1
    obtain ⟨ps, e1', rfl⟩ := Option.map_eq_some_iff.mp e1
    exact ⟨a, _, q, q1, .lst (SqL.of q2) (pyDs_dp s.rep _ q3 e1'), pyD_dp s.rep _ r e2, s1, s2, rfl⟩
  · cases e
theorem snd_oEq {i : Nat} (h : SndV G te me) : SndV G (tOp (rEqD G.K) (tVar i) te) (oEq false i me) := by
  intro F ι S ρ σ H w S' s e Q k
  unfold oEq at e
  obtain ⟨⟨x, S1⟩, e1, e⟩ := Option.bind_eq_some_iff.mp e
  dsimp only at e
  split at e
  · rename_i ds hi
    obtain ⟨b, e2, e⟩ := Option.map_eq_some_iff.mp e
    cases e
    obtain ⟨a, vs, h1, _, _⟩ := s.ownL hi
    refine ⟨.ref a, h1, ?_⟩
    refine snd_d h s e1 _ fun F1 ι1 H1 v s1 p1 r => ?_
    obtain ⟨a', p, q, g1, g2, g3, g4, g5, g6⟩ := own_dp s1 hi r e2
    rw [h1] at g1
    cases g1
    subst g6
    exact ⟨p, q, g2, g3, g4, g5, k F1 ι1 H1 _ s1 p1 (by simp only [RV, RD]; rfl)⟩
  · cases e
theorem snd_oNe {i : Nat} (h : SndV G te me) : SndV G (tOp (rNeD G.K) (tVar i) te) (oEq true i me) := by
  intro F ι S ρ σ H w S' s e Q k
  unfold oEq at e
  obtain ⟨⟨x, S1⟩, e1, e⟩ := Option.bind_eq_some_iff.mp e
  dsimp only at e
  split at e
  · rename_i ds hi
    obtain ⟨b, e2, e⟩ := Option.map_eq_some_iff.mp e
    cases e
    obtain ⟨a, vs, h1, _, _⟩ := s.ownL hi
    refine ⟨.ref a, h1, ?_⟩
    refine snd_d h s e1 _ fun F1 ι1 H1 v s1 p1 r => ?_
    obtain ⟨a', p, q, g1, g2, g3, g4, g5, g6⟩ := own_dp s1 hi r e2
    rw [h1] at g1
    cases g1
    subst g6
    exact ⟨p, q, g2, g3, g4, g5, k F1 ι1 H1 _ s1 p1 (by simp only [RV, RD]; rfl)⟩
  · cases e
/-- a, b = e1, e2; with three -/
def sPar (i j : Nat) (a b : EM) : SM := fun ρ S => (a ρ S).bind fun p => (b ρ p.2).map fun q => (.nx, (ρ.set i (some p.1)).set j (some q.1), q.2)
theorem RV.keep {w : VV} {v : V} {H0 H1 : Hp} (h : RV G F ι NoO H0 H w v) (p : Stx F ι H F' ι' H1) : RV G F' ι' NoO H0 H1 w v := by
  cases w with
  | d x => exact RD.mono p.exF p.pre h
  | own c =>
    obtain ⟨a, o, h1, h2, h3, h4, h5, h6⟩ := h
    have hne : H a ≠ none := by rw [h2]; exact fun z => by cases z
    refine ⟨a, o, h1, p.fr a o h2 h5 (fun z => z), h3.mono p.exF p.pre, ?_, fun z => ?_, h6⟩
    · refine Classical.byContradiction fun z => ?_
      rcases p.nF a z with q | q | q
      · exact q h4
      · exact hne q
      · exact q
    · rcases p.nI a z with q | q | q
      · exact h5 q
      · exact hne q
      · exact q
theorem snd_par {i j : Nat} (ha : SndV G ta ma) (hb : SndV G tb mb) : SndS G (tPar i j (tCons ta (tCons tb tNil))) (sPar i j ma mb) := by
  intro F ι S ρ σ H f ρ' S' s e W k
  unfold sPar at e
  obtain ⟨⟨w1, S1⟩, e1, e⟩ := Option.bind_eq_some_iff.mp e
  obtain ⟨⟨w2, S2⟩, e2, e⟩ := Option.map_eq_some_iff.mp e
  cases e
  refine ha s e1 _ fun F1 ι1 H1 v1 s1 p1 r1 => ?_
  refine hb s1 e2 _ fun F2 ι2 H2 v2 s2 p2 r2 => ?_
  refine ⟨v1, v2, rfl, ?_⟩
  obtain ⟨s3, o3⟩ := s1.set (i := i) (O := NoO) (H0 := H) r1 fun a ha => s.notOwn ha
  have s4 := (s3.after s2.rep p2).1
  obtain ⟨s5, o5⟩ := s4.set (i := j) (O := NoO) (H0 := H1) r2 fun a ha => s3.notOwn ha
  refine k F2 ι2 _ H2 s5 ?_
  have q : Stp F ι (OwnA ρ σ) H F2 ι2 (OwnA ρ σ) H2 := stx_own (p1.trans p2)
  refine ⟨q.exF, q.pre, q.fr, q.nF, q.nI, fun a ha => ?_, q.dom, q.fz⟩
  rcases o5 a ha with z | z
  · rcases o3 a z with y | y
    · exact .inl y
    · exact .inr y
  · exact .inr (p1.back a z)
def sPar3 (i j l : Nat) (a b c : EM) : SM := fun ρ S => (a ρ S).bind fun p => (b ρ p.2).bind fun q => (c ρ q.2).map fun u => (.nx, ((ρ.set i (some p.1)).set j (some q.1)).set l (some u.1), u.2)
theorem snd_par3 {i j l : Nat} (ha : SndV G ta ma) (hb : SndV G tb mb) (hc : SndV G tc mc) : SndS G (tPar3 i j l (tCons ta (tCons tb (tCons tc tNil)))) (sPar3 i j l ma mb mc) := by
  intro F ι S ρ σ H f ρ' S' s e W k
  unfold sPar3 at e
  obtain ⟨⟨w1, S1⟩, e1, e⟩ := Option.bind_eq_some_iff.mp e
  obtain ⟨⟨w2, S2⟩, e2, e⟩ := Option.bind_eq_some_iff.mp e
  obtain ⟨⟨w3, S3⟩, e3, e⟩ := Option.map_eq_some_iff.mp e
  cases e
  refine ha s e1 _ fun F1 ι1 H1 v1 s1 p1 r1 => ?_
  refine hb s1 e2 _ fun F2 ι2 H2 v2 s2 p2 r2 => ?_
  refine hc s2 e3 _ fun F3 ι3 H3 v3 s3 p3 r3 => ?_
  refine ⟨v1, v2, v3, rfl, ?_⟩
  obtain ⟨t1, o1⟩ := s1.set (i := i) (O := NoO) (H0 := H) r1 fun a ha => s.notOwn ha
  have t2 := (t1.after s2.rep p2).1
  obtain ⟨t3, o3⟩ := t2.set (i := j) (O := NoO) (H0 := H1) r2 fun a ha => t1.notOwn ha
  have t4 := (t3.after s3.rep p3).1
  obtain ⟨t5, o5⟩ := t4.set (i := l) (O := NoO) (H0 := H2) r3 fun a ha => t3.notOwn ha
  refine k F3 ι3 _ H3 t5 ?_
  have q : Stp F ι (OwnA ρ σ) H F3 ι3 (OwnA ρ σ) H3 := stx_own ((p1.trans p2).trans p3)
  refine ⟨q.exF, q.pre, q.fr, q.nF, q.nI, fun a ha => ?_, q.dom, q.fz⟩
  rcases o5 a ha with z | z
  · rcases o3 a z with y | y
    · rcases o1 a y with x | x
      · exact .inl x
      · exact .inr x
    · exact .inr (p1.back a y)
  · exact .inr ((p1.trans p2).back a z)
/-! ### stores at a place -/
def sSetIx (mo mi mv : EM) : SM := fun ρ S => (eD mv ρ S).bind fun p => (eD mo ρ p.2).bind fun q => (eD mi ρ q.2).bind fun u => match q.1, u.1 with
  | .ref n, .int j => match u.2[n]? with
    | some (.lst ds) => (ixN ds.length j).map fun k => (.nx, ρ, u.2.set n (.lst (ds.set k p.1)))
    | _ => none
  | _, _ => none
theorem snd_setIx {to ti tv : TE} {mo mi mv : EM} (ho : SndV G to mo) (hi : SndV G ti mi) (hv : SndV G tv mv) : SndS G (tAsg tv (gSub to ti rSetL)) (sSetIx mo mi mv) := by
  intro F ι S ρ σ H f ρ' S' s e W k
  unfold sSetIx at e
  obtain ⟨⟨d, S1⟩, e1, e⟩ := Option.bind_eq_some_iff.mp e
  obtain ⟨⟨x, S2⟩, e2, e⟩ := Option.bind_eq_some_iff.mp e
  obtain ⟨⟨y, S3⟩, e3, e⟩ := Option.bind_eq_some_iff.mp e
  match x, y, e with
  | .ref n, .int j, e =>
    dsimp only at e
    split at e
    · rename_i ds hn
      obtain ⟨kk, e4, e⟩ := Option.map_eq_some_iff.mp e
      cases e
      refine snd_d hv s e1 _ fun F1 ι1 H1 v s1 p1 r1 => ?_
      refine snd_d ho s1 e2 _ fun F2 ι2 H2 vx s2 p2 r2 => ?_
      refine snd_d hi s2 e3 _ fun F3 ι3 H3 vy s3 p3 r3 => ?_
      have pp := p2.trans p3
      have r2' := r2.mono p3.exF p3.pre
      obtain ⟨a, o, h1, h2, vs, rfl, h3⟩ := s3.rep.cell n _ hn
      simp only [RD] at r2' r3
      obtain ⟨b, rfl, q⟩ := r2'
      rw [h1] at q
      cases q
      have rc : RC G F3 ι3 (.lst (ds.set kk d)) (.lst (vs.set kk v)) := ⟨_, rfl, h3.set (r1.mono pp.exF pp.pre) kk⟩
      obtain ⟨r4, p4⟩ := s3.rep.put h1 hn rfl rc
      refine ⟨_, vs, j, kk, rfl, r3, h2, by rw [← h3.len]; exact e4, ?_⟩
      exact k F3 ι3 σ _ (s3.after r4 p4).1 (stx_own ((p1.trans pp).trans p4))
    · cases e
end
end Yi
/-! Dicts, methods, iterators, built-in calls, over states. -/
namespace Yi
open PySem L2
section
variable {G : Gm} {F F' H H' : Hp} {ι ι' : List Addr} {S S' : Sto} {ρ ρ' : Slt} {σ σ' : St} {ta tb tc te td ty tx : TE} {ma mb mc me md my mx : EM} {tt tu : TT} {mt mu : BM}
/-! ### dicts -/
section
variable {κ : Type} [DecidableEq κ]
def putKD (kvs : List (κ × D)) (k : κ) (d : D) : List (κ × D) :=
  if (kvs.any fun kv => decide (kv.1 = k)) = true then kvs.map (fun kv => if kv.1 = k then (kv.1, d) else kv) else kvs ++ [(k, d)]
def dropKD (kvs : List (κ × D)) (k : κ) : List (κ × D) := kvs.filter fun kv => decide (kv.1 ≠ k)
theorem rks_val {k : κ} : ∀ {kvs : List (κ × D)} {kv : List (κ × V)}, RKs G F ι kvs kv → (∀ d, lkp k kvs = some d → ∃ v, valV kv k = some v ∧ RD G F ι d v) ∧ (lkp k kvs = none → valV kv k = none)
  | [], kv, h => by
    cases (show kv = [] from h)
    exact ⟨fun d e => by simp [lkp] at e, fun _ => rfl⟩
  | (g, x) :: r, kv, h => by
    obtain ⟨v, r', rfl, h1, h2⟩ := h
    obtain ⟨i1, i2⟩ := rks_val (k := k) h2
    unfold lkp
    by_cases e : k = g
    · subst e
      rw [if_pos rfl, valV_pos rfl]
      exact ⟨fun d q => ⟨v, rfl, by cases q; exact h1⟩, fun q => by cases q⟩
    · rw [if_neg e, valV_neg (fun z => e z.symm)]
      exact ⟨i1, i2⟩
theorem rks_any {p : κ → Bool} : ∀ {kvs : List (κ × D)} {kv : List (κ × V)}, RKs G F ι kvs kv → (kv.any fun q => p q.1) = kvs.any fun q => p q.1
  | [], kv, h => by cases (show kv = [] from h); rfl
  | (g, x) :: r, kv, h => by
    obtain ⟨v, r', rfl, _, h2⟩ := h
    rw [List.any_cons, List.any_cons, rks_any h2]
theorem rks_map {k : κ} {d : D} {v : V} (hd : RD G F ι d v) : ∀ {kvs : List (κ × D)} {kv : List (κ × V)}, RKs G F ι kvs kv → RKs G F ι (kvs.map fun q => if q.1 = k then (q.1, d) else q) (kv.map fun q => if q.1 = k then (q.1, v) else q)
  | [], kv, h => by cases (show kv = [] from h); rfl
  | (g, x) :: r, kv, h => by
    obtain ⟨u, r', rfl, h1, h2⟩ := h
    rw [List.map_cons, List.map_cons]
    by_cases e : g = k
    · rw [if_pos e, if_pos e]
      exact ⟨v, _, rfl, hd, rks_map hd h2⟩
    · rw [if_neg e, if_neg e]
      exact ⟨u, _, rfl, h1, rks_map hd h2⟩
theorem rks_app : ∀ {kvs es : List (κ × D)} {kv ev : List (κ × V)}, RKs G F ι kvs kv → RKs G F ι es ev → RKs G F ι (kvs ++ es) (kv ++ ev)
  | [], _, kv, _, h, q => by cases (show kv = [] from h); exact q
  | (g, x) :: r, _, kv, _, h, q => by
    obtain ⟨u, r', rfl, h1, h2⟩ := h
    exact ⟨u, _, rfl, h1, rks_app h2 q⟩
theorem rks_putK {k : κ} {d : D} {v : V} {kvs : List (κ × D)} {kv : List (κ × V)} (h : RKs G F ι kvs kv) (hd : RD G F ι d v) : RKs G F ι (putKD kvs k d) (putK kv k v) := by
  unfold putKD putK
  rw [rks_any (p := fun q => decide (q = k)) h]
  split
  · exact rks_map hd h
  · exact rks_app h ⟨v, [], rfl, hd, rfl⟩
theorem rks_drop {k : κ} : ∀ {kvs : List (κ × D)} {kv : List (κ × V)}, RKs G F ι kvs kv → RKs G F ι (dropKD kvs k) (dropK kv k)
  | [], kv, h => by cases (show kv = [] from h); rfl
  | (g, x) :: r, kv, h => by
    obtain ⟨u, r', rfl, h1, h2⟩ := h
    have ih := rks_drop (k := k) h2
    unfold dropKD dropK at ih ⊢
    rw [List.filter_cons, List.filter_cons]
    by_cases e : g = k
    · rw [if_neg (by simp [e]), if_neg (by simp [e])]
      exact ih
    · rw [if_pos (by simp [e]), if_pos (by simp [e])]
      exact ⟨u, _, rfl, h1, ih⟩
end
def keyK : D → Option Key
  | .int i => some (.inl i)
  | .str s => some (.inr s)
  | _ => none
def keyKs : List D → Option (List Key)
  | [] => some []
  | d :: ds => (keyK d).bind fun k => (keyKs ds).map fun ks => k :: ks
def keyT : D → Option (List Key)
  | .tup (d :: ds) => keyKs (d :: ds)
  | _ => none
theorem keyK_of {d : D} {k : Key} {v : V} (h : RD G F ι d v) (e : keyK d = some k) : v = kV k := by
  cases d <;> simp only [RD] at h <;> first | (cases e; subst h; rfl) | cases e
theorem keyKs_of : ∀ {ds : List D} {ks : List Key} {vs : List V}, RDs G F ι ds vs → keyKs ds = some ks → vs = ks.map kV
  | [], ks, vs, h, e => by rw [rds_nil] at h; subst h; cases e; rfl
  | d :: ds, ks, vs, h, e => by
    obtain ⟨v, r, rfl, h1, h2⟩ := rds_cons.mp h
    obtain ⟨k, e1, e⟩ := Option.bind_eq_some_iff.mp (show ((keyK d).bind fun k => (keyKs ds).map fun ks => k :: ks) = some ks from e)
    obtain ⟨ks', e2, rfl⟩ := Option.map_eq_some_iff.mp e
    rw [List.map_cons, keyK_of h1 e1, keyKs_of h2 e2]
theorem keyT_of {d : D} {ks : List Key} {v : V} (r : Rep G F ι S H) (h : RD G F ι d v) (e : keyT d = some ks) : ∃ b, v = .ref b ∧ H b = some (.tup (ks.map kV)) := by
  unfold keyT at e
  split at e
  · rename_i x xs
    obtain ⟨a, vs, rfl, _, h2, h3⟩ := tup_get r h
    exact ⟨a, rfl, by rw [h2 (by simp), keyKs_of h3 e]⟩
  · cases e
def dGetD (x y : D) (S : Sto) : Option (Option D) := match x with
  | .ref n => match S[n]? with
    | some (.dk kvs) => (keyK y).map fun k => lkp k kvs
    | some (.dt kvs) => (keyT y).map fun k => lkp k kvs
    | _ => none
  | _ => none
theorem dGet_of {x y : D} {vx vy : V} {o : Option D} (r : Rep G F ι S H) (rx : RD G F ι x vx) (ry : RD G F ι y vy) (e : dGetD x y S = some o) :
    ∃ a p, vx = .ref a ∧ DGet H a vy p ∧ IsD H a ∧ (∀ d, o = some d → ∃ v, p = some v ∧ RD G F ι d v) ∧ (o = none → p = none) := by
  cases x with
  | ref n =>
    simp only [RD] at rx
    obtain ⟨b, rfl, hb⟩ := rx
    simp only [dGetD] at e
    split at e
    · rename_i kvs hn
      obtain ⟨k, e1, rfl⟩ := Option.map_eq_some_iff.mp e
      obtain ⟨a, u, h1, h2, kv, rfl, h3⟩ := r.cell n _ hn
      rw [hb] at h1
      cases h1
      obtain ⟨i1, i2⟩ := rks_val (k := k) h3
      exact ⟨_, _, rfl, by rw [keyK_of ry e1]; exact DGet.k h2, .inl ⟨kv, .inl h2⟩, i1, i2⟩
    · rename_i kvs hn
      obtain ⟨k, e1, rfl⟩ := Option.map_eq_some_iff.mp e
      obtain ⟨a, u, h1, h2, kv, rfl, h3⟩ := r.cell n _ hn
      rw [hb] at h1
      cases h1
      obtain ⟨i1, i2⟩ := rks_val (k := k) h3
      obtain ⟨b, rfl, h4⟩ := keyT_of r ry e1
      exact ⟨_, _, rfl, DGet.t h2 h4, .inr ⟨kv, .inl h2⟩, i1, i2⟩
    · cases e
  | _ => cases e
def eDGet (d y : EM) : EM := fun ρ S => (eD d ρ S).bind fun p => (eD y ρ p.2).bind fun q => (dGetD p.1 q.1 q.2).bind fun o => o.map fun z => (.d z, q.2)
theorem snd_dget (hd : SndV G td md) (hy : SndV G ty my) : SndV G (tDGet td ty) (eDGet md my) := by
  intro F ι S ρ σ H w S' s e Q k
  unfold eDGet at e
  obtain ⟨⟨x, S1⟩, e1, e⟩ := Option.bind_eq_some_iff.mp e
  obtain ⟨⟨y, S2⟩, e2, e⟩ := Option.bind_eq_some_iff.mp e
  obtain ⟨o, e3, e⟩ := Option.bind_eq_some_iff.mp e
  obtain ⟨z, rfl, e⟩ := Option.map_eq_some_iff.mp e
  cases e
  refine snd_d hd s e1 _ fun F1 ι1 H1 vx s1 p1 rx => ?_
  refine snd_d hy s1 e2 _ fun F2 ι2 H2 vy s2 p2 ry => ?_
  obtain ⟨a, p, rfl, g1, _, g2, _⟩ := dGet_of s2.rep (rx.mono p2.exF p2.pre) ry e3
  obtain ⟨v, rfl, g3⟩ := g2 z rfl
  exact ⟨a, v, rfl, g1, k F2 ι2 H2 v s2 (p1.trans p2) g3⟩
def eDIn (neg : Bool) (y d : EM) : EM := fun ρ S => (eD y ρ S).bind fun p => (eD d ρ p.2).bind fun q => (dGetD q.1 p.1 q.2).map fun o => (.d (.bl (if neg then !o.isSome else o.isSome)), q.2)
theorem snd_din (hy : SndV G ty my) (hd : SndV G td md) : SndV G (tDIn ty td) (eDIn false my md) := by
  intro F ι S ρ σ H w S' s e Q k
  unfold eDIn at e
  obtain ⟨⟨y, S1⟩, e1, e⟩ := Option.bind_eq_some_iff.mp e
  obtain ⟨⟨x, S2⟩, e2, e⟩ := Option.bind_eq_some_iff.mp e
  obtain ⟨o, e3, e⟩ := Option.map_eq_some_iff.mp e
  cases e
  refine snd_d hy s e1 _ fun F1 ι1 H1 vy s1 p1 ry => ?_
  refine snd_d hd s1 e2 _ fun F2 ι2 H2 vx s2 p2 rx => ?_
  obtain ⟨a, p, rfl, g1, _, g2, g3⟩ := dGet_of s2.rep rx (ry.mono p2.exF p2.pre) e3
  refine ⟨a, p, rfl, g1, k F2 ι2 H2 _ s2 (p1.trans p2) ?_⟩
  cases o with
  | none => rw [g3 rfl]; simp only [RV, RD]; rfl
  | some z => obtain ⟨v, rfl, _⟩ := g2 z rfl; simp only [RV, RD]; rfl
theorem snd_dnotin (hy : SndV G ty my) (hd : SndV G td md) : SndV G (tDNotIn ty td) (eDIn true my md) := by
  intro F ι S ρ σ H w S' s e Q k
  unfold eDIn at e
  obtain ⟨⟨y, S1⟩, e1, e⟩ := Option.bind_eq_some_iff.mp e
  obtain ⟨⟨x, S2⟩, e2, e⟩ := Option.bind_eq_some_iff.mp e
  obtain ⟨o, e3, e⟩ := Option.map_eq_some_iff.mp e
  cases e
  refine snd_d hy s e1 _ fun F1 ι1 H1 vy s1 p1 ry => ?_
  refine snd_d hd s1 e2 _ fun F2 ι2 H2 vx s2 p2 rx => ?_
  obtain ⟨a, p, rfl, g1, _, g2, g3⟩ := dGet_of s2.rep rx (ry.mono p2.exF p2.pre) e3
  refine ⟨a, p, rfl, g1, k F2 ι2 H2 _ s2 (p1.trans p2) ?_⟩
  cases o with
  | none => rw [g3 rfl]; simp only [RV, RD]; rfl
  | some z => obtain ⟨v, rfl, _⟩ := g2 z rfl; simp only [RV, RD]; rfl
def isDD (x : D) (S : Sto) : Bool := match x with
  | .ref n => match S[n]? with
    | some (.dk _) => true
    | some (.dt _) => true
    | _ => false
  | _ => false
theorem isD_of {x : D} {v : V} (r : Rep G F ι S H) (h : RD G F ι x v) (e : isDD x S = true) : ∃ a, v = .ref a ∧ IsD H a ∧ ((∃ kvs, H a = some (.dK kvs)) ∨ ∃ kvs, H a = some (.dT kvs)) := by
  cases x with
  | ref n =>
    simp only [RD] at h
    obtain ⟨b, rfl, hb⟩ := h
    simp only [isDD] at e
    split at e
    · rename_i kvs hn
      obtain ⟨a, u, h1, h2, kv, rfl, h3⟩ := r.cell n _ hn
      rw [hb] at h1
      cases h1
      exact ⟨_, rfl, .inl ⟨kv, .inl h2⟩, .inl ⟨kv, h2⟩⟩
    · rename_i kvs hn
      obtain ⟨a, u, h1, h2, kv, rfl, h3⟩ := r.cell n _ hn
      rw [hb] at h1
      cases h1
      exact ⟨_, rfl, .inr ⟨kv, .inl h2⟩, .inr ⟨kv, h2⟩⟩
    · cases e
  | _ => cases e
def eDGet2 (d y x : EM) : EM := fun ρ S => (eD d ρ S).bind fun p => if isDD p.1 p.2 = true then (eD y ρ p.2).bind fun q => (eD x ρ q.2).bind fun u => (dGetD p.1 q.1 u.2).map fun o => (.d (o.getD u.1), u.2) else none
theorem snd_dget2 (hd : SndV G td md) (hy : SndV G ty my) (hx : SndV G tx mx) : SndV G (tDGet2 td ty tx) (eDGet2 md my mx) := by
  intro F ι S ρ σ H w S' s e Q k
  unfold eDGet2 at e
  obtain ⟨⟨x, S1⟩, e1, e⟩ := Option.bind_eq_some_iff.mp e
  dsimp only at e
  split at e
  · rename_i hz
    obtain ⟨⟨y, S2⟩, e2, e⟩ := Option.bind_eq_some_iff.mp e
    obtain ⟨⟨z, S3⟩, e3, e⟩ := Option.bind_eq_some_iff.mp e
    obtain ⟨o, e4, e⟩ := Option.map_eq_some_iff.mp e
    cases e
    refine snd_d hd s e1 _ fun F1 ι1 H1 vx s1 p1 rx => ?_
    obtain ⟨a, rfl, h1, _⟩ := isD_of s1.rep rx hz
    refine ⟨a, rfl, h1, ?_⟩
    refine snd_d hy s1 e2 _ fun F2 ι2 H2 vy s2 p2 ry => ?_
    refine snd_d hx s2 e3 _ fun F3 ι3 H3 vz s3 p3 rz => ?_
    obtain ⟨b, p, eb, g1, _, g2, g3⟩ := dGet_of s3.rep (rx.mono (p2.trans p3).exF (p2.trans p3).pre) (ry.mono p3.exF p3.pre) e4
    cases eb
    refine ⟨p, g1, k F3 ι3 H3 _ s3 ((p1.trans p2).trans p3) ?_⟩
    cases o with
    | none => rw [g3 rfl]; exact rz
    | some z => obtain ⟨v, rfl, g4⟩ := g2 z rfl; exact g4
  · cases e
def dPutD (x y d : D) (S : Sto) : Option Sto := match x with
  | .ref n => match S[n]? with
    | some (.dk kvs) => (keyK y).bind fun k => if szOk kvs.length then some (S.set n (.dk (putKD kvs k d))) else none
    | some (.dt kvs) => (keyT y).bind fun k => if szOk kvs.length then some (S.set n (.dt (putKD kvs k d))) else none
    | _ => none
  | _ => none
theorem dPut_of {x y d : D} {vx vy v : V} {S' : Sto} (r : Rep G F ι S H) (rx : RD G F ι x vx) (ry : RD G F ι y vy) (rd : RD G F ι d v) (e : dPutD x y d S = some S') :
    ∃ a H', vx = .ref a ∧ DPut H a vy v H' ∧ Rep G F ι S' H' ∧ Stx F ι H F ι H' := by
  cases x with
  | ref n =>
    simp only [RD] at rx
    obtain ⟨b, rfl, hb⟩ := rx
    simp only [dPutD] at e
    split at e
    · rename_i kvs hn
      obtain ⟨k, e1, e⟩ := Option.bind_eq_some_iff.mp e
      split at e
      · rename_i hz
        cases e
        obtain ⟨a, u, h1, h2, kv, rfl, h3⟩ := r.cell n _ hn
        rw [hb] at h1
        cases h1
        obtain ⟨r2, p2⟩ := r.put hb hn rfl (c' := .dk (putKD kvs k d)) (o' := .dK (putK kv k v)) ⟨_, rfl, rks_putK h3 rd⟩
        exact ⟨_, _, rfl, by rw [keyK_of ry e1]; exact DPut.k h2 (by rw [← rks_len h3]; exact szOk_lt hz), r2, p2⟩
      · cases e
    · rename_i kvs hn
      obtain ⟨k, e1, e⟩ := Option.bind_eq_some_iff.mp e
      split at e
      · rename_i hz
        cases e
        obtain ⟨a, u, h1, h2, kv, rfl, h3⟩ := r.cell n _ hn
        rw [hb] at h1
        cases h1
        obtain ⟨b, rfl, h4⟩ := keyT_of r ry e1
        obtain ⟨r2, p2⟩ := r.put hb hn rfl (c' := .dt (putKD kvs k d)) (o' := .dT (putK kv k v)) ⟨_, rfl, rks_putK h3 rd⟩
        exact ⟨_, _, rfl, DPut.t h2 h4 (by rw [← rks_len h3]; exact szOk_lt hz), r2, p2⟩
      · cases e
    · cases e
  | _ => cases e
def sDPutS (md my mv : EM) : SM := fun ρ S => (eD mv ρ S).bind fun p => (eD md ρ p.2).bind fun q => (eD my ρ q.2).bind fun u => (dPutD q.1 u.1 p.1 u.2).map fun S' => (.nx, ρ, S')
theorem snd_dput {tv : TE} {mv : EM} (hd : SndV G td md) (hy : SndV G ty my) (hv : SndV G tv mv) : SndS G (sDPut td ty tv) (sDPutS md my mv) := by
  intro F ι S ρ σ H f ρ' S' s e W k
  unfold sDPutS at e
  obtain ⟨⟨d, S1⟩, e1, e⟩ := Option.bind_eq_some_iff.mp e
  obtain ⟨⟨x, S2⟩, e2, e⟩ := Option.bind_eq_some_iff.mp e
  obtain ⟨⟨y, S3⟩, e3, e⟩ := Option.bind_eq_some_iff.mp e
  obtain ⟨S4, e4, e⟩ := Option.map_eq_some_iff.mp e
  cases e
  refine snd_d hv s e1 _ fun F1 ι1 H1 v s1 p1 r1 => ?_
  refine snd_d hd s1 e2 _ fun F2 ι2 H2 vx s2 p2 r2 => ?_
  refine snd_d hy s2 e3 _ fun F3 ι3 H3 vy s3 p3 r3 => ?_
  have pp := p2.trans p3
  obtain ⟨a, H4, rfl, g1, g2, g3⟩ := dPut_of s3.rep (r2.mono p3.exF p3.pre) r3 (r1.mono pp.exF pp.pre) e4
  exact ⟨a, H4, rfl, g1, k F3 ι3 σ H4 (s3.after g2 g3).1 (stx_own ((p1.trans pp).trans g3))⟩
/-- pop of a key -/
def dDropD (x y : D) (S : Sto) : Option (Option D × Sto) := match x with
  | .ref n => match S[n]? with
    | some (.dk kvs) => (keyK y).map fun k => match lkp k kvs with
      | some d => (some d, S.set n (.dk (dropKD kvs k)))
      | none => (none, S)
    | _ => none
  | _ => none
theorem dDrop_of {x y : D} {vx vy : V} {o : Option D} {S' : Sto} (r : Rep G F ι S H) (rx : RD G F ι x vx) (ry : RD G F ι y vy) (e : dDropD x y S = some (o, S')) :
    ∃ a kvs k, vx = .ref a ∧ H a = some (.dK kvs) ∧ vy = kV k ∧ (∀ d, o = some d → ∃ v, valV kvs k = some v ∧ RD G F ι d v ∧ Rep G F ι S' (upd H a (.dK (dropK kvs k))) ∧ Stx F ι H F ι (upd H a (.dK (dropK kvs k)))) ∧ (o = none → valV kvs k = none ∧ S' = S) := by
  cases x with
  | ref n =>
    simp only [RD] at rx
    obtain ⟨b, rfl, hb⟩ := rx
    simp only [dDropD] at e
    split at e
    · rename_i kvs hn
      obtain ⟨k, e1, e⟩ := Option.map_eq_some_iff.mp e
      obtain ⟨a, u, h1, h2, kv, rfl, h3⟩ := r.cell n _ hn
      rw [hb] at h1
      cases h1
      obtain ⟨i1, i2⟩ := rks_val (k := k) h3
      refine ⟨_, kv, k, rfl, h2, keyK_of ry e1, ?_⟩
      split at e
      · rename_i d hd
        cases e
        refine ⟨fun d' q => ?_, fun q => by cases q⟩
        cases q
        obtain ⟨v, q1, q2⟩ := i1 _ hd
        obtain ⟨r2, p2⟩ := r.put hb hn rfl (c' := .dk (dropKD kvs k)) (o' := .dK (dropK kv k)) ⟨_, rfl, rks_drop h3⟩
        exact ⟨v, q1, q2, r2, p2⟩
      · rename_i hd
        cases e
        exact ⟨fun d' q => (by cases q), fun _ => ⟨i2 hd, rfl⟩⟩
    · cases e
  | _ => cases e
def eDPop1 (d y : EM) : EM := fun ρ S => (eD d ρ S).bind fun p => if isDD p.1 p.2 = true then (eD y ρ p.2).bind fun q => (dDropD p.1 q.1 q.2).bind fun u => u.1.map fun z => (.d z, u.2) else none
theorem snd_dpop1 (hd : SndV G td md) (hy : SndV G ty my) : SndV G (tDPop1 td ty) (eDPop1 md my) := by
  intro F ι S ρ σ H w S' s e Q k
  unfold eDPop1 at e
  obtain ⟨⟨x, S1⟩, e1, e⟩ := Option.bind_eq_some_iff.mp e
  dsimp only at e
  split at e
  · rename_i hz
    obtain ⟨⟨y, S2⟩, e2, e⟩ := Option.bind_eq_some_iff.mp e
    obtain ⟨⟨o, S3⟩, e3, e⟩ := Option.bind_eq_some_iff.mp e
    obtain ⟨z, hoz, e⟩ := Option.map_eq_some_iff.mp e
    cases e
    refine snd_d hd s e1 _ fun F1 ι1 H1 vx s1 p1 rx => ?_
    obtain ⟨a, rfl, h1, _⟩ := isD_of s1.rep rx hz
    refine ⟨a, rfl, h1, ?_⟩
    refine snd_d hy s1 e2 _ fun F2 ι2 H2 vy s2 p2 ry => ?_
    obtain ⟨b, kvs, kk, eb, g1, g2, g3, _⟩ := dDrop_of s2.rep (rx.mono p2.exF p2.pre) ry e3
    cases eb
    obtain ⟨v, g4, g5, g6, g7⟩ := g3 z hoz
    exact ⟨kvs, kk, v, g1, g2, g4, k F2 ι2 _ v (s2.after g6 g7).1 ((p1.trans p2).trans g7) g5⟩
  · cases e
def eDPop2 (d y x : EM) : EM := fun ρ S => (eD d ρ S).bind fun p => if isDD p.1 p.2 = true then (eD y ρ p.2).bind fun q => (eD x ρ q.2).bind fun v => (dDropD p.1 q.1 v.2).map fun u => (.d (u.1.getD v.1), u.2) else none
theorem snd_dpop2 (hd : SndV G td md) (hy : SndV G ty my) (hx : SndV G tx mx) : SndV G (tDPop2 td ty tx) (eDPop2 md my mx) := by
  intro F ι S ρ σ H w S' s e Q k
  unfold eDPop2 at e
  obtain ⟨⟨x, S1⟩, e1, e⟩ := Option.bind_eq_some_iff.mp e
  dsimp only at e
  split at e
  · rename_i hz
    obtain ⟨⟨y, S2⟩, e2, e⟩ := Option.bind_eq_some_iff.mp e
    obtain ⟨⟨z, S3⟩, e3, e⟩ := Option.bind_eq_some_iff.mp e
    obtain ⟨⟨o, S4⟩, e4, e⟩ := Option.map_eq_some_iff.mp e
    cases e
    refine snd_d hd s e1 _ fun F1 ι1 H1 vx s1 p1 rx => ?_
    obtain ⟨a, rfl, h1, _⟩ := isD_of s1.rep rx hz
    refine ⟨a, rfl, h1, ?_⟩
    refine snd_d hy s1 e2 _ fun F2 ι2 H2 vy s2 p2 ry => ?_
    refine snd_d hx s2 e3 _ fun F3 ι3 H3 vz s3 p3 rz => ?_
    obtain ⟨b, kvs, kk, eb, g1, g2, g3, g8⟩ := dDrop_of s3.rep (rx.mono (p2.trans p3).exF (p2.trans p3).pre) (ry.mono p3.exF p3.pre) e4
    cases eb
    have pp := (p1.trans p2).trans p3
    refine ⟨kvs, kk, g1, g2, fun v hv => ?_, fun hv => ?_⟩
    · cases o with
      | none => rw [(g8 rfl).1] at hv; cases hv
      | some z' =>
        obtain ⟨v', g4, g5, g6, g7⟩ := g3 z' rfl
        rw [hv] at g4
        cases g4
        exact k F3 ι3 _ v (s3.after g6 g7).1 (pp.trans g7) g5
    · cases o with
      | none =>
        obtain ⟨_, rfl⟩ := g8 rfl
        exact k F3 ι3 H3 vz s3 pp rz
      | some z' =>
        obtain ⟨v', g4, _⟩ := g3 z' rfl
        rw [hv] at g4
        cases g4
  · cases e
def eDNewK : EM := fun _ S => some (.own (.dk []), S)
def eDNewT : EM := fun _ S => some (.own (.dt []), S)
theorem snd_dnewK : SndV G tDNewK eDNewK := by
  intro F ι S ρ σ H w S' s e Q k
  cases e
  intro p hp
  obtain ⟨r2, p2⟩ := s.rep.newO (o := .dK []) hp
  exact k F ι _ _ (s.after r2 p2).1 p2 ⟨p, _, rfl, upd_same, ⟨[], rfl, rfl⟩, s.rep.noF hp, s.rep.noI hp, .inr hp⟩
theorem snd_dnewT : SndV G tDNewT eDNewT := by
  intro F ι S ρ σ H w S' s e Q k
  cases e
  intro p hp
  obtain ⟨r2, p2⟩ := s.rep.newO (o := .dT []) hp
  exact k F ι _ _ (s.after r2 p2).1 p2 ⟨p, _, rfl, upd_same, ⟨[], rfl, rfl⟩, s.rep.noF hp, s.rep.noI hp, .inr hp⟩
/-- a display of pairs -/
def SndP (G : Gm) (trs : List (TE × TE)) (m : Slt → Sto → Option (List (D × D) × Sto)) : Prop := ∀ {F : Hp} {ι : List Addr} {S : Sto} {ρ : Slt} {σ : St} {H : Hp} {ps : List (D × D)} {S' : Sto}, Sta G F ι S ρ σ H → m ρ S = some (ps, S') → ∀ Q : List (V × V) → Hp → Prop,
  (∀ F' ι' H' vs, Sta G F' ι' S' ρ σ H' → Stx F ι H F' ι' H' → RDs G F' ι' (ps.map (·.1)) (vs.map (·.1)) → RDs G F' ι' (ps.map (·.2)) (vs.map (·.2)) → Q vs H') → tPairs trs σ H Q
end
end Yi
/-! Displays of dicts, methods, iterators, built-in calls, over states. -/
namespace Yi
open PySem L2
section
variable {G : Gm} {F F' H H' : Hp} {ι ι' : List Addr} {S S' : Sto} {ρ ρ' : Slt} {σ σ' : St} {ta tb tc te td ty tx : TE} {ma mb mc me md my mx : EM} {tt tu : TT} {mt mu : BM}
/-! ### a dict displayed -/
def SndPs (G : Gm) : List (TE × TE) → List (EM × EM) → Prop
  | [], [] => True
  | (tk, tv) :: r, (mk, mv) :: s => SndV G tk mk ∧ SndV G tv mv ∧ SndPs G r s
  | _, _ => False
def mP : List (EM × EM) → Slt → Sto → Option (List (Key × D) × Sto)
  | [], _, S => some ([], S)
  | (mk, mv) :: r, ρ, S => (eD mk ρ S).bind fun p => (eD mv ρ p.2).bind fun q => (keyK p.1).bind fun k => (mP r ρ q.2).map fun u => ((k, q.1) :: u.1, u.2)
theorem snd_pairs : ∀ {trs : List (TE × TE)} {ms : List (EM × EM)}, SndPs G trs ms → ∀ {F : Hp} {ι : List Addr} {S : Sto} {ρ : Slt} {σ : St} {H : Hp} {kvs : List (Key × D)} {S' : Sto}, Sta G F ι S ρ σ H → mP ms ρ S = some (kvs, S') → ∀ Q : List (V × V) → Hp → Prop,
    (∀ F' ι' H' kv, Sta G F' ι' S' ρ σ H' → Stx F ι H F' ι' H' → RKs G F' ι' kvs kv → Q (kv.map fun p => (kV p.1, p.2)) H') → tPairs trs σ H Q
  | [], [], _, F, ι, S, ρ, σ, H, kvs, S', s, e, Q, k => by
    cases e
    exact k F ι H [] s .refl rfl
  | (tk, tv) :: r, (mk, mv) :: ms, h, F, ι, S, ρ, σ, H, kvs, S', s, e, Q, k => by
    obtain ⟨h1, h2, h3⟩ := h
    obtain ⟨⟨x, S1⟩, e1, e⟩ := Option.bind_eq_some_iff.mp (show ((eD mk ρ S).bind fun p => (eD mv ρ p.2).bind fun q => (keyK p.1).bind fun k => (mP ms ρ q.2).map fun u => ((k, q.1) :: u.1, u.2)) = some (kvs, S') from e)
    obtain ⟨⟨y, S2⟩, e2, e⟩ := Option.bind_eq_some_iff.mp e
    obtain ⟨kk, e3, e⟩ := Option.bind_eq_some_iff.mp e
    obtain ⟨⟨rest, S3⟩, e4, e⟩ := Option.map_eq_some_iff.mp e
    cases e
    refine snd_d h1 s e1 _ fun F1 ι1 H1 vx s1 p1 rx => ?_
    refine snd_d h2 s1 e2 _ fun F2 ι2 H2 vy s2 p2 ry => ?_
    refine snd_pairs h3 s2 e4 _ fun F3 ι3 H3 kv s3 p3 rk => ?_
    have ex := keyK_of rx e3
    subst ex
    exact k F3 ι3 H3 ((kk, vy) :: kv) s3 ((p1.trans p2).trans p3) ⟨vy, kv, rfl, ry.mono p3.exF p3.pre, rk⟩
  | [], _ :: _, h, _, _, _, _, _, _, _, _, _, _, _, _ => h.elim
  | _ :: _, [], h, _, _, _, _, _, _, _, _, _, _, _, _ => by
    exact h.elim
def mergeKD (kvs more : List (Key × D)) : List (Key × D) := more.foldl (fun acc kv => putKD acc kv.1 kv.2) kvs
theorem rks_merge : ∀ {more : List (Key × D)} {mv : List (Key × V)} {kvs : List (Key × D)} {kv : List (Key × V)}, RKs G F ι more mv → RKs G F ι kvs kv → RKs G F ι (mergeKD kvs more) (mergeK kv mv)
  | [], mv, _, _, h, q => by cases (show mv = [] from h); exact q
  | (j, d) :: r, mv, _, _, h, q => by
    obtain ⟨v, r', rfl, h1, h2⟩ := h
    show RKs G F ι (mergeKD (putKD _ j d) r) (mergeK (putK _ j v) r')
    exact rks_merge h2 (rks_putK q h1)
def eDisp (ms : List (EM × EM)) : EM := fun ρ S => (mP ms ρ S).bind fun p => if p.1.length ≤ 15 then some (.own (.dk (mergeKD [] p.1)), p.2) else none
theorem snd_disp {trs : List (TE × TE)} {ms : List (EM × EM)} (h : SndPs G trs ms) : SndV G (tDisp trs) (eDisp ms) := by
  intro F ι S ρ σ H w S' s e Q k
  unfold eDisp at e
  obtain ⟨⟨kvs, S1⟩, e1, e⟩ := Option.bind_eq_some_iff.mp e
  dsimp only at e
  split at e
  · rename_i hz
    cases e
    intro p hp
    obtain ⟨r2, p2⟩ := s.rep.newO (o := .dK []) hp
    have s2 := (s.after r2 p2).1
    have nF := s.rep.noF hp
    have nI := s.rep.noI hp
    refine snd_pairs h s2 e1 _ fun F3 ι3 H3 kv s3 p3 rk => ?_
    have hp3 : H3 p = some (.dK []) := p3.fr p _ upd_same nI (fun z => z)
    have hne : upd H p (.dK []) p ≠ none := by rw [upd_same]; exact fun z => by cases z
    have nF3 : F3 p = none := by
      refine Classical.byContradiction fun z => ?_
      rcases p3.nF p z with q | q | q
      · exact q nF
      · exact hne q
      · exact q
    have nI3 : p ∉ ι3 := fun z => by
      rcases p3.nI p z with q | q | q
      · exact nI q
      · exact hne q
      · exact q
    refine ⟨hp3, kv, rfl, by rw [← rks_len rk]; exact hz, ?_⟩
    have pp := p2.trans p3
    -- the new dict takes its entries
    have r4 : Rep G F3 ι3 S' (upd H3 p (.dK (mergeK [] kv))) := by
      refine ⟨fun a o q => ?_, fun n c q => ?_, s3.rep.len, s3.rep.nd, s3.rep.sep⟩
      · rw [upd_ne (ne_of_none q nF3)]; exact s3.rep.ex a o q
      · obtain ⟨a, o, q1, q2, q3⟩ := s3.rep.cell n c q
        exact ⟨a, o, q1, by rw [upd_ne fun z => nI3 (by rw [← z]; exact List.mem_of_getElem? q1)]; exact q2, q3⟩
    have p4 : Stx F ι H F3 ι3 (upd H3 p (.dK (mergeK [] kv))) := by
      refine ⟨pp.exF, pp.pre, fun a o q1 q2 q3 => ?_, pp.nF, pp.nI, fun _ z => z.elim, fun a q => ?_, fun a ob u q => ?_⟩
      · rw [upd_ne (ne_of_none q1 hp)]; exact pp.fr a o q1 q2 q3
      · by_cases z : a = p
        · subst z; rw [upd_same]; exact fun z => by cases z
        · rw [upd_ne z]; exact pp.dom a q
      · rw [upd_ne (ne_of_none q hp)]; exact pp.fz a ob u q
    exact k F3 ι3 _ _ (s.after r4 p4).1 p4 ⟨p, _, rfl, upd_same, ⟨_, rfl, rks_merge rk rfl⟩, nF3, nI3, .inr hp⟩
  · cases e
/-- reading a dict that a slot alone holds -/
def oDGet (i : Nat) (y : EM) : EM := fun ρ S => (eD y ρ S).bind fun q => match ρ[i]? with
  | some (some (.own (.dk kvs))) => (keyK q.1).bind fun k => (lkp k kvs).map fun z => (.d z, q.2)
  | _ => none
theorem snd_oDGet {i : Nat} (hy : SndV G ty my) : SndV G (tDGet (tVar i) ty) (oDGet i my) := by
  intro F ι S ρ σ H w S' s e Q k
  unfold oDGet at e
  obtain ⟨⟨y, S1⟩, e1, e⟩ := Option.bind_eq_some_iff.mp e
  dsimp only at e
  split at e
  · rename_i kvs hi
    obtain ⟨kk, e2, e⟩ := Option.bind_eq_some_iff.mp e
    obtain ⟨z, e3, e⟩ := Option.map_eq_some_iff.mp e
    cases e
    obtain ⟨a, o, h1, _⟩ := s.sl.own i _ hi
    refine ⟨.ref a, h1, ?_⟩
    refine snd_d hy s e1 _ fun F1 ι1 H1 vy s1 p1 ry => ?_
    obtain ⟨b, o2, h1', h2, ⟨kv, rfl, h3⟩, _, _⟩ := s1.sl.own i _ hi
    rw [h1] at h1'
    cases h1'
    obtain ⟨v, q1, q2⟩ := (rks_val (k := kk) h3).1 z e3
    exact ⟨_, v, rfl, by rw [keyK_of ry e2, ← q1]; exact DGet.k h2, k F1 ι1 H1 v s1 p1 q2⟩
  · cases e
def oDIn (neg : Bool) (y : EM) (i : Nat) : EM := fun ρ S => (eD y ρ S).bind fun q => match ρ[i]? with
  | some (some (.own (.dk kvs))) => (keyK q.1).map fun k => (.d (.bl (if neg then !(lkp k kvs).isSome else (lkp k kvs).isSome)), q.2)
  | _ => none
theorem snd_oDIn {i : Nat} (hy : SndV G ty my) : SndV G (tDIn ty (tVar i)) (oDIn false my i) := by
  intro F ι S ρ σ H w S' s e Q k
  unfold oDIn at e
  obtain ⟨⟨y, S1⟩, e1, e⟩ := Option.bind_eq_some_iff.mp e
  dsimp only at e
  split at e
  · rename_i kvs hi
    obtain ⟨kk, e2, e⟩ := Option.map_eq_some_iff.mp e
    cases e
    refine snd_d hy s e1 _ fun F1 ι1 H1 vy s1 p1 ry => ?_
    obtain ⟨b, o2, h1, h2, ⟨kv, rfl, h3⟩, _, _⟩ := s1.sl.own i _ hi
    obtain ⟨i1, i2⟩ := rks_val (k := kk) h3
    refine ⟨.ref b, h1, b, valV kv kk, rfl, by rw [keyK_of ry e2]; exact DGet.k h2, k F1 ι1 H1 _ s1 p1 ?_⟩
    cases hl : lkp kk kvs with
    | none => rw [i2 hl]; simp only [RV, RD]; rfl
    | some z => obtain ⟨v, q1, _⟩ := i1 z hl; rw [q1]; simp only [RV, RD]; rfl
  · cases e
theorem snd_oDNotIn {i : Nat} (hy : SndV G ty my) : SndV G (tDNotIn ty (tVar i)) (oDIn true my i) := by
  intro F ι S ρ σ H w S' s e Q k
  unfold oDIn at e
  obtain ⟨⟨y, S1⟩, e1, e⟩ := Option.bind_eq_some_iff.mp e
  dsimp only at e
  split at e
  · rename_i kvs hi
    obtain ⟨kk, e2, e⟩ := Option.map_eq_some_iff.mp e
    cases e
    refine snd_d hy s e1 _ fun F1 ι1 H1 vy s1 p1 ry => ?_
    obtain ⟨b, o2, h1, h2, ⟨kv, rfl, h3⟩, _, _⟩ := s1.sl.own i _ hi
    obtain ⟨i1, i2⟩ := rks_val (k := kk) h3
    refine ⟨.ref b, h1, b, valV kv kk, rfl, by rw [keyK_of ry e2]; exact DGet.k h2, k F1 ι1 H1 _ s1 p1 ?_⟩
    cases hl : lkp kk kvs with
    | none => rw [i2 hl]; simp only [RV, RD]; rfl
    | some z => obtain ⟨v, q1, _⟩ := i1 z hl; rw [q1]; simp only [RV, RD]; rfl
  · cases e
/-! ### methods of built-in things -/
def SndM (G : Gm) (r : V → List V → Hp → VK → Prop) (f : D → List D → Sto → Option (VV × Sto)) : Prop := ∀ {F : Hp} {ι : List Addr} {S : Sto} {H : Hp} {x : D} {xs : List D} {vx : V} {vs : List V} {w : VV} {S' : Sto}, Rep G F ι S H → RD G F ι x vx → RDs G F ι xs vs → f x xs S = some (w, S') → ∀ Q : VK,
  (∀ F' H' v, Rep G F' ι S' H' → Stx F ι H F' ι H' → RV G F' ι NoO H H' w v → Q v H') → r vx vs H Q
def eBM (ok : D → Sto → Bool) (f : D → List D → Sto → Option (VV × Sto)) (o : EM) (a : AM) : EM := fun ρ S => (eD o ρ S).bind fun p => if ok p.1 p.2 = true then (a ρ p.2).bind fun q => f p.1 q.1 q.2 else none
def isLstD (x : D) (S : Sto) : Bool := (lstD x S).isSome
def isStrD (x : D) (_ : Sto) : Bool := match x with
  | .str _ => true
  | _ => false
theorem ty_lst {x : D} {v : V} (r : Rep G F ι S H) (h : RD G F ι x v) (e : isLstD x S = true) : tyV G.K "list" v H := by
  obtain ⟨ds, hd⟩ := Option.isSome_iff_exists.mp e
  obtain ⟨a, vs, rfl, h1, _⟩ := lst_get r h hd
  exact .inl ⟨rfl, _, SqL.of h1⟩
theorem ty_dict {x : D} {v : V} (r : Rep G F ι S H) (h : RD G F ι x v) (e : isDD x S = true) : tyV G.K "dict" v H := by
  obtain ⟨a, rfl, _, h1⟩ := isD_of r h e
  exact .inr (.inr (.inl ⟨rfl, h1⟩))
theorem ty_str {x : D} {v : V} (r : Rep G F ι S H) (h : RD G F ι x v) (e : isStrD x S = true) : tyV G.K "str" v H := by
  cases x with
  | str z => simp only [RD] at h; subst h; exact rfl
  | _ => cases e
theorem snd_bm {T : String} {ok : D → Sto → Bool} {r : V → List V → Hp → VK → Prop} {f : D → List D → Sto → Option (VV × Sto)} {to : TE} {mo : EM} {t : TA} {m : AM}
    (hT : ∀ {F : Hp} {ι : List Addr} {S : Sto} {H : Hp} {x : D} {v : V}, Rep G F ι S H → RD G F ι x v → ok x S = true → tyV G.K T v H) (hr : SndM G r f) (ho : SndV G to mo) (ha : SndA G t m) : SndV G (tBM G.K T r to t) (eBM ok f mo m) := by
  intro F ι S ρ σ H w S' s e Q k
  unfold eBM at e
  obtain ⟨⟨x, S1⟩, e1, e⟩ := Option.bind_eq_some_iff.mp e
  dsimp only at e
  split at e
  · rename_i hz
    obtain ⟨⟨ds, S2⟩, e2, e⟩ := Option.bind_eq_some_iff.mp e
    refine snd_d ho s e1 _ fun F1 ι1 H1 vx s1 p1 rx => ⟨hT s1.rep rx hz, ?_⟩
    refine ha s1 e2 _ fun F2 ι2 H2 vs s2 p2 rs => ?_
    have pp := p1.trans p2
    exact hr s2.rep (rx.mono p2.exF p2.pre) rs e Q fun F3 H3 v r3 p3 rv => k F3 ι2 H3 v (s2.after r3 p3).1 (pp.trans p3) (rv.back pp.back)
  · cases e
theorem snd_bm0 {T : String} {ok : D → Sto → Bool} {r : V → List V → Hp → VK → Prop} {f : D → List D → Sto → Option (VV × Sto)} {to : TE} {mo : EM}
    (hT : ∀ {F : Hp} {ι : List Addr} {S : Sto} {H : Hp} {x : D} {v : V}, Rep G F ι S H → RD G F ι x v → ok x S = true → tyV G.K T v H) (hr : SndM G r f) (ho : SndV G to mo) : SndV G (tBM0 G.K T r to) (eBM ok f mo aNil) := by
  intro F ι S ρ σ H w S' s e Q k
  unfold eBM at e
  obtain ⟨⟨x, S1⟩, e1, e⟩ := Option.bind_eq_some_iff.mp e
  dsimp only at e
  split at e
  · rename_i hz
    obtain ⟨⟨ds, S2⟩, e2, e⟩ := Option.bind_eq_some_iff.mp e
    cases e2
    refine snd_d ho s e1 _ fun F1 ι1 H1 vx s1 p1 rx => ⟨hT s1.rep rx hz, ?_⟩
    exact hr s1.rep rx (rds_nil.mpr rfl) e Q fun F3 H3 v r3 p3 rv => k F3 ι1 H3 v (s1.after r3 p3).1 (p1.trans p3) (rv.back p1.back)
  · cases e
theorem snd_tM1 {r : V → List V → Hp → VK → Prop} {f : D → List D → Sto → Option (VV × Sto)} {to : TE} {mo : EM} (hr : SndM G r f) (ho : SndV G to mo) (ha : SndV G te me) : SndV G (tM1 r to te) (eBM isStrD f mo (aCons me aNil)) := by
  intro F ι S ρ σ H w S' s e Q k
  unfold eBM at e
  obtain ⟨⟨x, S1⟩, e1, e⟩ := Option.bind_eq_some_iff.mp e
  dsimp only at e
  split at e
  · rename_i hz
    obtain ⟨⟨ds, S2⟩, e2, e⟩ := Option.bind_eq_some_iff.mp e
    obtain ⟨⟨d, S3⟩, e3, e2⟩ := Option.bind_eq_some_iff.mp (show ((eD me ρ S1).bind fun p => (aNil ρ p.2).map fun q => (p.1 :: q.1, q.2)) = some (ds, S2) from e2)
    cases e2
    refine snd_d ho s e1 _ fun F1 ι1 H1 vx s1 p1 rx => ⟨?_, ?_⟩
    · cases x with
      | str z => simp only [RD] at rx; exact ⟨z, rx⟩
      | _ => cases hz
    · refine snd_d ha s1 e3 _ fun F2 ι2 H2 v2 s2 p2 r2 => ?_
      have pp := p1.trans p2
      exact hr s2.rep (rx.mono p2.exF p2.pre) (RDs.one r2) e Q fun F3 H3 v r3 p3 rv => k F3 ι2 H3 v (s2.after r3 p3).1 (pp.trans p3) (rv.back pp.back)
  · cases e
def cellL (x : D) (S : Sto) : Option (Nat × List D) := match x with
  | .ref n => match S[n]? with
    | some (.lst ds) => some (n, ds)
    | _ => none
  | _ => none
theorem cellL_get {x : D} {v : V} {n : Nat} {ds : List D} (r : Rep G F ι S H) (h : RD G F ι x v) (e : cellL x S = some (n, ds)) : ∃ a vs, v = .ref a ∧ ι[n]? = some a ∧ S[n]? = some (.lst ds) ∧ H a = some (.lst vs) ∧ RDs G F ι ds vs := by
  cases x with
  | ref m =>
    simp only [RD] at h
    obtain ⟨b, rfl, hb⟩ := h
    simp only [cellL] at e
    split at e
    · rename_i es hn
      cases e
      obtain ⟨a, o, h1, h2, vs, rfl, h3⟩ := r.cell _ _ hn
      rw [hb] at h1
      cases h1
      exact ⟨_, vs, rfl, hb, hn, h2, h3⟩
    · cases e
  | _ => cases e
/-- a method that leaves another list, and tells data -/
theorem cell_done {n : Nat} {ds ds' : List D} {a : Addr} {vs' : List V} (r : Rep G F ι S H) (h1 : ι[n]? = some a) (h2 : S[n]? = some (.lst ds)) (h : RDs G F ι ds' vs') : Rep G F ι (S.set n (.lst ds')) (upd H a (.lst vs')) ∧ Stx F ι H F ι (upd H a (.lst vs')) :=
  r.put h1 h2 rfl ⟨_, rfl, h⟩
def mApp : D → List D → Sto → Option (VV × Sto) := fun x xs S => match xs with
  | [y] => (cellL x S).bind fun p => if szOk p.2.length then some (.d .non, S.set p.1 (.lst (p.2 ++ [y]))) else none
  | _ => none
theorem snd_mApp : SndM G rAppend mApp := by
  intro F ι S H x xs vx vs w S' r rx rs e Q k
  unfold mApp at e
  split at e
  · rename_i y
    obtain ⟨⟨n, ds⟩, e1, e⟩ := Option.bind_eq_some_iff.mp e
    dsimp only at e
    split at e
    · rename_i hz
      cases e
      obtain ⟨a, us, rfl, h1, h2, h3, h4⟩ := cellL_get r rx e1
      obtain ⟨u, r', rfl, q1, q2⟩ := rds_cons.mp rs
      rw [rds_nil] at q2
      subst q2
      obtain ⟨r2, p2⟩ := cell_done r h1 h2 (h4.app (RDs.one q1))
      exact ⟨a, us, u, rfl, rfl, h3, by rw [← h4.len]; exact szOk_lt hz, k F _ _ r2 p2 (by simp only [RV, RD])⟩
    · cases e
  · cases e
def mExt : D → List D → Sto → Option (VV × Sto) := fun x xs S => match xs with
  | [y] => (cellL x S).bind fun p => (lstD y S).bind fun es => if szOk (p.2.length + es.length) then some (.d .non, S.set p.1 (.lst (p.2 ++ es))) else none
  | _ => none
theorem snd_mExt : SndM G rExtend mExt := by
  intro F ι S H x xs vx vs w S' r rx rs e Q k
  unfold mExt at e
  split at e
  · rename_i y
    obtain ⟨⟨n, ds⟩, e1, e⟩ := Option.bind_eq_some_iff.mp e
    obtain ⟨es, e2, e⟩ := Option.bind_eq_some_iff.mp e
    dsimp only at e
    split at e
    · rename_i hz
      cases e
      obtain ⟨a, us, rfl, h1, h2, h3, h4⟩ := cellL_get r rx e1
      obtain ⟨u, r', rfl, q1, q2⟩ := rds_cons.mp rs
      rw [rds_nil] at q2
      subst q2
      obtain ⟨b, zs, rfl, g1, g2⟩ := lst_get r q1 e2
      obtain ⟨r2, p2⟩ := cell_done r h1 h2 (h4.app g2)
      exact ⟨a, b, us, zs, rfl, rfl, h3, g1, by rw [← h4.len, ← g2.len]; exact szOk_le hz, k F _ _ r2 p2 (by simp only [RV, RD])⟩
    · cases e
  · cases e
def mClr : D → List D → Sto → Option (VV × Sto) := fun x xs S => match xs with
  | [] => (cellL x S).map fun p => (.d .non, S.set p.1 (.lst []))
  | _ => none
theorem snd_mClr : SndM G rClear mClr := by
  intro F ι S H x xs vx vs w S' r rx rs e Q k
  unfold mClr at e
  split at e
  · obtain ⟨⟨n, ds⟩, e1, e⟩ := Option.map_eq_some_iff.mp e
    cases e
    obtain ⟨a, us, rfl, h1, h2, h3, h4⟩ := cellL_get r rx e1
    rw [rds_nil] at rs
    subst rs
    obtain ⟨r2, p2⟩ := cell_done r h1 h2 (rds_nil.mpr rfl)
    exact ⟨a, us, rfl, rfl, h3, k F _ _ r2 p2 (by simp only [RV, RD])⟩
  · cases e
def mPopAt : D → List D → Sto → Option (VV × Sto) := fun x xs S => match xs with
  | [.int i] => (cellL x S).bind fun p => if smallI i then (seqIndex? i p.2.length).bind fun k => (p.2[k]?).map fun y => (.d y, S.set p.1 (.lst (p.2.eraseIdx k))) else none
  | _ => none
theorem snd_mPopAt : SndM G rPopAt mPopAt := by
  intro F ι S H x xs vx vs w S' r rx rs e Q k
  unfold mPopAt at e
  split at e
  · rename_i i
    obtain ⟨⟨n, ds⟩, e1, e⟩ := Option.bind_eq_some_iff.mp e
    dsimp only at e
    split at e
    · rename_i hz
      obtain ⟨kk, e2, e⟩ := Option.bind_eq_some_iff.mp e
      obtain ⟨y, e3, e⟩ := Option.map_eq_some_iff.mp e
      cases e
      obtain ⟨a, us, rfl, h1, h2, h3, h4⟩ := cellL_get r rx e1
      obtain ⟨u, r', rfl, q1, q2⟩ := rds_cons.mp rs
      rw [rds_nil] at q2
      subst q2
      simp only [RD] at q1
      subst q1
      obtain ⟨v, g1, g2⟩ := h4.get e3
      obtain ⟨z1, z2⟩ := smallI_iff hz
      obtain ⟨r2, p2⟩ := cell_done r h1 h2 (h4.erase kk)
      exact ⟨a, us, i, kk, v, rfl, rfl, h3, z1, z2, by rw [← h4.len]; exact e2, g1, k F _ _ r2 p2 g2⟩
    · cases e
  · cases e
def idxF (y : D) : List D → Option Nat
  | [] => none
  | z :: r => if eqF z y = true then some 0 else (idxF y r).map (· + 1)
def mIdx : D → List D → Sto → Option (VV × Sto) := fun x xs S => match xs with
  | [y] => (lstD x S).bind fun ds => if flatD y && ds.all flatD then (idxF y ds).map fun j => (.d (.int (j : Nat)), S) else none
  | _ => none
theorem idxF_spec {y : D} : ∀ {ds : List D} {j : Nat}, idxF y ds = some j → (∃ z, ds[j]? = some z ∧ eqF z y = true) ∧ ∀ m z, m < j → ds[m]? = some z → eqF z y = false
  | [], j, e => by cases e
  | z :: r, j, e => by
    unfold idxF at e
    split at e
    · rename_i h
      cases e
      exact ⟨⟨z, rfl, h⟩, fun m _ hm => absurd hm (Nat.not_lt_zero m)⟩
    · rename_i h
      obtain ⟨k, e1, rfl⟩ := Option.map_eq_some_iff.mp e
      obtain ⟨⟨u, h1, h2⟩, h3⟩ := idxF_spec e1
      refine ⟨⟨u, by simpa using h1, h2⟩, fun m v hm hv => ?_⟩
      cases m with
      | zero =>
        have : z = v := by simpa using hv
        subst this
        simpa using h
      | succ m => exact h3 m v (by omega) (by simpa using hv)
theorem snd_mIdx : SndM G (rIndex G.K) mIdx := by
  intro F ι S H x xs vx vs w S' r rx rs e Q k
  unfold mIdx at e
  split at e
  · rename_i y
    obtain ⟨ds, e1, e⟩ := Option.bind_eq_some_iff.mp e
    split at e
    · rename_i hz
      obtain ⟨j, e2, e⟩ := Option.map_eq_some_iff.mp e
      cases e
      obtain ⟨f1, f2⟩ := Bool.and_eq_true_iff.mp hz
      obtain ⟨a, us, rfl, h1, h4⟩ := lst_get r rx e1
      obtain ⟨u, r', rfl, q1, q2⟩ := rds_cons.mp rs
      rw [rds_nil] at q2
      subst q2
      obtain ⟨⟨z, g1, g2⟩, g3⟩ := idxF_spec e2
      obtain ⟨v, g4, g5⟩ := h4.get g1
      have flat_at : ∀ {m : Nat} {z : D}, ds[m]? = some z → flatD z = true := fun h => List.all_eq_true.mp f2 _ (List.mem_of_getElem? h)
      refine ⟨a, us, u, j, v, rfl, rfl, SqL.of h1, flat_of q1 f1, (inF_of q1 f1 h4 f2).1, g4, by rw [eqF_of g5 q1 (flat_at g1) f1]; exact g2, fun m z' hm hz' => ?_, k F H _ r .refl (by simp only [RV, RD])⟩
      obtain ⟨d, q3, q4⟩ := h4.getV hz'
      rw [eqF_of q4 q1 (flat_at q3) f1]
      exact g3 m d hm q3
    · cases e
  · cases e
/-! ### what is walked -/
def iSeq (K : PySem.W.Frag) (tl : TE) : TI := fun σ H R => tl σ H fun x H1 => ∃ a, x = .ref a ∧ (((∃ xs, SqL K H1 a xs) ∧ R (Itl K a) H1) ∨ ((∃ xs, SqT K H1 a xs) ∧ R (Itt K a) H1))
theorem pi_seq {X : Cx} {tg l : Expr} {tl : TE} (hl : PE X l tl) : L2.PI X tg l (iSeq X.K tl) := by
  refine ⟨fun pins s σ H R I h => ?_⟩
  refine thn (hl.run pins s σ H _ I h) fun v s1 ⟨x, H1, I1, r1, q1⟩ => ?_
  obtain ⟨a, e, q1⟩ := q1
  subst e
  cases r1
  rcases q1 with ⟨⟨xs, hq⟩, q⟩ | ⟨⟨xs, hq⟩, q⟩
  · obtain ⟨its, rv, p, hz⟩ := I1.list hq
    refine wpAny_pyIter_list p.isList ?_
    refine ⟨s1.heap.objs.size, [s1.heap.objs.size], _, _, H1, rfl, I1.kept (t' := s1.toks) fun b o e => Heap.get?_push_of_some _ e, turn_list a _, ⟨_, Heap.get?_push_size _ rfl, rfl, rfl⟩, fun b hb => ?_, q⟩
    have e : b = s1.heap.objs.size := by simpa using hb
    subst e
    exact I1.fpOk (Nat.le_refl _) (I1.hok.fresh (Nat.le_refl _))
  · obtain ⟨its, rv, p, hz⟩ := I1.tuple hq
    refine wpAny_pyIter_tuple (show s1.heap.IsTuple a its.toArray from p) ?_
    refine ⟨s1.heap.objs.size, [s1.heap.objs.size], _, _, H1, rfl, I1.kept (t' := s1.toks) fun b o e => Heap.get?_push_of_some _ e, turn_tuple a _, ⟨_, Heap.get?_push_size _ rfl, rfl, rfl⟩, fun b hb => ?_, q⟩
    have e : b = s1.heap.objs.size := by simpa using hb
    subst e
    exact I1.fpOk (Nat.le_refl _) (I1.hok.fresh (Nat.le_refl _))
/-- settled sequences -/
def stD : D → Option (List D)
  | .tup ds => some ds
  | .fl ds => some ds
  | .lk ns => some (ns.map .int)
  | _ => none
/-- for a settled sequence: its address, as it stays -/
theorem st_get {x : D} {ds : List D} {v : V} (h : RD G F ι x v) (e : stD x = some ds) : ∃ a vs, v = .ref a ∧ ((SqL G.K F a vs) ∨ SqT G.K F a vs) ∧ RDs G F ι ds vs := by
  cases x <;> simp only [stD] at e <;> cases e
  · simp only [RD] at h
    obtain ⟨a, vs, e, h1, _, h2⟩ := h
    exact ⟨a, vs, e, .inr h1, h2⟩
  · simp only [RD] at h
    obtain ⟨a, vs, e, h1, h2⟩ := h
    exact ⟨a, vs, e, .inl (SqL.of h1), h2⟩
  · simp only [RD] at h
    obtain ⟨a, e, h1⟩ := h
    exact ⟨a, _, e, .inl h1, rds_ints.mpr rfl⟩
theorem itl_ok {a : Addr} {vs : List V} {ds : List D} (h : SqL G.K F a vs) (rd : RDs G F ι ds vs) : ItL G F ι H (Itl G.K a) ds := by
  intro F1 ι1 S1 H1 e p _ r i
  have h1 : SqL G.K H1 a vs := sql_ex r.ex (sql_ex e h)
  refine ⟨fun d hd => ?_, fun hi => ⟨vs, h1, by rw [← rd.len]; exact hi⟩⟩
  obtain ⟨v, q1, q2⟩ := rd.get hd
  refine ⟨⟨vs, v, h1, q1⟩, fun x H2 y => ?_⟩
  obtain ⟨rfl, y⟩ := y
  have := y vs h1
  rw [q1] at this
  cases this
  exact ⟨F1, r, .refl, q2.mono e p⟩
theorem itt_ok {a : Addr} {vs : List V} {ds : List D} (h : SqT G.K F a vs) (rd : RDs G F ι ds vs) : ItL G F ι H (Itt G.K a) ds := by
  intro F1 ι1 S1 H1 e p _ r i
  have h1 : SqT G.K H1 a vs := sqt_ex r.ex (sqt_ex e h)
  refine ⟨fun d hd => ?_, fun hi => ⟨vs, h1, by rw [← rd.len]; exact hi⟩⟩
  obtain ⟨v, q1, q2⟩ := rd.get hd
  refine ⟨⟨vs, v, h1, q1⟩, fun x H2 y => ?_⟩
  obtain ⟨rfl, y⟩ := y
  have := y vs h1
  rw [q1] at this
  cases this
  exact ⟨F1, r, .refl, q2.mono e p⟩
def iEv (m : EM) : AM := fun ρ S => (eD m ρ S).bind fun p => (stD p.1).map fun ds => (ds, p.2)
theorem snd_iseq (h : SndV G te me) : SndI G (iSeq G.K te) (iEv me) := by
  intro F ι S ρ σ H ds S' s e R k
  unfold iEv at e
  obtain ⟨⟨x, S1⟩, e1, e⟩ := Option.bind_eq_some_iff.mp e
  obtain ⟨ds', e2, e⟩ := Option.map_eq_some_iff.mp e
  cases e
  refine snd_d h s e1 _ fun F1 ι1 H1 v s1 p1 r => ?_
  obtain ⟨a, vs, rfl, h1, h2⟩ := st_get r e2
  refine ⟨a, rfl, ?_⟩
  rcases h1 with h1 | h1
  · exact .inl ⟨⟨vs, sql_ex s1.rep.ex h1⟩, k F1 ι1 H1 _ s1 p1 (itl_ok h1 h2)⟩
  · exact .inr ⟨⟨vs, sqt_ex s1.rep.ex h1⟩, k F1 ι1 H1 _ s1 p1 (itt_ok h1 h2)⟩
def rngL (lo : Int) (n : Nat) : List D := (List.range n).map fun i => .int (lo + (i : Nat))
theorem itr_ok {lo : Int} {n : Nat} : ItL G F ι H (Itr lo n) (rngL lo n) := by
  intro F1 ι1 S1 H1 e p _ r i
  unfold rngL
  refine ⟨fun d hd => ?_, fun hi => (show n ≤ i by simpa using hi)⟩
  rw [List.getElem?_map] at hd
  obtain ⟨j, h1, rfl⟩ := Option.map_eq_some_iff.mp hd
  have hi : i < n := by
    have := (List.getElem?_eq_some_iff.mp h1).1
    simpa using this
  have ej : j = i := by
    rw [List.getElem?_range hi] at h1
    exact (Option.some.inj h1).symm
  subst ej
  refine ⟨hi, fun x H2 y => ?_⟩
  obtain ⟨rfl, rfl⟩ := y
  exact ⟨F1, r, .refl, by simp only [RD]⟩
def smallR (i : Int) : Bool := decide (-(2 ^ 62) ≤ i) && decide (i < 2 ^ 62)
theorem smallR_iff {i : Int} (h : smallR i = true) : -(2 ^ 62) ≤ i ∧ i < 2 ^ 62 := by
  unfold smallR at h
  rw [Bool.and_eq_true] at h
  exact ⟨of_decide_eq_true h.1, of_decide_eq_true h.2⟩
def iR1 (a : AM) : AM := fun ρ S => (a ρ S).bind fun p => match p.1 with
  | [.int j] => if smallR j then some (rngL 0 j.toNat, p.2) else none
  | _ => none
theorem snd_ir1 {t : TA} {m : AM} (h : SndA G t m) : SndI G (iRng1 t) (iR1 m) := by
  intro F ι S ρ σ H ds S' s e R k
  unfold iR1 at e
  obtain ⟨⟨xs, S1⟩, e1, e⟩ := Option.bind_eq_some_iff.mp e
  dsimp only at e
  split at e
  · rename_i j
    split at e
    · rename_i hz
      cases e
      refine h s e1 _ fun F1 ι1 H1 vs s1 p1 r => ?_
      obtain ⟨v, r', rfl, q1, q2⟩ := rds_cons.mp r
      rw [rds_nil] at q2
      subst q2
      simp only [RD] at q1
      subst q1
      obtain ⟨z1, z2⟩ := smallR_iff hz
      exact ⟨_, rfl, z1, z2, k F1 ι1 H1 _ s1 p1 itr_ok⟩
    · cases e
  · cases e
def iR2 (a : AM) : AM := fun ρ S => (a ρ S).bind fun p => match p.1 with
  | [.int i, .int j] => if smallR i && smallR j then some (rngL i (j - i).toNat, p.2) else none
  | _ => none
theorem snd_ir2 {t : TA} {m : AM} (h : SndA G t m) : SndI G (iRng2 t) (iR2 m) := by
  intro F ι S ρ σ H ds S' s e R k
  unfold iR2 at e
  obtain ⟨⟨xs, S1⟩, e1, e⟩ := Option.bind_eq_some_iff.mp e
  dsimp only at e
  split at e
  · rename_i i j
    split at e
    · rename_i hz
      cases e
      refine h s e1 _ fun F1 ι1 H1 vs s1 p1 r => ?_
      obtain ⟨v, r', rfl, q1, q2⟩ := rds_cons.mp r
      obtain ⟨u, r'', rfl, q3, q4⟩ := rds_cons.mp q2
      rw [rds_nil] at q4
      subst q4
      simp only [RD] at q1 q3
      subst q1 q3
      obtain ⟨y1, y2⟩ := Bool.and_eq_true_iff.mp hz
      obtain ⟨z1, z2⟩ := smallR_iff y1
      obtain ⟨z3, z4⟩ := smallR_iff y2
      exact ⟨_, _, rfl, ⟨z1, z2, z3, z4⟩, k F1 ι1 H1 _ s1 p1 itr_ok⟩
    · cases e
  · cases e
/-- enumerate of a settled list -/
def enumL : Nat → List D → List D
  | _, [] => []
  | i, d :: r => .tup [.int (i : Nat), d] :: enumL (i + 1) r
theorem enumL_get : ∀ {ds : List D} {j i : Nat}, (enumL j ds)[i]? = (ds[i]?).map fun d => D.tup [.int ((j + i : Nat) : Int), d]
  | [], j, i => by simp [enumL]
  | d :: r, j, 0 => by simp [enumL]
  | d :: r, j, i + 1 => by
    simp only [enumL, List.getElem?_cons_succ]
    rw [enumL_get, show j + 1 + i = j + (i + 1) by omega]
theorem enumL_len : ∀ {ds : List D} {j : Nat}, (enumL j ds).length = ds.length
  | [], _ => rfl
  | d :: r, j => by simp only [enumL, List.length_cons]; rw [enumL_len]
def lsD : D → Option (List D)
  | .fl ds => some ds
  | .lk ns => some (ns.map .int)
  | _ => none
def iEn (a : AM) : AM := fun ρ S => (a ρ S).bind fun p => match p.1 with
  | [x] => (lsD x).map fun ds => (enumL 0 ds, p.2)
  | _ => none
theorem ite_ok {a : Addr} {vs : List V} {ds : List D} (h : SqL G.K F a vs) (rd : RDs G F ι ds vs) : ItL G F ι H (Ite G.K a) (enumL 0 ds) := by
  intro F1 ι1 S1 H1 e p _ r i
  have h1 : SqL G.K H1 a vs := sql_ex r.ex (sql_ex e h)
  refine ⟨fun d hd => ?_, fun hi => ⟨vs, h1, by rw [← rd.len]; rw [enumL_len] at hi; exact hi⟩⟩
  rw [enumL_get] at hd
  obtain ⟨d', hd', rfl⟩ := Option.map_eq_some_iff.mp hd
  obtain ⟨v, q1, q2⟩ := rd.get hd'
  refine ⟨⟨vs, v, h1, q1⟩, fun x H2 y => ?_⟩
  obtain ⟨T, u, rfl, hT, rfl, y⟩ := y
  have := y vs h1
  rw [q1] at this
  cases this
  obtain ⟨r2, p2⟩ := r.newF (o := .tup [.int (i : Nat), v]) hT
  refine ⟨_, r2, p2, ?_⟩
  simp only [RD]
  refine ⟨T, _, rfl, SqT.of upd_same, fun _ => upd_same, rds_cons.mpr ⟨_, _, rfl, by simp only [RD]; rw [Nat.zero_add], RDs.one ((q2.mono e p).mono p2.exF p2.pre)⟩⟩
theorem snd_ien {t : TA} {m : AM} (h : SndA G t m) : SndI G (iEnum G.K t) (iEn m) := by
  intro F ι S ρ σ H ds S' s e R k
  unfold iEn at e
  obtain ⟨⟨xs, S1⟩, e1, e⟩ := Option.bind_eq_some_iff.mp e
  dsimp only at e
  split at e
  · rename_i x
    obtain ⟨ds', e2, e⟩ := Option.map_eq_some_iff.mp e
    cases e
    refine h s e1 _ fun F1 ι1 H1 vs s1 p1 r => ?_
    obtain ⟨v, r', rfl, q1, q2⟩ := rds_cons.mp r
    rw [rds_nil] at q2
    subst q2
    have hx : ∃ a vs, v = .ref a ∧ SqL G.K F1 a vs ∧ RDs G F1 ι1 ds' vs := by
      cases x <;> simp only [lsD] at e2 <;> cases e2
      · simp only [RD] at q1
        obtain ⟨a, vs, e, h1, h2⟩ := q1
        exact ⟨a, vs, e, SqL.of h1, h2⟩
      · simp only [RD] at q1
        obtain ⟨a, e, h1⟩ := q1
        exact ⟨a, _, e, h1, rds_ints.mpr rfl⟩
    obtain ⟨a, us, rfl, h1, h2⟩ := hx
    exact ⟨a, us, rfl, sql_ex s1.rep.ex h1, k F1 ι1 H1 _ s1 p1 (ite_ok h1 h2)⟩
  · cases e
end
end Yi
/-! Loops over cells, walks of locked dicts, built-in calls, over states. -/
namespace Yi
open PySem L2
section
variable {G : Gm} {F F' H H' : Hp} {ι ι' : List Addr} {S S' : Sto} {ρ ρ' : Slt} {σ σ' : St} {ta tb tc te td ty tx : TE} {ma mb mc me md my mx : EM} {tt tu : TT} {mt mu : BM}
/-! ### loops over a cell, as it stands at each turn -/
def ItC (G : Gm) (n : Nat) (mk : Nat → D → D) (F : Hp) (ι : List Addr) (J : It) : Prop := ∀ {F1 : Hp} {ι1 : List Addr} {S1 : Sto} {H1 : Hp}, Same F F1 → Pre ι ι1 → Rep G F1 ι1 S1 H1 → ∀ (i : Nat) (ds : List D), S1[n]? = some (.lst ds) →
  (∀ d, ds[i]? = some d → J.go i H1 ∧ ∀ x H2, J.yld i H1 x H2 → ∃ F2, Rep G F2 ι1 S1 H2 ∧ Stx F1 ι1 H1 F2 ι1 H2 ∧ RD G F2 ι1 (mk i d) x) ∧ (ds.length ≤ i → J.stop i H1)
def SndIC (G : Gm) (wi : TI) (m : Slt → Sto → Option (Nat × Sto)) (mk : Nat → D → D) : Prop := ∀ {F : Hp} {ι : List Addr} {S : Sto} {ρ : Slt} {σ : St} {H : Hp} {n : Nat} {S' : Sto}, Sta G F ι S ρ σ H → m ρ S = some (n, S') → ∀ R : It → Hp → Prop,
  (∀ F' ι' H' J, Sta G F' ι' S' ρ σ H' → Stx F ι H F' ι' H' → ItC G n mk F' ι' J → R J H') → wi σ H R
def forC (n : Nat) (mk : Nat → D → D) (g : TM) (b : SM) : Nat → Nat → SM
  | 0, _, _, _ => none
  | k + 1, i, ρ, S => match S[n]? with
    | some (.lst ds) => match ds[i]? with
      | none => some (.nx, ρ, S)
      | some d => (g (mk i d) ρ).bind fun ρ1 => (b ρ1 S).bind fun p => match p.1 with
        | .nx => forC n mk g b k (i + 1) p.2.1 p.2.2
        | .ct => forC n mk g b k (i + 1) p.2.1 p.2.2
        | .bk => some (.nx, p.2.1, p.2.2)
        | .rt v => some (.rt v, p.2.1, p.2.2)
    | _ => none
def lenC (n : Nat) (S : Sto) : Nat := match S[n]? with
  | some (.lst ds) => ds.length
  | _ => 0
def sForC (i : Slt → Sto → Option (Nat × Sto)) (mk : Nat → D → D) (g : TM) (b : SM) : SM := fun ρ S => (i ρ S).bind fun p => forC p.1 mk g b (lenC p.1 p.2 + 1) 0 ρ p.2
theorem snd_forC {wi : TI} {mi : Slt → Sto → Option (Nat × Sto)} {mk : Nat → D → D} {g : TG} {mg : TM} {vs : List Nat} {tb : TS} {mb : SM} (hi : SndIC G wi mi mk) (hg : SndG G g mg vs) (hb : SndS G tb mb) : SndS G (tFor wi g tb) (sForC mi mk mg mb) := by
  intro F ι S ρ σ H fl ρ' S' s e W k
  unfold sForC at e
  obtain ⟨⟨n, S1⟩, e1, e⟩ := Option.bind_eq_some_iff.mp e
  dsimp only at e
  refine hi s e1 _ fun F1 ι1 H1 J s1 p1 hJ => ?_
  have k1 := k.later (stx_own (O := OwnA ρ σ) p1)
  refine ⟨fun i m σ2 H2 => ∃ F2 ι2 S2 ρ2, Sta G F2 ι2 S2 ρ2 σ2 H2 ∧ Stp F1 ι1 (OwnA ρ σ) H1 F2 ι2 (OwnA ρ2 σ2) H2 ∧ forC n mk mg mb m i ρ2 S2 = some (fl, ρ', S'), ⟨lenC n S1 + 1, F1, ι1, S1, ρ, s1, .refl, e⟩, ?_⟩
  rintro i m σ2 H2 ⟨F2, ι2, S2, ρ2, s2, p2, e2⟩
  cases m with
  | zero => cases e2
  | succ m =>
    unfold forC at e2
    split at e2
    · rename_i ds hn
      obtain ⟨j1, j2⟩ := hJ p2.exF p2.pre s2.rep i ds hn
      split at e2
      · rename_i hd
        cases e2
        exact .inl ⟨j2 (List.getElem?_eq_none_iff.mp hd), k1 F2 ι2 σ2 H2 s2 p2⟩
      · rename_i d hd
        obtain ⟨ρ3, e3, e2⟩ := Option.bind_eq_some_iff.mp e2
        obtain ⟨⟨f4, ρ4, S4⟩, e4, e2⟩ := Option.bind_eq_some_iff.mp e2
        obtain ⟨go, yl⟩ := j1 d hd
        refine .inr ⟨go, fun σ' H' => ∃ F2 ι2 S2 ρ2, Sta G F2 ι2 S2 ρ2 σ' H' ∧ Stp F1 ι1 (OwnA ρ σ) H1 F2 ι2 (OwnA ρ2 σ') H' ∧ forC n mk mg mb m (i + 1) ρ2 S2 = some (fl, ρ', S'), fun σ' H' h => ⟨m, Nat.lt_succ_self m, h⟩, fun x H3 y => ?_⟩
        obtain ⟨F3, r3, p3, rd⟩ := yl x H3 y
        have s3 := (s2.after r3 p3).1
        have pp : Stp F1 ι1 (OwnA ρ σ) H1 F3 ι2 (OwnA ρ2 σ2) H3 := p2.trans (stx_own p3)
        refine hg s3 rd e3 _ fun σ4 s4 o4 _ => ?_
        have p4 : Stp F1 ι1 (OwnA ρ σ) H1 F3 ι2 (OwnA ρ3 σ4) H3 := pp.trans (Stp.same o4)
        refine hb s4 e4 _ ?_
        cases f4 with
        | nx => exact fun F5 ι5 σ5 H5 s5 p5 => ⟨F5, ι5, S4, ρ4, s5, p4.trans p5, e2⟩
        | ct => exact fun F5 ι5 σ5 H5 s5 p5 => ⟨F5, ι5, S4, ρ4, s5, p4.trans p5, e2⟩
        | bk => cases e2; exact fun F5 ι5 σ5 H5 s5 p5 => k1 F5 ι5 σ5 H5 s5 (p4.trans p5)
        | rt v => cases e2; exact k1.later p4
    · cases e2
def compC (n : Nat) (mk : Nat → D → D) (g : TM) (c : BM) (m : EM) (ρ : Slt) : Nat → Nat → List D → Sto → Option (List D × Sto)
  | 0, _, _, _ => none
  | k + 1, i, ys, S => match S[n]? with
    | some (.lst ds) => match ds[i]? with
      | none => some (ys, S)
      | some d => (g (mk i d) ρ).bind fun ρ1 => (c ρ1 S).bind fun p => if p.1 = true then (eD m ρ1 p.2).bind fun q => if szOk ys.length then compC n mk g c m ρ k (i + 1) (ys ++ [q.1]) q.2 else none else compC n mk g c m ρ k (i + 1) ys p.2
    | _ => none
def eLcC (i : Slt → Sto → Option (Nat × Sto)) (mk : Nat → D → D) (g : TM) (c : BM) (m : EM) (vs : List Nat) : EM := fun ρ S => (i ρ S).bind fun p => (compC p.1 mk g c m (wipeS ρ vs) (lenC p.1 p.2 + 1) 0 [] p.2).map fun q => (.own (.lst q.1), q.2)
theorem keepNew {C : Addr} {Fa : Hp} {ιa : List Addr} {Ha : Hp} {Fb : Hp} {ιb : List Addr} {Hb : Hp} {o : HO} (p : Stx Fa ιa Ha Fb ιb Hb) (h1 : Ha C = some o) (h2 : Fa C = none) (h3 : C ∉ ιa) : Hb C = some o ∧ Fb C = none ∧ C ∉ ιb := by
  have hne : Ha C ≠ none := by rw [h1]; exact fun z => by cases z
  refine ⟨p.fr C _ h1 h3 (fun z => z), ?_, fun z => ?_⟩
  · refine Classical.byContradiction fun z => ?_
    rcases p.nF C z with q | q | q
    · exact q h2
    · exact hne q
    · exact q
  · rcases p.nI C z with q | q | q
    · exact h3 q
    · exact hne q
    · exact q
/-- an object that nobody holds is written -/
theorem Rep.wr {C : Addr} {o' : HO} (r : Rep G F ι S H) (h2 : F C = none) (h3 : C ∉ ι) : Rep G F ι S (upd H C o') := by
  refine ⟨fun a o h => ?_, fun n c h => ?_, r.len, r.nd, r.sep⟩
  · rw [upd_ne (ne_of_none h h2)]; exact r.ex a o h
  · obtain ⟨a, o, q1, q2, q3⟩ := r.cell n c h
    exact ⟨a, o, q1, by rw [upd_ne fun z => h3 (by rw [← z]; exact List.mem_of_getElem? q1)]; exact q2, q3⟩
theorem Stp.wr {C : Addr} {o' : HO} {F0 H0 : Hp} {ι0 : List Addr} (p : Stx F0 ι0 H0 F ι H) (hC : H0 C = none) : Stx F0 ι0 H0 F ι (upd H C o') := by
  refine ⟨p.exF, p.pre, fun a o h1 h2 h3 => ?_, p.nF, p.nI, fun _ z => z.elim, fun a h => ?_, fun a ob u h => ?_⟩
  · rw [upd_ne (ne_of_none h1 hC)]; exact p.fr a o h1 h2 h3
  · by_cases ha : a = C
    · subst ha; rw [upd_same]; exact fun z => by cases z
    · rw [upd_ne ha]; exact p.dom a h
  · rw [upd_ne (ne_of_none h hC)]; exact p.fz a ob u h
theorem snd_lcC {wi : TI} {mi : Slt → Sto → Option (Nat × Sto)} {mk : Nat → D → D} {g : TG} {mg : TM} {ws vs : List Nat} (hi : SndIC G wi mi mk) (hg : SndG G g mg ws) (ht : SndT G tt mt) (he : SndV G te me) (hw : ∀ i ∈ ws, i ∈ vs) : SndV G (tLc wi g tt te vs) (eLcC mi mk mg mt me vs) := by
  intro F ι S ρ σ H w S' s e Q k
  unfold eLcC at e
  obtain ⟨⟨n, S1⟩, e1, e⟩ := Option.bind_eq_some_iff.mp e
  obtain ⟨⟨ys, S2⟩, e2, e⟩ := Option.map_eq_some_iff.mp e
  cases e
  refine hi s e1 _ fun F1 ι1 H1 J s1 p1 hJ => fun C hC => ?_
  have n1 : F1 C = none := s1.rep.noF hC
  have n2 : C ∉ ι1 := s1.rep.noI hC
  obtain ⟨r0, q0⟩ := s1.rep.newO (o := .lst []) hC
  refine ⟨fun i m H2 => ∃ F2 ι2 S3 acc zs, Rep G F2 ι2 S3 H2 ∧ Stx F1 ι1 H1 F2 ι2 H2 ∧ H2 C = some (.lst acc) ∧ RDs G F2 ι2 zs acc ∧ F2 C = none ∧ C ∉ ι2 ∧ compC n mk mg mt me (wipeS ρ vs) m i zs S3 = some (ys, S2),
    ⟨lenC n S1 + 1, F1, ι1, S1, [], [], r0, q0, upd_same, rds_nil.mpr rfl, n1, n2, e2⟩, ?_⟩
  rintro i m H2 ⟨F2, ι2, S3, acc, zs, r2, p2, hc, rz, c1, c2, e3⟩
  cases m with
  | zero => cases e3
  | succ m =>
    unfold compC at e3
    split at e3
    · rename_i ds hn
      obtain ⟨j1, j2⟩ := hJ p2.exF p2.pre r2 i ds hn
      split at e3
      · rename_i hd
        cases e3
        refine .inl ⟨j2 (List.getElem?_eq_none_iff.mp hd), ?_⟩
        have pp := p1.trans p2
        exact k F2 ι2 H2 _ (s.after r2 pp).1 pp ⟨C, _, rfl, hc, ⟨acc, rfl, rz⟩, c1, c2, .inr (p1.back C hC)⟩
      · rename_i d hd
        obtain ⟨ρ3, e4, e3⟩ := Option.bind_eq_some_iff.mp e3
        obtain ⟨⟨b, S4⟩, e5, e3⟩ := Option.bind_eq_some_iff.mp e3
        obtain ⟨go, yl⟩ := j1 d hd
        refine .inr ⟨go, fun H' => ∃ F2 ι2 S3 acc zs, Rep G F2 ι2 S3 H' ∧ Stx F1 ι1 H1 F2 ι2 H' ∧ H' C = some (.lst acc) ∧ RDs G F2 ι2 zs acc ∧ F2 C = none ∧ C ∉ ι2 ∧ compC n mk mg mt me (wipeS ρ vs) m (i + 1) zs S3 = some (ys, S2), fun H' h => ⟨m, Nat.lt_succ_self m, h⟩, fun x H3 y => ?_⟩
        obtain ⟨F3, r3, p3, rd⟩ := yl x H3 y
        have s3 : Sta G F3 ι2 S3 ρ σ H3 := (s1.after r3 (p2.trans p3)).1
        obtain ⟨hc3, c3, d3⟩ := keepNew p3 hc c1 c2
        refine hg (s3.wipe (vs := vs)) rd e4 _ fun σ4 s4 o4 on4 => ⟨wipe_only on4 hw, ?_⟩
        refine ht s4 e5 _ fun F5 ι5 H5 s5 p5 => ?_
        obtain ⟨hc5, c5, d5⟩ := keepNew p5 hc3 c3 d3
        cases b with
        | true =>
          rw [if_pos rfl]
          dsimp only at e3
          rw [if_pos rfl] at e3
          obtain ⟨⟨yd, S6⟩, e6, e3⟩ := Option.bind_eq_some_iff.mp e3
          dsimp only at e3
          split at e3
          · rename_i hz
            refine snd_d he s5 e6 _ fun F6 ι6 H6 v6 s6 p6 r6 => ?_
            obtain ⟨hc6, c6, d6⟩ := keepNew p6 hc5 c5 d5
            have pp := ((p2.trans p3).trans p5).trans p6
            have rz6 : RDs G F6 ι6 zs acc := rz.mono ((p3.trans p5).trans p6).exF ((p3.trans p5).trans p6).pre
            exact ⟨acc, hc6, by rw [← rz6.len]; exact szOk_lt hz, F6, ι6, S6, acc ++ [v6], zs ++ [yd], s6.rep.wr c6 d6, pp.wr hC, upd_same, rz6.app (RDs.one r6), c6, d6, e3⟩
          · cases e3
        | false =>
          rw [if_neg Bool.false_ne_true]
          dsimp only at e3
          rw [if_neg Bool.false_ne_true] at e3
          exact ⟨F5, ι5, S4, acc, zs, s5.rep, (p2.trans p3).trans p5, hc5, rz.mono (p3.trans p5).exF (p3.trans p5).pre, c5, d5, e3⟩
    · cases e3
def iC (m : EM) : Slt → Sto → Option (Nat × Sto) := fun ρ S => (eD m ρ S).bind fun p => match p.1 with
  | .ref n => match p.2[n]? with
    | some (.lst _) => some (n, p.2)
    | _ => none
  | _ => none
theorem iC_some {n : Nat} (h : iC me ρ S = some (n, S')) : eD me ρ S = some (.ref n, S') ∧ ∃ ds, S'[n]? = some (.lst ds) := by
  unfold iC at h
  obtain ⟨⟨x, S1⟩, e1, e⟩ := Option.bind_eq_some_iff.mp h
  match x, e with
  | .ref m, e =>
    dsimp only at e
    split at e
    · rename_i ds hn
      cases e
      exact ⟨e1, ds, hn⟩
    · cases e
def mkI : Nat → D → D := fun _ d => d
def mkE : Nat → D → D := fun i d => .tup [.int (i : Nat), d]
theorem snd_iC (h : SndV G te me) : SndIC G (iSeq G.K te) (iC me) mkI := by
  intro F ι S ρ σ H n S' s e R k
  obtain ⟨e1, ds0, hn0⟩ := iC_some e
  refine snd_d h s e1 _ fun F1 ι1 H1 v s1 p1 r => ?_
  simp only [RD] at r
  obtain ⟨a, rfl, ha⟩ := r
  obtain ⟨a', o, h1, h2, vs0, rfl, h3⟩ := s1.rep.cell n _ hn0
  rw [ha] at h1
  cases h1
  refine ⟨_, rfl, .inl ⟨⟨vs0, SqL.of h2⟩, k F1 ι1 H1 _ s1 p1 ?_⟩⟩
  intro F2 ι2 S2 H2 e2 p2 r2 i ds hn
  obtain ⟨b, o, g1, g2, vs, rfl, g3⟩ := r2.cell n _ hn
  rw [pre_get p2 ha] at g1
  cases g1
  refine ⟨fun d hd => ?_, fun hi => ⟨vs, SqL.of g2, by rw [← g3.len]; exact hi⟩⟩
  obtain ⟨v, q1, q2⟩ := g3.get hd
  refine ⟨⟨vs, v, SqL.of g2, q1⟩, fun x H3 y => ?_⟩
  obtain ⟨rfl, y⟩ := y
  have := y vs (SqL.of g2)
  rw [q1] at this
  cases this
  exact ⟨F2, r2, .refl, q2⟩
theorem snd_iCE (h : SndV G te me) : SndIC G (iEnum G.K (tCons te tNil)) (iC me) mkE := by
  intro F ι S ρ σ H n S' s e R k
  obtain ⟨e1, ds0, hn0⟩ := iC_some e
  refine snd_d h s e1 _ fun F1 ι1 H1 v s1 p1 r => ?_
  simp only [RD] at r
  obtain ⟨a, rfl, ha⟩ := r
  obtain ⟨a', o, h1, h2, vs0, rfl, h3⟩ := s1.rep.cell n _ hn0
  rw [ha] at h1
  cases h1
  refine ⟨_, vs0, rfl, SqL.of h2, k F1 ι1 H1 _ s1 p1 ?_⟩
  intro F2 ι2 S2 H2 e2 p2 r2 i ds hn
  obtain ⟨b, o, g1, g2, vs, rfl, g3⟩ := r2.cell n _ hn
  rw [pre_get p2 ha] at g1
  cases g1
  refine ⟨fun d hd => ?_, fun hi => ⟨vs, SqL.of g2, by rw [← g3.len]; exact hi⟩⟩
  obtain ⟨v, q1, q2⟩ := g3.get hd
  refine ⟨⟨vs, v, SqL.of g2, q1⟩, fun x H3 y => ?_⟩
  obtain ⟨T, u, rfl, hT, rfl, y⟩ := y
  have := y vs (SqL.of g2)
  rw [q1] at this
  cases this
  obtain ⟨r3, p3⟩ := r2.newF (o := .tup [.int (i : Nat), v]) hT
  refine ⟨_, r3, p3, ?_⟩
  simp only [RD, mkE]
  exact ⟨T, _, rfl, SqT.of upd_same, fun _ => upd_same, rds_cons.mpr ⟨_, _, rfl, by simp only [RD], RDs.one (q2.mono p3.exF p3.pre)⟩⟩
/-! ### a dict is locked while a comprehension walks it -/
/-- m walks the dict that is the cell n -/
def eLock (n : Slt → Sto → Option Nat) (m : EM) : EM := fun ρ S => (n ρ S).bind fun n => match S[n]? with
  | some (.dk kvs) => (m ρ (S.set n (.lk kvs))).bind fun p => match p.2[n]? with
    | some (.lk kvs') => if p.2.length = S.length then some (p.1, p.2.set n (.dk kvs)) else none
    | _ => none
  | _ => none
theorem snd_lock {nn : Slt → Sto → Option Nat} (h : SndV G te me) : SndV G (tLockE te) (eLock nn me) := by
  intro F ι S ρ σ H w S' s e Q k
  unfold eLock at e
  obtain ⟨n, e1, e⟩ := Option.bind_eq_some_iff.mp e
  split at e
  · rename_i kvs hn
    obtain ⟨⟨u, S1⟩, e2, e⟩ := Option.bind_eq_some_iff.mp e
    dsimp only at e
    split at e
    · rename_i kvs' hn'
      split at e
      · rename_i hlen
        cases e
        obtain ⟨a, o, h1, h2, kv, rfl, h3⟩ := s.rep.cell n _ hn
        refine ⟨a, .dK kv, h2, trivial, fun od => ?_⟩
        have hm : a ∈ ι := List.mem_of_getElem? h1
        obtain ⟨r2, p2⟩ := s.rep.put h1 hn rfl (c' := .lk kvs) (o' := .frz od (.dK kv)) ⟨od, kv, rfl, h3⟩
        have s2 := (s.after r2 p2).1
        refine h s2 e2 _ fun F3 ι3 H3 v s3 p3 rv => ?_
        have hz : H3 a = some (.frz od (.dK kv)) := p3.fz a _ _ upd_same
        refine ⟨hz, ?_⟩
        have hι : ι3 = ι := by
          have l1 := s3.rep.len
          have l2 := s.rep.len
          obtain ⟨t, ht⟩ := p3.pre
          have : t = [] := by
            apply List.eq_nil_of_length_eq_zero
            have := congrArg List.length ht
            rw [List.length_append] at this
            omega
          rw [this, List.append_nil] at ht
          exact ht.symm
        have hm3 : ι3[n]? = some a := pre_get p3.pre h1
        have nF3 : F3 a = none := s3.rep.sep a (List.mem_of_getElem? hm3)
        have rk : RKs G F3 ι3 kvs kv := h3.mono p3.exF p3.pre
        -- unlocked
        have r4 : Rep G F3 ι3 (S1.set n (.dk kvs)) (upd H3 a (.dK kv)) := by
          refine ⟨fun b o q => ?_, fun m c q => ?_, by rw [List.length_set]; exact s3.rep.len, s3.rep.nd, s3.rep.sep⟩
          · rw [upd_ne (ne_of_none q nF3)]; exact s3.rep.ex b o q
          · by_cases hmn : m = n
            · subst hmn
              have hl : m < S1.length := by rw [← s3.rep.len]; exact (List.getElem?_eq_some_iff.mp hm3).1
              rw [List.getElem?_set_self hl] at q
              cases q
              exact ⟨a, _, hm3, upd_same, kv, rfl, rk⟩
            · rw [List.getElem?_set_ne (Ne.symm hmn)] at q
              obtain ⟨b, o, q1, q2, q3⟩ := s3.rep.cell m c q
              have hb : b ≠ a := fun z => by
                subst z
                obtain ⟨l1, e1⟩ := List.getElem?_eq_some_iff.mp q1
                obtain ⟨l2, e2⟩ := List.getElem?_eq_some_iff.mp hm3
                exact hmn ((List.getElem_inj s3.rep.nd).mp (e1.trans e2.symm))
              exact ⟨b, o, q1, by rw [upd_ne hb]; exact q2, q3⟩
        have p4 : Stx F ι H F3 ι3 (upd H3 a (.dK kv)) := by
          have pp := p2.trans p3
          refine ⟨pp.exF, pp.pre, fun b o q1 q2 q3 => ?_, pp.nF, pp.nI, fun _ z => z.elim, fun b q => ?_, fun b ob u q => ?_⟩
          · rw [upd_ne fun z => q2 (by rw [z]; exact hm)]; exact pp.fr b o q1 q2 q3
          · by_cases z : b = a
            · subst z; rw [upd_same]; exact fun z => by cases z
            · rw [upd_ne z]; exact pp.dom b q
          · have hb : b ≠ a := fun z => by subst z; rw [h2] at q; cases q
            rw [upd_ne hb]; exact pp.fz b ob u q
        refine k F3 ι3 _ v (s.after r4 p4).1 p4 ?_
        cases w with
        | d x => exact rv
        | own c =>
          obtain ⟨b, o, g1, g2, g3, g4, g5, g6⟩ := rv
          have hb : b ≠ a := fun z => g5 (by rw [z]; exact List.mem_of_getElem? hm3)
          exact ⟨b, o, g1, by rw [upd_ne hb]; exact g2, g3, g4, g5, .inr (p2.back b (none_noO.mp g6))⟩
      · cases e
    · cases e
  · cases e
def keyD : Key → D
  | .inl i => .int i
  | .inr s => .str s
theorem rd_key (k : Key) : RD G F ι (keyD k) (kV k) := by cases k <;> simp only [keyD, RD] <;> rfl
/-- the cell of a locked dict -/
def iLk (f : List (Key × D) → List D) (m : EM) : AM := fun ρ S => (eD m ρ S).bind fun p => match p.1 with
  | .ref n => match p.2[n]? with
    | some (.lk kvs) => some (f kvs, p.2)
    | _ => none
  | _ => none
def itemsL (kvs : List (Key × D)) : List D := kvs.map fun p => .tup [keyD p.1, p.2]
def valsL (kvs : List (Key × D)) : List D := kvs.map fun p => p.2
theorem rks_get {κ : Type} : ∀ {kvs : List (κ × D)} {kv : List (κ × V)}, RKs G F ι kvs kv → ∀ {i : Nat} {p : κ × D}, kvs[i]? = some p → ∃ v, kv[i]? = some (p.1, v) ∧ RD G F ι p.2 v
  | [], _, _, i, p, e => by simp at e
  | (k, d) :: r, kv, h, 0, p, e => by
    obtain ⟨v, r', rfl, h1, h2⟩ := h
    have : (k, d) = p := by simpa using e
    subst this
    exact ⟨v, rfl, h1⟩
  | (k, d) :: r, kv, h, i + 1, p, e => by
    obtain ⟨v, r', rfl, h1, h2⟩ := h
    obtain ⟨u, q1, q2⟩ := rks_get h2 (i := i) (p := p) (by simpa using e)
    exact ⟨u, by simpa using q1, q2⟩
theorem snd_items (h : SndV G te me) : SndI G (iItems te) (iLk itemsL me) := by
  intro F ι S ρ σ H ds S' s e R k
  unfold iLk at e
  obtain ⟨⟨x, S1⟩, e1, e⟩ := Option.bind_eq_some_iff.mp e
  match x, e with
  | .ref n, e =>
    dsimp only at e
    split at e
    · rename_i kvs hn
      cases e
      refine snd_d h s e1 _ fun F1 ι1 H1 v s1 p1 r => ?_
      simp only [RD] at r
      obtain ⟨a, rfl, ha⟩ := r
      obtain ⟨b, o, h1, h2, ob, kv, rfl, h3⟩ := s1.rep.cell n _ hn
      rw [ha] at h1
      cases h1
      refine ⟨_, ob, kv, rfl, h2, k F1 ι1 H1 _ s1 p1 ?_⟩
      intro F2 ι2 S2 H2 ee pp fz r2 i
      have g := fz _ _ _ h2
      refine ⟨fun d hd => ?_, fun hi => ⟨g, by rw [← rks_len h3]; simpa [itemsL] using hi⟩⟩
      unfold itemsL at hd
      rw [List.getElem?_map] at hd
      obtain ⟨p, hp, rfl⟩ := Option.map_eq_some_iff.mp hd
      obtain ⟨v, q1, q2⟩ := rks_get h3 hp
      refine ⟨⟨g, (List.getElem?_eq_some_iff.mp q1).1⟩, fun x H3 y => ?_⟩
      obtain ⟨T, kk, u, g1, rfl, hT, rfl⟩ := y
      rw [q1] at g1
      cases g1
      obtain ⟨r3, p3⟩ := r2.newF (o := .tup [kV p.1, v]) hT
      refine ⟨_, r3, p3, ?_⟩
      simp only [RD]
      exact ⟨T, _, rfl, SqT.of upd_same, fun _ => upd_same, rds_cons.mpr ⟨_, _, rfl, rd_key _, RDs.one ((q2.mono ee pp).mono p3.exF p3.pre)⟩⟩
    · cases e
/-! ### built-in calls -/
theorem SndRL.or1 {r r' : List V → Hp → VK → Prop} {f : List D → Sto → Option VV} (h : SndRL G r f) : SndRL G (fun xs H Q => r xs H Q ∨ r' xs H Q) f := by
  intro F ι S H xs vs w q rs e Q k
  exact .inl (h q rs e Q k)
theorem rds_1 {d : D} {vs : List V} (h : RDs G F ι [d] vs) : ∃ v, vs = [v] ∧ RD G F ι d v := by
  obtain ⟨v, r, rfl, h1, h2⟩ := rds_cons.mp h
  rw [rds_nil] at h2
  subst h2
  exact ⟨v, rfl, h1⟩
theorem rds_2 {d e : D} {vs : List V} (h : RDs G F ι [d, e] vs) : ∃ v u, vs = [v, u] ∧ RD G F ι d v ∧ RD G F ι e u := by
  obtain ⟨v, r, rfl, h1, h2⟩ := rds_cons.mp h
  obtain ⟨u, rfl, h3⟩ := rds_1 h2
  exact ⟨v, u, rfl, h1, h3⟩
theorem call_lenA {X : Cx} : CallR X (.builtin "len") (fun xs H Q => (∃ x n, xs = [x] ∧ LenV X.K x H n ∧ Q (.int n) H) ∨ ∃ a kvs, xs = [V.ref a] ∧ H a = some (.dK kvs) ∧ Q (.int kvs.length) H) := call_len.or call_lenD
def fLen : List D → Sto → Option VV := fun xs S => match xs with
  | [.str z] => if szOk z.length then some (.d (.int (z.length : Nat))) else none
  | [x] => (seqD x S).map fun ds => .d (.int (ds.length : Nat))
  | _ => none
theorem snd_len : SndRL G (fun xs H Q => (∃ x n, xs = [x] ∧ LenV G.K x H n ∧ Q (.int n) H) ∨ ∃ a kvs, xs = [V.ref a] ∧ H a = some (.dK kvs) ∧ Q (.int kvs.length) H) fLen := by
  intro F ι S H xs vs w r rs e Q k
  unfold fLen at e
  split at e
  · rename_i z
    split at e
    · rename_i hz
      cases e
      obtain ⟨v, rfl, h1⟩ := rds_1 rs
      simp only [RD] at h1
      subst h1
      exact .inl ⟨_, _, rfl, ⟨szOk_le hz, rfl⟩, k F H _ r .refl (by simp only [RV, RD])⟩
    · cases e
  · obtain ⟨ds, e1, e⟩ := Option.map_eq_some_iff.mp e
    cases e
    obtain ⟨v, rfl, h1⟩ := rds_1 rs
    obtain ⟨a, us, rfl, h2, h3⟩ := seq_get r h1 e1
    refine .inl ⟨_, ds.length, rfl, ?_, k F H _ r .refl (by simp only [RV, RD])⟩
    rcases h2 with h2 | h2
    · exact .inl ⟨us, h2, h3.len⟩
    · exact .inr ⟨us, h2, h3.len⟩
  · cases e
def oLen (i : Nat) : EM := fun ρ S => match ρ[i]? with
  | some (some (.own (.lst ds))) => some (.d (.int (ds.length : Nat)), S)
  | _ => none
theorem snd_oLen {i : Nat} : SndV G (tCB (fun xs H Q => (∃ x n, xs = [x] ∧ LenV G.K x H n ∧ Q (.int n) H) ∨ ∃ a kvs, xs = [V.ref a] ∧ H a = some (.dK kvs) ∧ Q (.int kvs.length) H) (tCons (tVar i) tNil)) (oLen i) := by
  intro F ι S ρ σ H w S' s e Q k
  unfold oLen at e
  split at e
  · rename_i ds hi
    cases e
    obtain ⟨a, vs, h1, h2, h3⟩ := s.ownL hi
    exact ⟨.ref a, h1, .inl ⟨_, ds.length, rfl, .inl ⟨vs, SqL.of h2, h3.len⟩, k F ι H _ s .refl (by simp only [RV, RD])⟩⟩
  · cases e
def intsD : List D → Option (List Int)
  | [] => some []
  | .int i :: r => (intsD r).map fun ns => i :: ns
  | _ => none
theorem intsD_eq : ∀ {ds : List D} {ns : List Int}, intsD ds = some ns → ds = ns.map .int
  | [], ns, e => by cases e; rfl
  | d :: r, ns, e => by
    cases d with
    | int i =>
      obtain ⟨ms, e1, rfl⟩ := Option.map_eq_some_iff.mp (show (intsD r).map (fun ns => i :: ns) = some ns from e)
      rw [intsD_eq e1]
      rfl
    | _ => cases e
theorem intsD_map : ∀ ns : List Int, intsD (ns.map .int) = some ns
  | [] => rfl
  | n :: ns => by
    show (intsD (ns.map .int)).map (fun ms => n :: ms) = _
    rw [intsD_map ns]
    rfl
def blsD : List D → Option (List Bool)
  | [] => some []
  | .bl i :: r => (blsD r).map fun ns => i :: ns
  | _ => none
theorem blsD_eq : ∀ {ds : List D} {ns : List Bool}, blsD ds = some ns → ds = ns.map .bl
  | [], ns, e => by cases e; rfl
  | d :: r, ns, e => by
    cases d with
    | bl i =>
      obtain ⟨ms, e1, rfl⟩ := Option.map_eq_some_iff.mp (show (blsD r).map (fun ns => i :: ns) = some ns from e)
      rw [blsD_eq e1]
      rfl
    | _ => cases e
def maxI : Int → List Int → Int
  | m, [] => m
  | m, n :: r => maxI (if n > m then n else m) r
def minI : Int → List Int → Int
  | m, [] => m
  | m, n :: r => minI (if n < m then n else m) r
theorem maxI_spec : ∀ (ns : List Int) (m : Int), (maxI m ns = m ∨ maxI m ns ∈ ns) ∧ m ≤ maxI m ns ∧ ∀ y ∈ ns, y ≤ maxI m ns
  | [], m => ⟨.inl rfl, Int.le_refl _, fun y h => by simp at h⟩
  | n :: r, m => by
    obtain ⟨h1, h2, h3⟩ := maxI_spec r (if n > m then n else m)
    show (maxI (if n > m then n else m) r = m ∨ maxI (if n > m then n else m) r ∈ n :: r) ∧ m ≤ maxI (if n > m then n else m) r ∧ ∀ y ∈ n :: r, y ≤ maxI (if n > m then n else m) r
    generalize maxI (if n > m then n else m) r = X at h1 h2 h3 ⊢
    have hc : (if n > m then n else m) = n ∧ n > m ∨ (if n > m then n else m) = m ∧ ¬ n > m := by
      by_cases c : n > m
      · exact .inl ⟨if_pos c, c⟩
      · exact .inr ⟨if_neg c, c⟩
    refine ⟨?_, by omega, fun y hy => ?_⟩
    · rcases h1 with h | h
      · rcases hc with ⟨c, _⟩ | ⟨c, _⟩
        · rw [h, c]; exact .inr List.mem_cons_self
        · rw [h, c]; exact .inl rfl
      · exact .inr (List.mem_cons_of_mem _ h)
    · rcases List.mem_cons.mp hy with z | hy
      · omega
      · exact h3 y hy
theorem minI_spec : ∀ (ns : List Int) (m : Int), (minI m ns = m ∨ minI m ns ∈ ns) ∧ minI m ns ≤ m ∧ ∀ y ∈ ns, minI m ns ≤ y
  | [], m => ⟨.inl rfl, Int.le_refl _, fun y h => by simp at h⟩
  | n :: r, m => by
    obtain ⟨h1, h2, h3⟩ := minI_spec r (if n < m then n else m)
    show (minI (if n < m then n else m) r = m ∨ minI (if n < m then n else m) r ∈ n :: r) ∧ minI (if n < m then n else m) r ≤ m ∧ ∀ y ∈ n :: r, minI (if n < m then n else m) r ≤ y
    generalize minI (if n < m then n else m) r = X at h1 h2 h3 ⊢
    have hc : (if n < m then n else m) = n ∧ n < m ∨ (if n < m then n else m) = m ∧ ¬ n < m := by
      by_cases c : n < m
      · exact .inl ⟨if_pos c, c⟩
      · exact .inr ⟨if_neg c, c⟩
    refine ⟨?_, by omega, fun y hy => ?_⟩
    · rcases h1 with h | h
      · rcases hc with ⟨c, _⟩ | ⟨c, _⟩
        · rw [h, c]; exact .inr List.mem_cons_self
        · rw [h, c]; exact .inl rfl
      · exact .inr (List.mem_cons_of_mem _ h)
    · rcases List.mem_cons.mp hy with z | hy
      · omega
      · exact h3 y hy
theorem call_maxA {X : Cx} (hc : X.calm = true) : CallR X (.builtin "max") (fun xs H Q => (∃ i j, xs = [.int i, .int j] ∧ Q (.int (if j > i then j else i)) H) ∨ rMax X.K xs H Q) := (call_max2 hc).or (cr_max hc)
theorem call_minA {X : Cx} (hc : X.calm = true) : CallR X (.builtin "min") (fun xs H Q => (∃ i j, xs = [.int i, .int j] ∧ Q (.int (if j < i then j else i)) H) ∨ rMin X.K xs H Q) := (call_min2 hc).or (cr_min hc)
def fMax : List D → Sto → Option VV := fun xs S => match xs with
  | [.int i, .int j] => some (.d (.int (if j > i then j else i)))
  | [x] => (lstD x S).bind fun ds => (intsD ds).bind fun ns => match ns with
    | [] => none
    | n :: r => some (.d (.int (maxI n r)))
  | _ => none
def fMin : List D → Sto → Option VV := fun xs S => match xs with
  | [.int i, .int j] => some (.d (.int (if j < i then j else i)))
  | [x] => (lstD x S).bind fun ds => (intsD ds).bind fun ns => match ns with
    | [] => none
    | n :: r => some (.d (.int (minI n r)))
  | _ => none
theorem snd_max : SndRL G (fun xs H Q => (∃ i j, xs = [.int i, .int j] ∧ Q (.int (if j > i then j else i)) H) ∨ rMax G.K xs H Q) fMax := by
  intro F ι S H xs vs w r rs e Q k
  unfold fMax at e
  split at e
  · rename_i i j
    cases e
    obtain ⟨v, u, rfl, h1, h2⟩ := rds_2 rs
    simp only [RD] at h1 h2
    subst h1 h2
    exact .inl ⟨i, j, rfl, k F H _ r .refl (by simp only [RV, RD])⟩
  · obtain ⟨ds, e1, e⟩ := Option.bind_eq_some_iff.mp e
    obtain ⟨ns, e2, e⟩ := Option.bind_eq_some_iff.mp e
    obtain ⟨v, rfl, h1⟩ := rds_1 rs
    obtain ⟨a, us, rfl, h2, h3⟩ := lst_get r h1 e1
    rw [intsD_eq e2, rds_ints] at h3
    subst h3
    match ns, e with
    | n :: ms, e =>
      cases e
      refine .inr ⟨a, n :: ms, rfl, SqL.of h2, by simp, fun m hm hle => ?_⟩
      obtain ⟨g1, g2, g3⟩ := maxI_spec ms n
      have em : m = maxI n ms := by
        have hx : maxI n ms ∈ n :: ms := by
          rcases g1 with g | g
          · rw [g]; exact List.mem_cons_self
          · exact List.mem_cons_of_mem _ g
        have l1 := hle _ hx
        have l2 : m ≤ maxI n ms := by
          rcases List.mem_cons.mp hm with z | z
          · rw [z]; exact g2
          · exact g3 m z
        omega
      rw [em]
      exact k F H _ r .refl (by simp only [RV, RD])
  · cases e
theorem snd_min : SndRL G (fun xs H Q => (∃ i j, xs = [.int i, .int j] ∧ Q (.int (if j < i then j else i)) H) ∨ rMin G.K xs H Q) fMin := by
  intro F ι S H xs vs w r rs e Q k
  unfold fMin at e
  split at e
  · rename_i i j
    cases e
    obtain ⟨v, u, rfl, h1, h2⟩ := rds_2 rs
    simp only [RD] at h1 h2
    subst h1 h2
    exact .inl ⟨i, j, rfl, k F H _ r .refl (by simp only [RV, RD])⟩
  · obtain ⟨ds, e1, e⟩ := Option.bind_eq_some_iff.mp e
    obtain ⟨ns, e2, e⟩ := Option.bind_eq_some_iff.mp e
    obtain ⟨v, rfl, h1⟩ := rds_1 rs
    obtain ⟨a, us, rfl, h2, h3⟩ := lst_get r h1 e1
    rw [intsD_eq e2, rds_ints] at h3
    subst h3
    match ns, e with
    | n :: ms, e =>
      cases e
      refine .inr ⟨a, n :: ms, rfl, SqL.of h2, by simp, fun m hm hle => ?_⟩
      obtain ⟨g1, g2, g3⟩ := minI_spec ms n
      have em : m = minI n ms := by
        have hx : minI n ms ∈ n :: ms := by
          rcases g1 with g | g
          · rw [g]; exact List.mem_cons_self
          · exact List.mem_cons_of_mem _ g
        have l1 := hle _ hx
        have l2 : minI n ms ≤ m := by
          rcases List.mem_cons.mp hm with z | z
          · rw [z]; exact g2
          · exact g3 m z
        omega
      rw [em]
      exact k F H _ r .refl (by simp only [RV, RD])
  · cases e
def fAll : List D → Sto → Option VV := fun xs S => match xs with
  | [x] => (lstD x S).bind fun ds => (blsD ds).map fun bs => .d (.bl (bs.all id))
  | _ => none
def fAny : List D → Sto → Option VV := fun xs S => match xs with
  | [x] => (lstD x S).bind fun ds => (blsD ds).map fun bs => .d (.bl (bs.any id))
  | _ => none
theorem snd_all : SndRL G (rAll G.K) fAll := by
  intro F ι S H xs vs w r rs e Q k
  unfold fAll at e
  split at e
  · obtain ⟨ds, e1, e⟩ := Option.bind_eq_some_iff.mp e
    obtain ⟨ns, e2, e⟩ := Option.map_eq_some_iff.mp e
    cases e
    obtain ⟨v, rfl, h1⟩ := rds_1 rs
    obtain ⟨a, us, rfl, h2, h3⟩ := lst_get r h1 e1
    rw [blsD_eq e2, rds_bls] at h3
    subst h3
    exact ⟨a, ns, rfl, SqL.of h2, k F H _ r .refl (by simp only [RV, RD])⟩
  · cases e
theorem snd_any : SndRL G (rAny G.K) fAny := by
  intro F ι S H xs vs w r rs e Q k
  unfold fAny at e
  split at e
  · obtain ⟨ds, e1, e⟩ := Option.bind_eq_some_iff.mp e
    obtain ⟨ns, e2, e⟩ := Option.map_eq_some_iff.mp e
    cases e
    obtain ⟨v, rfl, h1⟩ := rds_1 rs
    obtain ⟨a, us, rfl, h2, h3⟩ := lst_get r h1 e1
    rw [blsD_eq e2, rds_bls] at h3
    subst h3
    exact ⟨a, ns, rfl, SqL.of h2, k F H _ r .refl (by simp only [RV, RD])⟩
  · cases e
def fSum : List D → Sto → Option VV := fun xs S => match xs with
  | [x] => (lstD x S).bind fun ds => (intsD ds).map fun ns => .d (.int ns.sum)
  | _ => none
theorem snd_sum : SndRL G (rSum G.K) fSum := by
  intro F ι S H xs vs w r rs e Q k
  unfold fSum at e
  split at e
  · obtain ⟨ds, e1, e⟩ := Option.bind_eq_some_iff.mp e
    obtain ⟨ns, e2, e⟩ := Option.map_eq_some_iff.mp e
    cases e
    obtain ⟨v, rfl, h1⟩ := rds_1 rs
    obtain ⟨a, us, rfl, h2, h3⟩ := lst_get r h1 e1
    rw [intsD_eq e2, rds_ints] at h3
    subst h3
    exact ⟨a, ns, rfl, SqL.of h2, k F H _ r .refl (by simp only [RV, RD])⟩
  · cases e
/-- sorted of ints -/
def insI (x : Int) : List Int → List Int
  | [] => [x]
  | y :: r => if x ≤ y then x :: y :: r else y :: insI x r
def sortI : List Int → List Int
  | [] => []
  | x :: r => insI x (sortI r)
theorem insI_perm (x : Int) : ∀ l : List Int, (insI x l).Perm (x :: l)
  | [] => .refl _
  | y :: r => by
    unfold insI
    split
    · exact .refl _
    · exact ((insI_perm x r).cons y).trans (.swap x y r)
theorem sortI_perm : ∀ l : List Int, (sortI l).Perm l
  | [] => .refl _
  | x :: r => (insI_perm x _).trans ((sortI_perm r).cons x)
theorem insI_sorted (x : Int) : ∀ {l : List Int}, l.Pairwise (· ≤ ·) → (insI x l).Pairwise (· ≤ ·)
  | [], _ => List.pairwise_singleton _ _
  | y :: r, h => by
    unfold insI
    obtain ⟨h1, h2⟩ := List.pairwise_cons.mp h
    split
    · rename_i hxy
      refine List.pairwise_cons.mpr ⟨fun z hz => ?_, h⟩
      rcases List.mem_cons.mp hz with rfl | hz
      · exact hxy
      · exact Int.le_trans hxy (h1 z hz)
    · rename_i hxy
      refine List.pairwise_cons.mpr ⟨fun z hz => ?_, insI_sorted x h2⟩
      rcases List.mem_cons.mp ((insI_perm x r).mem_iff.mp hz) with rfl | hz
      · omega
      · exact h1 z hz
theorem sortI_sorted : ∀ l : List Int, (sortI l).Pairwise (· ≤ ·)
  | [] => .nil
  | x :: r => insI_sorted x (sortI_sorted r)
theorem perm_sorted_eq : ∀ {l m : List Int}, l.Perm m → l.Pairwise (· ≤ ·) → m.Pairwise (· ≤ ·) → l = m
  | [], m, p, _, _ => (List.Perm.nil_eq p)
  | x :: l, [], p, _, _ => by have := p.length_eq; simp at this
  | x :: l, y :: m, p, h1, h2 => by
    obtain ⟨a1, a2⟩ := List.pairwise_cons.mp h1
    obtain ⟨b1, b2⟩ := List.pairwise_cons.mp h2
    have e : x = y := by
      have hx : x ∈ y :: m := p.mem_iff.mp List.mem_cons_self
      have hy : y ∈ x :: l := p.mem_iff.mpr List.mem_cons_self
      have l1 : y ≤ x := by
        rcases List.mem_cons.mp hx with z | z
        · omega
        · exact b1 x z
      have l2 : x ≤ y := by
        rcases List.mem_cons.mp hy with z | z
        · omega
        · exact a1 y z
      omega
    subst e
    rw [perm_sorted_eq (List.Perm.cons_inv p) a2 b2]
def fSortI : List D → Sto → Option VV := fun xs S => match xs with
  | [x] => (lstD x S).bind fun ds => (intsD ds).map fun ns => .own (.lst ((sortI ns).map .int))
  | _ => none
theorem snd_sortI : SndRL G (rSortedI G.K) fSortI := by
  intro F ι S H xs vs w r rs e Q k
  unfold fSortI at e
  split at e
  · obtain ⟨ds, e1, e⟩ := Option.bind_eq_some_iff.mp e
    obtain ⟨ns, e2, e⟩ := Option.map_eq_some_iff.mp e
    cases e
    obtain ⟨v, rfl, h1⟩ := rds_1 rs
    obtain ⟨a, us, rfl, h2, h3⟩ := lst_get r h1 e1
    rw [intsD_eq e2, rds_ints] at h3
    subst h3
    refine ⟨a, ns, rfl, SqL.of h2, fun ns' p hp hs hn => ?_⟩
    have en : ns' = sortI ns := perm_sorted_eq (hp.trans (sortI_perm ns).symm) hs (sortI_sorted ns)
    subst en
    obtain ⟨r2, p2⟩ := r.newO (o := .lst ((sortI ns).map V.int)) hn
    exact k F _ _ r2 p2 ⟨p, _, rfl, upd_same, ⟨_, rfl, rds_ints.mpr rfl⟩, r.noF hn, r.noI hn, .inr hn⟩
  · cases e
def fList : List D → Sto → Option VV := fun xs S => match xs with
  | [x] => (seqD x S).map fun ds => .own (.lst ds)
  | _ => none
theorem snd_list : SndRL G (fun xs H Q => ∃ p ys, xs = [.ref p] ∧ (SqL G.K H p ys ∨ SqT G.K H p ys) ∧ ∀ l, H l = none → Q (.ref l) (upd H l (.lst ys))) fList := by
  intro F ι S H xs vs w r rs e Q k
  unfold fList at e
  split at e
  · obtain ⟨ds, e1, e⟩ := Option.map_eq_some_iff.mp e
    cases e
    obtain ⟨v, rfl, h1⟩ := rds_1 rs
    obtain ⟨a, us, rfl, h2, h3⟩ := seq_get r h1 e1
    refine ⟨a, us, rfl, h2, fun l hl => ?_⟩
    obtain ⟨r2, p2⟩ := r.newO (o := .lst us) hl
    exact k F _ _ r2 p2 ⟨l, _, rfl, upd_same, ⟨_, rfl, h3⟩, r.noF hl, r.noI hl, .inr hl⟩
  · cases e
def fTuple : List D → Sto → Option VV := fun xs S => match xs with
  | [.tup ds] => some (.d (.tup ds))
  | [x] => (lstD x S).map fun ds => .d (.tup ds)
  | _ => none
theorem snd_tuple : SndRL G (fun xs H Q => ∃ p ys, xs = [.ref p] ∧ ((SqL G.K H p ys ∧ ∀ l, H l = none → Q (.ref l) (upd H l (.tup ys))) ∨ (SqT G.K H p ys ∧ Q (.ref p) H))) fTuple := by
  intro F ι S H xs vs w r rs e Q k
  unfold fTuple at e
  split at e
  · rename_i ds
    cases e
    obtain ⟨v, rfl, h1⟩ := rds_1 rs
    obtain ⟨a, us, rfl, h2, h3⟩ := tup_get r h1
    exact ⟨a, us, rfl, .inr ⟨h2, k F H _ r .refl h1⟩⟩
  · obtain ⟨ds, e1, e⟩ := Option.map_eq_some_iff.mp e
    cases e
    obtain ⟨v, rfl, h1⟩ := rds_1 rs
    obtain ⟨a, us, rfl, h2, h3⟩ := lst_get r h1 e1
    refine ⟨a, us, rfl, .inl ⟨SqL.of h2, fun l hl => ?_⟩⟩
    obtain ⟨r2, p2⟩ := r.newF (o := .tup us) hl
    refine k _ _ _ r2 p2 ?_
    simp only [RV, RD]
    exact ⟨l, _, rfl, SqT.of upd_same, fun _ => upd_same, h3.mono p2.exF p2.pre⟩
  · cases e
/-- int(..), str(..) -/
theorem call_intA {X : Cx} : CallR X (.type "int") (fun xs H Q => ((∃ i, xs = [.int i] ∧ Q (.int i) H) ∨ ∃ k, xs = [.bl k] ∧ Q (.int (if k then 1 else 0)) H) ∨ ∃ a n, xs = [.str a] ∧ PySem.intText? a = some n ∧ a.length ≤ 640 ∧ Q (.int n) H) := call_int1.or call_int_str
def fInt : List D → Sto → Option VV := fun xs _ => match xs with
  | [.int i] => some (.d (.int i))
  | [.bl b] => some (.d (.int (if b then 1 else 0)))
  | [.str a] => if a.length ≤ 640 then (PySem.intText? a).map fun n => .d (.int n) else none
  | _ => none
theorem snd_fint : SndRL G (fun xs H Q => ((∃ i, xs = [.int i] ∧ Q (.int i) H) ∨ ∃ k, xs = [.bl k] ∧ Q (.int (if k then 1 else 0)) H) ∨ ∃ a n, xs = [.str a] ∧ PySem.intText? a = some n ∧ a.length ≤ 640 ∧ Q (.int n) H) fInt := by
  intro F ι S H xs vs w r rs e Q k
  unfold fInt at e
  split at e
  · rename_i i
    cases e
    obtain ⟨v, rfl, h1⟩ := rds_1 rs
    simp only [RD] at h1
    subst h1
    exact .inl (.inl ⟨i, rfl, k F H _ r .refl (by simp only [RV, RD])⟩)
  · rename_i b
    cases e
    obtain ⟨v, rfl, h1⟩ := rds_1 rs
    simp only [RD] at h1
    subst h1
    exact .inl (.inr ⟨b, rfl, k F H _ r .refl (by simp only [RV, RD])⟩)
  · rename_i a
    split at e
    · rename_i hz
      obtain ⟨n, e1, e⟩ := Option.map_eq_some_iff.mp e
      cases e
      obtain ⟨v, rfl, h1⟩ := rds_1 rs
      simp only [RD] at h1
      subst h1
      exact .inr ⟨a, n, rfl, e1, hz, k F H _ r .refl (by simp only [RV, RD])⟩
    · cases e
  · cases e
def fStr : List D → Sto → Option VV := fun xs _ => match xs with
  | [.int i] => if i.natAbs < 2 ^ 100 then some (.d (.str (Str.ofString (toString i)))) else none
  | _ => none
theorem snd_fstr : SndRL G (fun xs H Q => ∃ i, xs = [.int i] ∧ i.natAbs.log2 < 1920 ∧ Q (.str (toString i)) H) fStr := by
  intro F ι S H xs vs w r rs e Q k
  unfold fStr at e
  split at e
  · rename_i i
    split at e
    · rename_i hz
      cases e
      obtain ⟨v, rfl, h1⟩ := rds_1 rs
      simp only [RD] at h1
      subst h1
      have : i.natAbs.log2 < 100 := PySem.Flt.log2_lt_of (by decide) hz
      exact ⟨i, rfl, by omega, k F H _ r .refl (by simp only [RV, RD])⟩
    · cases e
  · cases e
/-- divmod by a small positive divisor -/
def fDvm : List D → Sto → Option VV := fun xs _ => match xs with
  | [.int i, .int j] => if 0 < j ∧ j < 1073741824 then some (.d (.tup [.int (i / j), .int (i % j)])) else none
  | _ => none
theorem snd_dvm : SndRL G (fun xs H Q => ∃ i j, xs = [.int i, .int j] ∧ CDiv i j ∧ ∀ p, H p = none → Q (.ref p) (upd H p (.tup [.int (i / j), .int (i % j)]))) fDvm := by
  intro F ι S H xs vs w r rs e Q k
  unfold fDvm at e
  split at e
  · rename_i i j
    split at e
    · rename_i hz
      cases e
      obtain ⟨v, u, rfl, h1, h2⟩ := rds_2 rs
      simp only [RD] at h1 h2
      subst h1 h2
      refine ⟨i, j, rfl, hz, fun p hp => ?_⟩
      obtain ⟨r2, p2⟩ := r.newF (o := .tup [.int (i / j), .int (i % j)]) hp
      refine k _ _ _ r2 p2 ?_
      simp only [RV, RD]
      exact ⟨p, _, rfl, SqT.of upd_same, fun _ => upd_same, rds_cons.mpr ⟨_, _, rfl, by simp only [RD], RDs.one (by simp only [RD])⟩⟩
    · cases e
  · cases e
/-- isinstance -/
def tyD (x : D) (S : Sto) : Option String := match x with
  | .non => some "NoneType"
  | .bl _ => some "bool"
  | .int _ => some "int"
  | .str _ => some "str"
  | .tup _ => some "tuple"
  | .fl _ => some "list"
  | .ref n => match S[n]? with
    | some (.lst _) => some "list"
    | some (.dk _) => some "dict"
    | some (.dt _) => some "dict"
    | _ => none
  | _ => none
theorem tyD_of {x : D} {v : V} {T : String} (r : Rep G F ι S H) (h : RD G F ι x v) (e : tyD x S = some T) : TyX G.K H v (.type T) := by
  cases x with
  | non => cases e; simp only [RD] at h; subst h; exact .base .non
  | bl b => cases e; simp only [RD] at h; subst h; exact .base (.bl b)
  | int b => cases e; simp only [RD] at h; subst h; exact .base (.int b)
  | str b => cases e; simp only [RD] at h; subst h; exact .base (.str b)
  | tup ds =>
    cases e
    obtain ⟨a, vs, rfl, h1, _, _⟩ := tup_get r h
    rcases h1 with (h1 | ⟨o, h1⟩) | ⟨o, its, n, h1, h2, _⟩
    · exact .base (.tup h1)
    · exact .fTuple h1
    · exact .kTuple h1 h2
  | fl ds =>
    cases e
    obtain ⟨a, vs, rfl, h1, _⟩ := lst_get (x := .fl ds) r h rfl
    exact .base (.lst h1)
  | ref n =>
    simp only [RD] at h
    obtain ⟨b, rfl, hb⟩ := h
    simp only [tyD] at e
    split at e
    · rename_i ds hn
      cases e
      obtain ⟨a, o, h1, h2, vs, rfl, h3⟩ := r.cell n _ hn
      rw [hb] at h1; cases h1
      exact .base (.lst h2)
    · rename_i ds hn
      cases e
      obtain ⟨a, o, h1, h2, vs, rfl, h3⟩ := r.cell n _ hn
      rw [hb] at h1; cases h1
      exact .base (.dK h2)
    · rename_i ds hn
      cases e
      obtain ⟨a, o, h1, h2, vs, rfl, h3⟩ := r.cell n _ hn
      rw [hb] at h1; cases h1
      exact .base (.dT h2)
    · cases e
  | _ => cases e
def fIsi : List D → Sto → Option VV := fun xs S => match xs with
  | [x, .ty U] => (tyD x S).bind fun T => (kitB T U).map fun b => .d (.bl b)
  | _ => none
theorem snd_isi : SndRL G (rIsi G.K) fIsi := by
  intro F ι S H xs vs w r rs e Q k
  unfold fIsi at e
  split at e
  · rename_i x U
    obtain ⟨T, e1, e⟩ := Option.bind_eq_some_iff.mp e
    obtain ⟨b, e2, e⟩ := Option.map_eq_some_iff.mp e
    cases e
    obtain ⟨v, u, rfl, h1, h2⟩ := rds_2 rs
    have h2' : u = .ty U := by simpa only [RD] using h2
    subst h2'
    exact ⟨v, .ty U, _, _, b, rfl, .ty U, tyD_of r h1 e1, kit_ty e2, k F H _ r .refl (by simp only [RV, RD])⟩
  · cases e
end
end Yi
/-! A def's promise of its meaning; the law's end; methods called by keywords. -/
namespace Yi
open PySem PySem.Spec L2
open PyProof.Rows (envOfC)
section
variable {P : Program} {w : World} {K : PySem.W.Frag} {mg : Str → Option Value} {base : Heap} {G : Gm}
/-- a def keeps the promise that its meaning is -/
theorem fn_I {x qual : Str} {st : Stmt} {f : Addr} {fd : FuncData} {N ps : List Str} {k : Nat} {m : SM} (F : Fun K x qual st f fd) (S : FnScope N ps (defScope st))
    (hb : ∀ (cdv : Value) (A : Around) (outer : List Env) (s : Shared) (H : Hp) (E : XK), Room k (A.deeper (envOfC qual (defScope st) s.heap.objs.size f cdv)) →
      ∃ t, PSs (cxOf CX0 P w K mg base N qual (defScope st) f cdv A outer s H E).nox (defBody st) t ∧ SndS G t m) :
    FnOk P w K mg base CX0 (k + 1) f fd ps (spI G ps.length (den N.length ps.length m)) := by
  refine F.ok S (fun vs H Q E h => h.1) fun cdv A outer s H vs Q E hr h => ?_
  obtain ⟨t, h1, h2⟩ := hb cdv A outer s H E hr
  exact ⟨t, h1, body_I h2 h⟩
/-- the law: its meaning at every script is True -/
def spLaw (K : PySem.W.Frag) : Sp := fun vs H Q _ => ∃ (a : Addr) (ns : List Int), vs = [.ref a] ∧ SqL K H a (ns.map V.int) ∧ ns.length ≤ 63 ∧ ∀ H', Q (.bl true) H'
theorem start_rep {H : Hp} : Rep G H [] [] H := ⟨fun _ _ h => h, fun n c h => by simp at h, rfl, List.nodup_nil, fun a h => by simp at h⟩
theorem law_I {x qual : Str} {st : Stmt} {f : Addr} {fd : FuncData} {N : List Str} {z : Str} {k : Nat} {m : SM} (hG : G.K = K) (F : Fun K x qual st f fd) (S : FnScope N [z] (defScope st))
    (hb : ∀ (cdv : Value) (A : Around) (outer : List Env) (s : Shared) (H : Hp) (E : XK), Room k (A.deeper (envOfC qual (defScope st) s.heap.objs.size f cdv)) →
      ∃ t, PSs (cxOf CX0 P w K mg base N qual (defScope st) f cdv A outer s H E).nox (defBody st) t ∧ SndS G t m)
    (pl : ∀ ns : List Int, ns.length ≤ 63 → ∃ S', den N.length 1 m [.lk ns] [] = some (.d (.bl true), S')) :
    FnOk P w K mg base CX0 (k + 1) f fd [z] (spLaw K) := by
  refine F.ok S (fun vs H Q E ⟨a, ns, e, _⟩ => by rw [e]; rfl) fun cdv A outer s H vs Q E hr h => ?_
  obtain ⟨t, h1, h2⟩ := hb cdv A outer s H E hr
  obtain ⟨a, ns, rfl, hs, hl, q⟩ := h
  obtain ⟨S', e⟩ := pl ns hl
  refine ⟨t, h1, body_I (np := 1) (E := E) h2 ⟨rfl, H, [], [], [.lk ns], _, S', start_rep, ?_, e, fun F' ι' H' v r p rv => ?_⟩⟩
  · refine rds_cons.mpr ⟨_, _, rfl, ?_, rds_nil.mpr rfl⟩
    simp only [RD]
    exact ⟨a, rfl, by rw [hG]; exact hs⟩
  · simp only [RV, RD] at rv
    subst rv
    exact q H'
end
end Yi
set_option maxRecDepth 4000
/-! sorted(set(xs)), len(set(xs)) of a list of ints. -/
namespace Yi
open PySem PySem.Spec PyProof.Rows L2
/-- the set as it is made -/
def newS (w : World) : Obj := { cls := .type "set", dict := none, data := .set #[] 0 (.fresh 0 0 (!w.params.followText "set-order")) }
section
variable {P : Program} {w : World} {A : Around} {E : Value → Shared → Prop} {s : Shared}
/-- what a set of the list leaves -/
def SetLft (w : World) (s : Shared) (ns : List Int) (h' : Heap) (c : Nat) : Prop :=
  SetR w h' s.heap.objs.size (fun j => decide (j ∈ ns)) c ∧ c ≤ ns.length ∧ ∀ b o, s.heap.get? b = some o → h'.get? b = some o
set_option maxHeartbeats 3200000 in
theorem set_of_list {l : Addr} {xs : Array Value} (ns : List Int) {Q : Value → Shared → Prop} (hh : A.handled = none)
    (hl : s.heap.IsList l xs) (hit : IntsAre xs.toList ns) (hb : ns.length + 1 < scanBound)
    (h : ∀ (h' : Heap) (tk c : Nat), SetLft w s ns h' c → Q (.ref s.heap.objs.size) { s with heap := h', toks := tk }) :
    wpAny (model P w) A (call (.type "set") [.ref l]) Q E s := by
  have len : xs.size = ns.length := by
    have q := hit.length
    rwa [Array.length_toList] at q
  obtain ⟨mc, mt, mro⟩ := F.called_set.mro
  have made := F.called_set.made
  have sub := F.called_set.sub
  refine wpAny_call (codeAny_of_tree ?_)
  show wpAny _ _ (callAny (.type "set") _) _ _ _
  refine wpAny_pure ⟨Code.quiet_builtin _ (by decide +kernel),
    codeAny_builtin F.entry_type_call ?_⟩
  rw [Around.under_plain
    (weight_type_call_type "set" [.ref l] []) rfl]
  have a1 := F.called_set.notType
  have a2 := F.called_set.canCreate
  have a3 := F.typeCall_set_1 (.ref l)
  repeat (any_goals (first | assumption | wp_step))
  refine codeAny_mono (code_set_led1 (.ref l) (E := E)
    (Q₁ := fun ob z => ob = .ref s.heap.objs.size ∧ z = { s with heap := s.heap.push (newS w) }) ⟨rfl, rfl⟩) fun rr z hz => ?_
  cases rr with
  | error e => exact hz
  | ok f1 =>
  cases f1 with
  | ret ob =>
    obtain ⟨e1, e2⟩ := hz
    subst e1 e2
    have gS : (s.heap.push (newS w)).get? s.heap.objs.size = some (newS w) := Heap.get?_push_size _ rfl
    have ty : Shared.TypeIs { s with heap := s.heap.push (newS w) } (.ref s.heap.objs.size) "set" := ⟨_, gS, rfl⟩
    have b1 := F.called_set.init.lookup
    have b2 := F.called_set.init.bind (.ref s.heap.objs.size)
    repeat (any_goals (first | assumption | wp_step))
    refine codeAny_mono (codeAny_call_builtin (R := wants (fun u z => u = .none ∧ ∃ h' tk c, z = { s with heap := h', toks := tk } ∧ SetLft w s ns h' c) E)
      F.called_set.init.plain F.entry_set_init (check_set_init_1 ty ?_)) fun r2 z2 hz2 => ?_
    · obtain ⟨⟨oc, od, odt, osl⟩, lo, lc, ln, ld⟩ := hl
      simp only at lc ld
      subst lc ld
      have lo' : (s.heap.push (newS w)).get? l = some { cls := .type "list", dict := od, data := .seq xs ln, slots := osl } :=
        Heap.get?_push_of_some _ lo
      have c1 := F.sub_list_set
      have c2 := F.sub_list_frozenset
      have c3 : (Value.type "list" == Value.type "dict") = false := by decide
      have il : (s.heap.push (newS w)).IsList l xs := ⟨_, lo', rfl, ln, rfl⟩
      unfold Builtin.«set.__init__» noKeywords Builtin.Frozenset.updateFrom
      generalize hPI : pyIter = PI
      wp_walk
      subst hPI
      refine wpAny_pyIter_list il ?_
      refine wpAny_bind (wpAny_runValue ?_)
      have below : l < s.heap.objs.size := Heap.lt_size lo
      have nh : A.in1.in1.in1.handled = none := by simp [hh]
      have sz : (s.heap.push (newS w)).objs.size = s.heap.objs.size + 1 := Heap.size_push ..
      have ne : l ≠ (s.heap.push (newS w)).objs.size := by rw [sz]; exact Nat.ne_of_lt (Nat.lt_succ_of_lt below)
      have out : s.heap.objs.size ∉ [(s.heap.push (newS w)).objs.size, l] := by
        rw [sz]
        simp only [List.mem_cons, List.not_mem_nil, or_false, not_or]
        exact ⟨Nat.ne_of_lt (Nat.lt_succ_self _), Nat.ne_of_gt below⟩
      have each : ∀ (i : Nat) (v : Value), xs[i]? = some v → ∃ k t, ns[i]? = some k ∧ v = .int k t := fun i v hv => by
        have hi : i < ns.length := by rw [← len]; exact (Array.getElem?_eq_some_iff.mp hv).1
        obtain ⟨t, e⟩ := hit.int_at i v (by rw [Array.getElem?_toList]; exact hv)
        refine ⟨ns[i], t, List.getElem?_eq_getElem hi, ?_⟩
        rw [e, List.getD_eq_getElem?_getD, List.getElem?_eq_getElem hi] <;> rfl
      refine set_update_ints ((Walks.list nh _ l ne xs).toS) s.heap.objs.size out ns len hb each (xs.size - 0) 0 _ (by omega) (Nat.zero_le _)
        ⟨⟨_, Heap.get?_push_size _ rfl, rfl, rfl⟩, (il.push _)⟩ ⟨0, Nat.le_refl 0, setR_new_at (Heap.get?_push_of_some _ gS)⟩ fun z' c' mv hc' hS' => ?_
      obtain ⟨h', g2, d2, tk', os2⟩ := z'
      have eg : g2 = s.gens := mv.gens
      have ed : d2 = s.drawn := mv.drawn
      have eo : os2 = s.os := mv.os
      subst eg ed eo
      show wpAny _ _ _ _ _ _
      refine wpAny_pure ?_
      show wpAny _ _ (ret Value.none) _ _ _
      refine wpAny_pure ⟨rfl, h', tk', c', rfl, hS', by rw [← len]; exact hc', fun b o e => ?_⟩
      have hb0 : b < s.heap.objs.size := Heap.lt_size e
      refine mv.heap b o ?_ (Heap.get?_push_of_some _ (Heap.get?_push_of_some _ e))
      simp only [List.mem_cons, List.not_mem_nil, or_false, not_or]
      exact ⟨Nat.ne_of_lt hb0, by rw [sz]; exact Nat.ne_of_lt (Nat.lt_succ_of_lt hb0)⟩
    · cases r2 with
      | error e => exact hz2
      | ok f2 =>
        cases f2 with
        | ret u =>
          obtain ⟨e1, h', tk, c', e2, e3⟩ := hz2
          subst e1 e2
          repeat (any_goals (first | assumption | wp_step))
          exact h _ _ _ e3
        | _ => exact hz2.elim
  | _ => exact hz.elim
end
/-! ### rising ints, each once -/
def insU (x : Int) : List Int → List Int
  | [] => [x]
  | y :: r => if x < y then x :: y :: r else if x = y then y :: r else y :: insU x r
def setI : List Int → List Int
  | [] => []
  | x :: r => insU x (setI r)
theorem insU_mem (x k : Int) : ∀ l : List Int, k ∈ insU x l ↔ k = x ∨ k ∈ l
  | [] => by simp [insU]
  | y :: r => by
    unfold insU
    split
    · simp
    · split
      · rename_i e
        subst e
        simp
      · rw [List.mem_cons, insU_mem x k r, List.mem_cons]
        constructor
        · rintro (h | h | h)
          · exact .inr (.inl h)
          · exact .inl h
          · exact .inr (.inr h)
        · rintro (h | h | h)
          · exact .inr (.inl h)
          · exact .inl h
          · exact .inr (.inr h)
theorem insU_rise (x : Int) : ∀ {l : List Int}, l.Pairwise (· < ·) → (insU x l).Pairwise (· < ·)
  | [], _ => by simp [insU]
  | y :: r, h => by
    unfold insU
    obtain ⟨h1, h2⟩ := List.pairwise_cons.mp h
    split
    · rename_i e
      refine List.pairwise_cons.mpr ⟨fun z hz => ?_, h⟩
      rcases List.mem_cons.mp hz with q | q
      · omega
      · have := h1 z q
        omega
    · split
      · exact h
      · refine List.pairwise_cons.mpr ⟨fun z hz => ?_, insU_rise x h2⟩
        rcases (insU_mem x z r).mp hz with q | q
        · omega
        · exact h1 z q
theorem setI_mem (k : Int) : ∀ l : List Int, k ∈ setI l ↔ k ∈ l
  | [] => by simp [setI]
  | x :: r => by unfold setI; rw [insU_mem, setI_mem k r, List.mem_cons]
theorem setI_rise : ∀ l : List Int, (setI l).Pairwise (· < ·)
  | [] => List.Pairwise.nil
  | x :: r => insU_rise x (setI_rise r)
theorem rise_nodup {l : List Int} (h : l.Pairwise (· < ·)) : l.Nodup := h.imp fun {a b} q e => by omega
theorem rise_eq {l m : List Int} (hl : l.Pairwise (· < ·)) (hm : m.Pairwise (· < ·)) (h : ∀ k, k ∈ l ↔ k ∈ m) : l = m :=
  perm_sorted_eq ((List.perm_ext_iff_of_nodup (rise_nodup hl) (rise_nodup hm)).mpr h) (hl.imp fun {a b} q => by omega) (hm.imp fun {a b} q => by omega)
theorem setI_len {l m : List Int} (hn : l.Nodup) (h : ∀ k, k ∈ l ↔ k ∈ m) : l.length = (setI m).length :=
  ((List.perm_ext_iff_of_nodup hn (rise_nodup (setI_rise m))).mpr fun k => by rw [setI_mem, h]).length_eq
theorem setI_self {l : List Int} (h : l.Pairwise (· < ·)) : setI l = l := rise_eq (setI_rise l) h fun k => setI_mem k l
/-! ### the rules -/
section
variable {X : Cx}
def tSortSet (K : PySem.W.Frag) (ta : TE) : TE := fun σ H Q => ta σ H fun x H1 => ∃ (l : Addr) (ns : List Int), x = V.ref l ∧ SqL K H1 l (ns.map V.int) ∧ ns.length < 64 ∧
  ∀ p, H1 p = none → Q (.ref p) (upd H1 p (.lst ((setI ns).map V.int)))
theorem pe_sortSet {a : Expr} {ta : TE} {p p2 q pos : Pos} (hc : X.calm = true) (hg : Gl X "sorted") (hm : X.mg "sorted" = none) (hg2 : Gl X "set") (hm2 : X.mg "set" = none) (ha : PE X a ta)
    (na : starEach [a] X.env = (false, eval a X.env) :: starEach [] X.env := by rfl) : PE X (.Call (.Name "sorted" p) [.Call (.Name "set" p2) [a] [] q] [] pos) (tSortSet X.K ta) := by
  refine ⟨fun pins s σ H Q I h => Call_ (ld_blt I hg hm boot_sorted ?_)⟩
  refine callWith_builtin1 (args_cons ?_ rfl) rfl rfl
  refine Call_ (ld_blt I hg2 hm2 boot_set ?_)
  refine callWith_type1 (args_cons (thn (ha.run pins s σ H _ I h) fun v s1 ⟨x, H1, I1, r1, q1⟩ => args_nil ?_) na) na rfl
  obtain ⟨l, ns, rfl, hq, few, q1⟩ := q1
  cases r1
  obtain ⟨its, r, pl, hz⟩ := I1.list hq
  refine set_of_list ns (I1.ok.hd hc) pl.isList (by simpa using r.ints) (by unfold scanBound; omega) fun h' tk c ⟨R, hc', hk⟩ => args_nil ?_
  have I2 : Inv X pins σ H1 { s1 with heap := h', toks := tk } := I1.kept hk
  have R2 : SetR X.w (Shared.heap { s1 with heap := h', toks := tk }) s1.heap.objs.size (fun j => decide (j ∈ ns)) c := R
  generalize ({ s1 with heap := h', toks := tk } : Shared) = s2 at I2 R2 ⊢
  refine sorted_set R2 (I2.ok.hd hc) (by omega) fun z p out c2 ms k g o hp hg hi hs hmm hl => ?_
  have em : ms = setI ns := rise_eq hs (setI_rise ns) fun k => by rw [hmm, setI_mem, decide_eq_true_iff]
  have hlen : (ms.map V.int).length ≤ sizeLine := by rw [List.length_map, hl, sizeLine_eq]; omega
  have hn : H1 p = none := I2.hok.fresh hp
  have J : Inv X pins σ (upd H1 p (.lst (ms.map V.int))) { s2 with heap := z.heap, gens := z.gens, drawn := z.drawn, toks := z.toks } :=
    I2.call (ch := []) (Un.laid k hp hn) (I2.hok.laid k hp ⟨hlen, out.toList, c2, vals_of_ints hi, hg⟩) (by rw [g]; exact I2.bare) (fun _ y => nomatch y)
  have e : z = { s2 with heap := z.heap, gens := z.gens, drawn := z.drawn, toks := z.toks } := by
    cases z
    cases s2
    cases o
    rfl
  rw [e]
  subst em
  exact ⟨.ref p, _, J, rfl, q1 p hn⟩
def tLenSet (K : PySem.W.Frag) (ta : TE) : TE := fun σ H Q => ta σ H fun x H1 => ∃ (l : Addr) (ns : List Int), x = V.ref l ∧ SqL K H1 l (ns.map V.int) ∧ ns.length ≤ 4000 ∧ Q (.int (setI ns).length) H1
theorem pe_lenSet {a : Expr} {ta : TE} {p p2 q pos : Pos} (hc : X.calm = true) (hg : Gl X "len") (hm : X.mg "len" = none) (hg2 : Gl X "set") (hm2 : X.mg "set" = none) (ha : PE X a ta)
    (na : starEach [a] X.env = (false, eval a X.env) :: starEach [] X.env := by rfl) : PE X (.Call (.Name "len" p) [.Call (.Name "set" p2) [a] [] q] [] pos) (tLenSet X.K ta) := by
  refine ⟨fun pins s σ H Q I h => Call_ (ld_blt I hg hm PySem.boot_len ?_)⟩
  refine callWith_builtin1 (args_cons ?_ rfl) rfl rfl
  refine Call_ (ld_blt I hg2 hm2 boot_set ?_)
  refine callWith_type1 (args_cons (thn (ha.run pins s σ H _ I h) fun v s1 ⟨x, H1, I1, r1, q1⟩ => args_nil ?_) na) na rfl
  obtain ⟨l, ns, rfl, hq, few, q1⟩ := q1
  cases r1
  obtain ⟨its, r, pl, hz⟩ := I1.list hq
  refine set_of_list ns (I1.ok.hd hc) pl.isList (by simpa using r.ints) (by unfold scanBound; omega) fun h' tk c ⟨R, hc', hk⟩ => args_nil ?_
  have I2 : Inv X pins σ H1 { s1 with heap := h', toks := tk } := I1.kept hk
  obtain ⟨o, es, ep, t, ho, hex, hd, g, nd, hmm, hb, hf, hn, _, _⟩ := R
  have el : es.size = (setI ns).length := by
    have := setI_len nd (m := ns) fun k => by rw [← hmm, decide_eq_true_iff]
    simpa using this
  exact call_len_set ho hex hd hf (by rw [hn]; omega) ⟨.int (setI ns).length, H1, I2.tok _, ⟨_, by rw [el]⟩, q1⟩
end
section
variable {G : Gm} {te : TE} {me : EM}
def fSet (lim : Nat) (m : EM) : Slt → Sto → Option (List Int × Sto) := fun ρ S => (eD m ρ S).bind fun p => (lstD p.1 p.2).bind fun ds => (intsD ds).bind fun ns => if ns.length ≤ lim then some (setI ns, p.2) else none
def eSortSet (m : EM) : EM := fun ρ S => (fSet 63 m ρ S).map fun p => (.own (.lst (p.1.map .int)), p.2)
def eLenSet (m : EM) : EM := fun ρ S => (fSet 4000 m ρ S).map fun p => (.d (.int p.1.length), p.2)
variable {F F' H H' : Hp} {ι ι' : List Addr} {S S' : Sto} {ρ ρ' : Slt} {σ σ' : L2.St}
theorem snd_sortSet (he : SndV G te me) : SndV G (tSortSet G.K te) (eSortSet me) := by
  intro F ι S ρ σ H w S' s e Q k
  unfold eSortSet fSet at e
  obtain ⟨⟨ms, S2⟩, e, e0⟩ := Option.map_eq_some_iff.mp e
  obtain ⟨⟨x, S1⟩, e1, e⟩ := Option.bind_eq_some_iff.mp e
  obtain ⟨ds, e2, e⟩ := Option.bind_eq_some_iff.mp e
  obtain ⟨ns, e3, e⟩ := Option.bind_eq_some_iff.mp e
  dsimp only at e
  split at e
  · rename_i few
    cases e
    cases e0
    refine snd_d he s e1 _ fun F1 ι1 H1 vx s1 p1 rx => ?_
    obtain ⟨a, vs, rfl, h1, h3⟩ := lst_get s1.rep rx e2
    rw [intsD_eq e3, rds_ints] at h3
    subst h3
    refine ⟨a, ns, rfl, SqL.of h1, by omega, fun t ht => ?_⟩
    obtain ⟨r2, p4⟩ := s1.rep.newO (o := .lst ((setI ns).map V.int)) ht
    exact k _ ι1 _ _ (s1.after r2 p4).1 (p1.trans p4) ⟨t, _, rfl, upd_same, ⟨_, rfl, rds_ints.mpr rfl⟩, s1.rep.noF ht, s1.rep.noI ht, .inr (p1.back t ht)⟩
  · cases e
theorem snd_lenSet (he : SndV G te me) : SndV G (tLenSet G.K te) (eLenSet me) := by
  intro F ι S ρ σ H w S' s e Q k
  unfold eLenSet fSet at e
  obtain ⟨⟨ms, S2⟩, e, e0⟩ := Option.map_eq_some_iff.mp e
  obtain ⟨⟨x, S1⟩, e1, e⟩ := Option.bind_eq_some_iff.mp e
  obtain ⟨ds, e2, e⟩ := Option.bind_eq_some_iff.mp e
  obtain ⟨ns, e3, e⟩ := Option.bind_eq_some_iff.mp e
  dsimp only at e
  split at e
  · rename_i few
    cases e
    cases e0
    refine snd_d he s e1 _ fun F1 ι1 H1 vx s1 p1 rx => ?_
    obtain ⟨a, vs, rfl, h1, h3⟩ := lst_get s1.rep rx e2
    rw [intsD_eq e3, rds_ints] at h3
    subst h3
    exact ⟨a, ns, rfl, SqL.of h1, few, k _ ι1 _ _ s1 p1 (by simp only [RV, RD])⟩
  · cases e
end
end Yi
/-! enumerate(t), t a tuple; either. -/
namespace Yi
open PySem PySem.Spec PyProof.Rows L2
set_option maxHeartbeats 1000000 in
theorem newEnumT (l : Addr) (xs : Array Value) :
    Meets (Builtin.«enumerate.__new__» ⟨[.type "enumerate", .ref l], []⟩) (fun _ R s => s.heap.IsTuple l xs ∧ R (.ok (.ret (.ref (s.heap.push { cls := .type "tuple_iterator", data := .fields #[.ref l, .int 0 0] }).objs.size)))
      { s with heap := (s.heap.push { cls := .type "tuple_iterator", data := .fields #[.ref l, .int 0 0] }).push { cls := .type "enumerate", data := .fields #[.none, .bool false, .ref s.heap.objs.size, rawInt 0, .none, .none] } }) :=
  .of_wp fun P w A R s ⟨hl, q⟩ => by
    obtain ⟨hp, gs, dr, tk, os⟩ := s
    have sub := sub_enumerate
    obtain ⟨⟨c, dct, dt, sl⟩, ho, hc, n, hd⟩ := id hl
    simp only at hc hd
    subst hc hd
    have go : ∀ {A' : Around} {E : Value → Shared → Prop} {Q : Value → Shared → Prop}, Q (.ref hp.objs.size) ⟨hp.push { cls := .type "tuple_iterator", data := .fields #[.ref l, .int 0 0] }, gs, dr, tk, os⟩ →
        wpAny (model P w) A' (pyIter (.ref l)) Q E ⟨hp, gs, dr, tk, os⟩ := fun q => wpAny_pyIter_tuple hl q
    wp_walk using go
    refine wpAny_stack_any fun st => wpAny_pure ?_
    split
    · rename_i c _ _ _ _ _
      cases (c == Value.type "enumerate") <;> (wp_walk using go; exact ⟨_, rfl, q⟩)
    · wp_walk using go
      exact ⟨_, rfl, q⟩
section
variable {P : Program} {w : World} {A : Around} {E : Value → Shared → Prop} {s : Shared}
theorem call_enumT {l : Addr} {xs : Array Value} {Q : Value → Shared → Prop} (hl : s.heap.IsTuple l xs)
    (h : ∀ h', IsEnum h' (s.heap.objs.size + 1) s.heap.objs.size 0 .none → h'.IsTupleIter s.heap.objs.size l 0 → (∀ b o, s.heap.get? b = some o → h'.get? b = some o) → Q (.ref (s.heap.objs.size + 1)) { s with heap := h' }) :
    wpAny (model P w) A (call (.type "enumerate") [.ref l]) Q E s := by
  refine callType_new F.called_enumerate (by decide) (F.typeCall_enumerate_1 _) (F.newCall_enumerate_1 _)
    (fun ob => F.args_object_init_2 ob _) F.entry_enumerate_new (newEnumT l xs) ⟨hl, ?_⟩
  have hz : (s.heap.push { cls := .type "tuple_iterator", data := .fields #[.ref l, .int 0 0] }).objs.size = s.heap.objs.size + 1 := Heap.size_push ..
  show _ ∧ _
  rw [hz]
  have he : IsEnum ((s.heap.push { cls := .type "tuple_iterator", data := .fields #[.ref l, .int 0 0] }).push { cls := .type "enumerate", data := .fields #[.none, .bool false, .ref s.heap.objs.size, rawInt 0, .none, .none] })
      (s.heap.objs.size + 1) s.heap.objs.size 0 .none := by
    have q := Heap.get?_push_size (s.heap.push { cls := .type "tuple_iterator", data := .fields #[.ref l, .int 0 0] }) (o := { cls := .type "enumerate", data := .fields #[.none, .bool false, .ref s.heap.objs.size, rawInt 0, .none, .none] }) rfl
    rwa [hz] at q
  exact ⟨⟨_, he, rfl⟩, h _ he ⟨_, Heap.get?_push_of_some _ (Heap.get?_push_size _ rfl), rfl, rfl⟩ fun b o x => Heap.get?_push_of_some _ (Heap.get?_push_of_some _ x)⟩
end
/-- the tuple at a, each item in a new pair -/
def IteT (K : PySem.W.Frag) (a : Addr) : It :=
  ⟨fun i H => ∃ (xs : List V) (x : V), SqT K H a xs ∧ xs[i]? = some x, fun i H v H' => ∃ T x, v = .ref T ∧ H T = none ∧ H' = upd H T (.tup [.int (i : Nat), x]) ∧ ∀ xs, SqT K H a xs → xs[i]? = some x, fun i H => ∃ xs : List V, SqT K H a xs ∧ xs.length ≤ i⟩
theorem enum_ne {h : Heap} {e it a : Addr} {i : Int} {old : Value} {xs : Array Value} (he : IsEnum h e it i old) (ht : h.IsTuple a xs) : e ≠ a := fun z => by
  obtain ⟨o, ho, hc, n, hd⟩ := ht
  have q : h.get? e = some _ := he
  rw [z, ho] at q
  cases q
  cases hd
theorem enumT_end {P : Program} {w : World} {A : Around} {E : Value → Shared → Prop} {s : Shared} {e it l : Addr} {i : Nat} {xs : Array Value} {old : Value} {Q : Option Value → Shared → Prop} (hh : A.in1.handled = none)
    (he : IsEnum s.heap e it i old) (hit : s.heap.IsTupleIter it l i) (hl : s.heap.IsTuple l xs) (hx : xs[i]? = none) (hQ : ∀ h', Heap.ExtBut it s.heap h' → Q none { s with heap := h' }) : wpAny (model P w) A (pyNext (.ref e)) Q E s := by
  have hT : s.TypeIs (.ref e) "enumerate" := ⟨_, he, rfl⟩
  unfold pyNext
  refine wpAny_bind (wpAny_attempt (wpAny_callSpecial?_slot (name := Str.ofString "__next__") hT F.slot_enumerate_next
    (wpAny_call_entry F.slot_enumerate_next hT F.entry_enumerate_next ?_ (F.args_enumerate_next_1 _))))
  show wpAny _ _ (field (.ref e) 2 >>= _) _ _ _
  refine wpAny_bind (wpAny_field he rfl (x := .ref it) rfl ?_)
  refine wpAny_bind (wpAny_nextOf_tuple_end hh hit hl hx fun h' x he' hx' => ?_)
  obtain ⟨o, ho, hc⟩ := hx'
  refine wpAny_bind (wpAny_isInstance (T := "StopIteration") (b := true) ⟨o, ho, hc⟩ isSubtype_stop ?_)
  exact wpAny_pure (hQ _ he')
theorem turn_enumT {P : Program} {w : World} {K : PySem.W.Frag} {elts : List Expr} {kk : Nat} {tpos : Pos} (a e it : Addr) :
    Turn P w K (.Tuple elts kk tpos) (IteT K a) [e, it] e (fun i h => (∃ old, IsEnum h e it ((i : Nat) : Int) old) ∧ h.IsTupleIter it a i ∧ e ≠ it) where
  mem := by simp
  obj := fun i h st b hb => by
    obtain ⟨⟨old, he⟩, ⟨o, ho, hc, hd⟩, _⟩ := st
    have eb : b = e ∨ b = it := by simpa using hb
    rcases eb with z | z
    · rw [z]
      exact ⟨_, he, fun v q => nomatch q⟩
    · exact ⟨o, by rw [z]; exact ho, fun v q => by rw [hd] at q; cases q⟩
  keep := fun i h h' ⟨⟨old, he⟩, hi, ne⟩ k => ⟨⟨old, k e (by simp) _ he⟩, hi.at fun o q => k it (by simp) o q, ne⟩
  item := by
    intro X hP hw hK hc i pins s σ H E I hf st hg
    subst hP hw hK
    obtain ⟨⟨old, he⟩, hit, ne⟩ := st
    obtain ⟨xs, x, hq, hx⟩ := hg
    obtain ⟨its, rv, p, hz⟩ := I.tuple hq
    obtain ⟨u, hu, ru⟩ := rv.get hx
    have pt : s.heap.IsTuple a its.toArray := p
    have be : e < s.heap.objs.size := Heap.lt_size he
    have bi : it < s.heap.objs.size := by obtain ⟨_, q, _⟩ := hit; exact Heap.lt_size q
    have bl : i < its.toArray.size := by rw [List.size_toArray]; exact (List.getElem?_eq_some_iff.mp hu).1
    have ia : a ≠ it := fun z => by
      obtain ⟨o, ho, oc, on, od⟩ := pt
      obtain ⟨o2, ho2, oc2, od2⟩ := hit
      rw [z, ho2] at ho
      cases ho
      rw [od2] at od
      cases od
    have hh : X.A.in1.handled = none := I.ok.hd hc
    refine wpAny_pyNext_enum_itemD (Draws.tuple hh it a ia its.toArray) he ⟨hit, pt⟩ bl ne (by simp [ne, enum_ne he pt]) fun y h' tk hy ho hst hT hsz hk => ?_
    have ey : y = u := by
      have q : its[i]? = some y := by simpa using hy
      rw [hu] at q
      exact (Option.some.inj q).symm
    subst ey
    refine ⟨_, rfl, wpAny_letOwnedTupleGo_enum (s := { s with heap := h', toks := tk + 1 }) ho fun h2 he2 sb => ?_⟩
    have hT2 : h2.get? s.heap.objs.size = some { cls := .type "tuple", data := .seq #[.int i tk, y] } := (sb.2 _ (Nat.ne_of_gt be)).trans hT
    have new : ObjOk X.prog X.w (upd H s.heap.objs.size (.tup [.int (i : Nat), x])) h2 s.heap.objs.size (.tup [.int (i : Nat), x]) :=
      ⟨by show 2 ≤ sizeLine; decide, [.int i tk, y], .cons ⟨_, rfl⟩ (.cons ru .nil), ⟨_, hT2, rfl, _, rfl⟩⟩
    have I1 : Inv X pins σ (upd H s.heap.objs.size (.tup [.int (i : Nat), x])) { s with heap := h2, toks := tk + 1 } :=
      I.turnedNew (ch := [e, it]) (fun b ob hb q => (sb.2 b (fun z => hb (by simp [z]))).trans (hk b ob (fun z => hb (by simp [z])) (fun z => hb (by simp [z])) q)) hf (Nat.le_refl _) new
    refine ⟨.ref s.heap.objs.size, _, I1, rfl, ⟨_, x, rfl, I.hok.fresh (Nat.le_refl _), rfl, fun ys hy => by rw [I.tuple_inj hy hq]; exact hx⟩, ⟨⟨y, ?_⟩, hst.1.at fun o q => (sb.2 it (Ne.symm ne)).trans q, ne⟩, fun b hb => ?_⟩
    · have e1 : ((i + 1 : Nat) : Int) = (i : Int) + 1 := by omega
      rw [e1]
      exact he2
    · have hb' : b < s.heap.objs.size := by
        have eb : b = e ∨ b = it := by simpa using hb
        rcases eb with z | z <;> (rw [z]; assumption)
      rw [upd_ne (Nat.ne_of_lt hb')]
      exact (hf b hb).1
  done := by
    intro X hP hw hK hc i pins s σ H E I hf st hg
    subst hP hw hK
    obtain ⟨⟨old, he⟩, hit, ne⟩ := st
    obtain ⟨xs, hq, hx⟩ := hg
    obtain ⟨its, rv, p, hz⟩ := I.tuple hq
    have pt : s.heap.IsTuple a its.toArray := p
    obtain ⟨f0, f1, f2, f3, f4, f5⟩ := hf it (by simp)
    have hl := rv.length
    have hh : X.A.in1.handled = none := I.ok.hd hc
    refine enumT_end hh he hit pt (by simp; omega) fun h' eb => ⟨rfl, I.turned (t' := s.toks) (fun b o hb q => eb b o hb q) f0 f1 f3 f4 f5⟩
  self := fun A i s Q E ⟨⟨_, he⟩, _⟩ h => wpAny_pyIter_enum he h
def iEnumS (K : PySem.W.Frag) (ta : TA) : TI := fun σ H R => ta σ H fun vs H1 => ∃ a, vs = [.ref a] ∧ (((∃ xs, SqL K H1 a xs) ∧ R (Ite K a) H1) ∨ ((∃ xs, SqT K H1 a xs) ∧ R (IteT K a) H1))
theorem pi_enumS {X : Cx} {e : Expr} {ta : TA} {p pos tpos : Pos} {elts : List Expr} {kk : Nat} (hg : Gl X "enumerate") (hm : X.mg "enumerate" = none) (ha : PA X [e] ta) (hs : starEach [e] X.env = [(false, eval e X.env)] := by rfl) :
    PI X (.Tuple elts kk tpos) (.Call (.Name "enumerate" p) [e] [] pos) (iEnumS X.K ta) := by
  refine ⟨fun pins s σ H R I h => ?_⟩
  refine Call_ (ld_blt I hg hm boot_enumerate (callWith_type1 (thn (ha.run pos pins s σ H _ I h) fun us s1 ⟨vs, H1, I1, r1, q1⟩ => ?_) hs rfl))
  obtain ⟨a, ex, q⟩ := q1
  subst ex
  have place : ∀ b, b ∈ [s1.heap.objs.size + 1, s1.heap.objs.size] → s1.heap.objs.size ≤ b := fun b hb => by
    have eb : b = s1.heap.objs.size + 1 ∨ b = s1.heap.objs.size := by simpa using hb
    rcases eb with z | z
    · rw [z]; exact Nat.le_add_right _ _
    · rw [z]; exact Nat.le_refl _
  cases r1 with
  | cons r rr =>
    cases rr
    cases r
    rcases q with ⟨⟨xs, hq⟩, q⟩ | ⟨⟨xs, hq⟩, q⟩
    · obtain ⟨its, rv, p', hz⟩ := I1.list hq
      refine call_enumerate_list p'.isList fun h' he hit hsz hk => wpAny_pyIter_enum he ?_
      have I2 : Inv X pins σ H1 { s1 with heap := h' } := I1.kept (t' := s1.toks) hk
      exact ⟨s1.heap.objs.size + 1, [s1.heap.objs.size + 1, s1.heap.objs.size], _, _, H1, rfl, I2, turn_enum a (s1.heap.objs.size + 1) s1.heap.objs.size, ⟨⟨.none, he⟩, hit, Nat.succ_ne_self _⟩,
        fun b hb => I1.fpOk (place b hb) (I1.hok.fresh (place b hb)), q⟩
    · obtain ⟨its, rv, p', hz⟩ := I1.tuple hq
      refine call_enumT (show s1.heap.IsTuple a its.toArray from p') fun h' he hit hk => wpAny_pyIter_enum he ?_
      have I2 : Inv X pins σ H1 { s1 with heap := h' } := I1.kept (t' := s1.toks) hk
      exact ⟨s1.heap.objs.size + 1, [s1.heap.objs.size + 1, s1.heap.objs.size], _, _, H1, rfl, I2, turn_enumT a (s1.heap.objs.size + 1) s1.heap.objs.size, ⟨⟨.none, he⟩, hit, Nat.succ_ne_self _⟩,
        fun b hb => I1.fpOk (place b hb) (I1.hok.fresh (place b hb)), q⟩
section
variable {G : Gm} {F F' H H' : Hp} {ι ι' : List Addr} {S S' : Sto} {ρ ρ' : Slt} {σ σ' : L2.St}
theorem iteT_ok {a : Addr} {vs : List V} {ds : List D} (h : SqT G.K F a vs) (rd : RDs G F ι ds vs) : ItL G F ι H (IteT G.K a) (enumL 0 ds) := by
  intro F1 ι1 S1 H1 e p fz r i
  have h1 : SqT G.K H1 a vs := sqt_ex r.ex (sqt_ex e h)
  have rd1 := rd.mono e p
  refine ⟨fun d hd => ?_, fun hl => ?_⟩
  · rw [enumL_get] at hd
    obtain ⟨d', hd', rfl⟩ := Option.map_eq_some_iff.mp hd
    obtain ⟨v, hv, rv⟩ := rd1.get hd'
    refine ⟨⟨vs, v, h1, hv⟩, ?_⟩
    rintro x H2 ⟨T, y, rfl, hT, rfl, hy⟩
    have ey : v = y := Option.some.inj (hv.symm.trans (hy vs h1))
    subst ey
    obtain ⟨r2, p2⟩ := r.newF (o := .tup [.int (i : Nat), v]) hT
    refine ⟨_, r2, p2, ?_⟩
    simp only [RD]
    refine ⟨T, [.int (i : Nat), v], rfl, SqT.of upd_same, fun _ => upd_same, rds_cons.mpr ⟨_, _, rfl, ?_, rds_cons.mpr ⟨_, _, rfl, rv.mono p2.exF p2.pre, rds_nil.mpr rfl⟩⟩⟩
    simp only [RD, Nat.zero_add]
  · rw [enumL_len] at hl
    exact ⟨vs, h1, by rw [← rd.len]; exact hl⟩
def iEnS (a : AM) : AM := fun ρ S => (a ρ S).bind fun p => match p.1 with
  | [x] => (stD x).map fun ds => (enumL 0 ds, p.2)
  | _ => none
theorem snd_ienS {t : TA} {m : AM} (h : SndA G t m) : SndI G (iEnumS G.K t) (iEnS m) := by
  intro F ι S ρ σ H ds S' s e R k
  unfold iEnS at e
  obtain ⟨⟨xs, S1⟩, e1, e⟩ := Option.bind_eq_some_iff.mp e
  dsimp only at e
  split at e
  · obtain ⟨es, e2, e⟩ := Option.map_eq_some_iff.mp e
    cases e
    refine h s e1 _ fun F1 ι1 H1 vs s1 p1 rs => ?_
    obtain ⟨v, rfl, rd⟩ := rds_1 rs
    obtain ⟨a, us, rfl, h1, h2⟩ := st_get rd e2
    refine ⟨a, rfl, ?_⟩
    rcases h1 with h1 | h1
    · exact .inl ⟨⟨us, sql_ex s1.rep.ex h1⟩, k F1 ι1 H1 _ s1 p1 (ite_ok h1 h2)⟩
    · exact .inr ⟨⟨us, sqt_ex s1.rep.ex h1⟩, k F1 ι1 H1 _ s1 p1 (iteT_ok h1 h2)⟩
  · cases e
end
end Yi
/-! Further rules: defs held by parameters, signs of a text, join, split, fields added to. -/
namespace Yi
open PySem L2
section
variable {X : Cx} {k i : Nat} {x : Str} {p pos : Pos} {e : Expr} {es : List Expr} {t : TA}
/-- the slot holds one of several defs, told by its number -/
def tCallF (G : Gm) (i : Nat) (SP : Nat → Option Sp) (t : TA) : TE := fun σ H Q => ∃ n sp, σ[i]? = some (some (.ref (G.fn n))) ∧ SP n = some sp ∧ t σ H fun vs H1 => sp vs H1 Q (fun _ _ _ => False)
theorem pe_callF {G : Gm} {SP : Nat → Option Sp} (A : ∀ n sp, SP n = some sp → Held X.prog X.w X.K X.mg X.base k (G.fn n) sp) (hr : Room k X.A) (hN : X.N[i]? = some x) (hv : Vis X.env.scope x) (ha : PA X (e :: es) t)
    (hdb : (x == ("__debug__" : Str)) = false := by decide) (hcd : (x == ("__classdict__" : Str)) = false := by decide)
    (he : starEach (e :: es) X.env = (false, eval e X.env) :: starEach es X.env := by rfl) (hpl : (backTo pos (starEach es X.env)).any (·.1) = false := by rfl) : PE X (.Call (.Name x p) (e :: es) [] pos) (tCallF G i SP t) := by
  refine ⟨fun pins s σ H Q I ⟨n, sp, hs, hS, ht⟩ => ?_⟩
  obtain ⟨fd, ps, F, hk, hb⟩ := (A n sp hS).ex
  refine (pe_callL (i := i) (f := G.fn n) (sp := sp) (dvs := []) (E := fun _ _ _ => False) F hr hN hv hk hb .nil (fun _ _ _ _ _ _ _ z => z.elim) ha hdb hcd he hpl).run pins s σ H Q I ⟨hs, ?_⟩
  have e0 : (fun (vs : List V) (H1 : Hp) => sp (vs ++ []) H1 Q (fun _ _ _ => False)) = fun vs H1 => sp vs H1 Q (fun _ _ _ => False) := by
    funext vs H1
    rw [List.append_nil]
  exact e0 ▸ ht
end
section
variable {G : Gm} {F F' H H' : Hp} {ι ι' : List Addr} {S S' : Sto} {ρ ρ' : Slt} {σ σ' : St} {ta tb tc te : TE} {ma mb mc me : EM}
def eCallF (i : Nat) (fns : Nat → Option Den) (a : AM) : EM := fun ρ S => match ρ[i]? with
  | some (some (.d (.fn n))) => (fns n).bind fun f => (a ρ S).bind fun p => f p.1 p.2
  | _ => none
theorem snd_callF {i np : Nat} {fns : Nat → Option Den} {t : TA} {m : AM} (hn : ∀ {n : Nat} {f : Den}, fns n = some f → ∀ ds S w S', f ds S = some (w, S') → ds.length = np) (h : SndA G t m) :
    SndV G (tCallF G i (fun n => (fns n).map fun f => spI G np f) t) (eCallF i fns m) := by
  intro F ι S ρ σ H w S' s e Q k
  unfold eCallF at e
  split at e
  · rename_i n hi
    obtain ⟨f, e1, e⟩ := Option.bind_eq_some_iff.mp e
    obtain ⟨⟨ds, S1⟩, e2, e⟩ := Option.bind_eq_some_iff.mp e
    obtain ⟨v, h1, h2⟩ := s.sl.val i _ hi
    simp only [RD] at h2
    subst h2
    refine ⟨n, spI G np f, h1, by show Option.map _ (fns n) = _; rw [e1]; rfl, ?_⟩
    refine h s e2 _ fun F1 ι1 H1 vs s1 p1 rs => ?_
    exact ⟨by rw [← rs.len]; exact hn e1 _ _ _ _ e, F1, ι1, S1, _, w, S', s1.rep, rs, e, fun F' ι' H' v r' p' rv => k F' ι' H' v (s1.after r' p').1 (p1.trans p') (rv.back p1.back)⟩
  · cases e
theorem nod : ∀ (F : Hp) (ι : List Addr), RDs G F ι [] [] := fun _ _ => rds_nil.mpr rfl
/-- a def at no depth promises nothing -/
theorem fn_0 {P : Program} {w : World} {K : PySem.W.Frag} {mg : Str → Option Value} {base : Heap} {x qual : Str} {st : Stmt} {f : Addr} {fd : FuncData} {N ps : List Str} {k : Nat} (F : Fun K x qual st f fd) (S : FnScope N ps (defScope st)) :
    FnOk P w K mg base CX0 (k + 1) f fd ps (spI G ps.length fun _ _ => none) :=
  F.ok S (fun vs H Q E h => h.1) fun cdv A outer s H vs Q E hr h => by
    obtain ⟨_, _, _, _, _, _, _, _, _, e, _⟩ := h
    cases e
/-- the cell that e tells -/
def nAt (m : EM) : Slt → Sto → Option Nat := fun ρ S => (eD m ρ S).bind fun p => match p.1 with
  | .ref n => some n
  | _ => none
/-! ### a text, sign by sign -/
def sgnL (x : Str) : List D := x.cps.toList.map fun c => .str ⟨#[c]⟩
def iSt (m : EM) : AM := fun ρ S => (eD m ρ S).bind fun p => match p.1 with
  | .str x => some (sgnL x, p.2)
  | _ => none
theorem snd_istr (h : SndV G te me) : SndI G (iStr te) (iSt me) := by
  intro F ι S ρ σ H ds S' s e R k
  unfold iSt at e
  obtain ⟨⟨d, S1⟩, e1, e⟩ := Option.bind_eq_some_iff.mp e
  dsimp only at e
  split at e
  · rename_i x
    cases e
    refine snd_d h s e1 _ fun F1 ι1 H1 v s1 p1 r => ?_
    simp only [RD] at r
    refine ⟨x, r, k F1 ι1 H1 _ s1 p1 fun {F2 ι2 S2 H2} e p fz r2 i => ⟨fun d hd => ?_, fun hl => ?_⟩⟩
    · unfold sgnL at hd
      rw [List.getElem?_map] at hd
      obtain ⟨c, hc, rfl⟩ := Option.map_eq_some_iff.mp hd
      rw [Array.getElem?_toList] at hc
      refine ⟨(Array.getElem?_eq_some_iff.mp hc).1, ?_⟩
      rintro y H3 ⟨rfl, c', hc', rfl⟩
      rw [hc] at hc'
      cases hc'
      exact ⟨F2, r2, .refl, by simp only [RD]⟩
    · unfold sgnL at hl
      show x.cps.size ≤ i
      simpa using hl
  · cases e
/-! ### join, split -/
def strsD : List D → Option (List Str)
  | [] => some []
  | .str x :: r => (strsD r).map fun ys => x :: ys
  | _ :: _ => none
theorem strsD_eq : ∀ {ds : List D} {ys : List Str}, strsD ds = some ys → ds = ys.map .str
  | [], ys, h => by cases h; rfl
  | .str x :: r, ys, h => by
    obtain ⟨zs, h1, h2⟩ := Option.map_eq_some_iff.mp (show (strsD r).map (fun ys => x :: ys) = some ys from h)
    subst h2
    rw [strsD_eq h1]
    rfl
  | .non :: _, _, h => by cases h
  | .bl _ :: _, _, h => by cases h
  | .int _ :: _, _, h => by cases h
  | .tup _ :: _, _, h => by cases h
  | .fl _ :: _, _, h => by cases h
  | .lk _ :: _, _, h => by cases h
  | .ref _ :: _, _, h => by cases h
  | .fn _ :: _, _, h => by cases h
  | .ty _ :: _, _, h => by cases h
theorem strsD_map : ∀ ys : List Str, strsD (ys.map .str) = some ys
  | [] => rfl
  | y :: r => by
    show (strsD (r.map .str)).map _ = _
    rw [strsD_map r]
    rfl
def mJoin : D → List D → Sto → Option (VV × Sto) := fun x xs S => match x, xs with
  | .str a, [y] => (seqD y S).bind fun ds => (strsD ds).bind fun ys => if (ys.map (·.length)).sum + ys.length * a.length ≤ 16000000 then some (.d (.str (Txt.join a ys)), S) else none
  | _, _ => none
theorem snd_mJoin : SndM G (fun x xs H Q => ∃ a p, ∃ ys : List Str, x = V.str a ∧ xs = [V.ref p] ∧ (SqL G.K H p (ys.map V.str) ∨ SqT G.K H p (ys.map V.str)) ∧ (ys.map (·.length)).sum + ys.length * a.length ≤ 16777216 ∧ Q (.str (Txt.join a ys)) H) mJoin := by
  intro F ι S H x xs vx vs w S' r rx rs e Q k
  unfold mJoin at e
  split at e
  · rename_i a y
    obtain ⟨ds, e1, e⟩ := Option.bind_eq_some_iff.mp e
    obtain ⟨ys, e2, e⟩ := Option.bind_eq_some_iff.mp e
    split at e
    · rename_i hz
      cases e
      obtain ⟨v, rfl, h1⟩ := rds_1 rs
      obtain ⟨p, us, rfl, h2, h3⟩ := seq_get r h1 e1
      rw [strsD_eq e2, rds_strs] at h3
      subst h3
      simp only [RD] at rx
      exact ⟨a, p, ys, rx, rfl, h2, by omega, k F H _ r .refl (by simp only [RV, RD])⟩
    · cases e
  · cases e
def mSplit : D → List D → Sto → Option (VV × Sto) := fun x xs S => match x, xs with
  | .str a, [.str b] => if (b.length == 0) = false ∧ szOk (a.length + 2) = true then some (.own (.lst ((Txt.split a b).map .str)), S) else none
  | _, _ => none
theorem snd_mSplit : SndM G (fun x xs H Q => ∃ a b, x = V.str a ∧ xs = [V.str b] ∧ (b.length == 0) = false ∧ a.length + 2 ≤ sizeLine ∧ rNewStrs (Txt.split a b) H Q) mSplit := by
  intro F ι S H x xs vx vs w S' r rx rs e Q k
  unfold mSplit at e
  split at e
  · rename_i a b
    split at e
    · rename_i hz
      cases e
      obtain ⟨v, rfl, h1⟩ := rds_1 rs
      simp only [RD] at rx h1
      subst h1
      refine ⟨a, b, rx, rfl, hz.1, szOk_le hz.2, fun p hp => ?_⟩
      obtain ⟨r2, p2⟩ := r.newO (o := .lst ((Txt.split a b).map V.str)) hp
      exact k F _ _ r2 p2 ⟨p, _, rfl, upd_same, ⟨_, rfl, rds_strs.mpr rfl⟩, r.noF hp, r.noI hp, .inr hp⟩
    · cases e
  · cases e
/-! ### o.f += n -/
def fAddI : D → D → Sto → Option VV := intR fun i j => some (.int (i + j))
theorem snd_addI : SndR2 G rAdd fAddI := by
  intro F ι S H x y vx vy w r rx ry e Q k
  unfold fAddI intR at e
  split at e
  · cases e
    simp only [RD] at rx ry
    exact ⟨_, _, rx, ry, k F H _ r .refl (by simp only [RV, RD])⟩
  · cases e
/-! ### a, *b = a list -/
def sStar (i j : Nat) (m : EM) : SM := fun ρ S => (eD m ρ S).bind fun p => (lstD p.1 p.2).bind fun ds => match ds with
  | [] => none
  | d :: r => some (.nx, (ρ.set i (some (.d d))).set j (some (.d (.fl r))), p.2)
end
end Yi
/-! The rules that speak of X.K, told by K (for comprehensions, whose readings may not hang on the block). -/
namespace Yi
open PySem L2
section
variable {X : Cx} (K : PySem.W.Frag)
theorem ix_seqK (h : X.K = K := by rfl) : IxR X (rIx K) := h ▸ ix_seq
theorem sl_anyK (h : X.K = K := by rfl) : SlR X (rSlAny K) := h ▸ sl_any
theorem op_addK (h : X.K = K := by rfl) : OpR X (binaryOp .Add) (rAddA K) := h ▸ op_addA
theorem op_eqK (hu : X.A.units + 64 < cLine) (h : X.K = K := by rfl) : OpR X (compareOp .Eq) (rEqD K) := h ▸ op_eqD hu
theorem op_neK (hu : X.A.units + 64 < cLine) (h : X.K = K := by rfl) : OpR X (compareOp .NotEq) (rNeD K) := h ▸ op_neD hu
theorem op_inK (h : X.K = K := by rfl) : OpR X (compareOp .In) (rIn K false) := h ▸ op_in_seq
theorem op_notInK (h : X.K = K := by rfl) : OpR X (compareOp .NotIn) (rIn K true) := h ▸ op_notIn_seq
theorem pe_revK {e : Expr} {te : TE} {k : Nat} {p1 p2 p3 pos : Pos} (he : PE X e te) (h : X.K = K := by rfl) : PE X (.Subscript e (.Slice none none (some (.UnaryOp .USub (.Constant (.int 1) k p1) p2)) p3) pos) (tRevL K te) := h ▸ pe_revL he
theorem call_maxK (hc : X.calm = true) (h : X.K = K := by rfl) : CallR X (.builtin "max") (fun xs H Q => (∃ i j, xs = [.int i, .int j] ∧ Q (.int (if j > i then j else i)) H) ∨ rMax K xs H Q) := h ▸ call_maxA hc
theorem call_minK (hc : X.calm = true) (h : X.K = K := by rfl) : CallR X (.builtin "min") (fun xs H Q => (∃ i j, xs = [.int i, .int j] ∧ Q (.int (if j < i then j else i)) H) ∨ rMin K xs H Q) := h ▸ call_minA hc
theorem call_allK (hc : X.calm = true) (h : X.K = K := by rfl) : CallR X (.builtin "all") (rAll K) := h ▸ cr_all hc
theorem call_anyK (hc : X.calm = true) (h : X.K = K := by rfl) : CallR X (.builtin "any") (rAny K) := h ▸ cr_any hc
theorem call_sumK (hc : X.calm = true) (h : X.K = K := by rfl) : CallR X (.builtin "sum") (rSum K) := h ▸ cr_sum hc
theorem call_sortedK (h : X.K = K := by rfl) : CallR X (.builtin "sorted") (rSortedI K) := h ▸ cr_sortedI
theorem call_listK (h : X.K = K := by rfl) : CallR X (.type "list") (fun xs H Q => ∃ p ys, xs = [.ref p] ∧ (SqL K H p ys ∨ SqT K H p ys) ∧ ∀ l, H l = none → Q (.ref l) (upd H l (.lst ys))) := h ▸ call_list_of
theorem call_tupleK (h : X.K = K := by rfl) : CallR X (.type "tuple") (fun xs H Q => ∃ p ys, xs = [.ref p] ∧ ((SqL K H p ys ∧ ∀ l, H l = none → Q (.ref l) (upd H l (.tup ys))) ∨ (SqT K H p ys ∧ Q (.ref p) H))) := h ▸ call_tuple_of
theorem call_isiK (h : X.K = K := by rfl) : CallR X (.builtin "isinstance") (rIsi K) := h ▸ call_isi
theorem call_lenK (h : X.K = K := by rfl) : CallR X (.builtin "len") (fun xs H Q => (∃ x n, xs = [x] ∧ LenV K x H n ∧ Q (.int n) H) ∨ ∃ a kvs, xs = [V.ref a] ∧ H a = some (.dK kvs) ∧ Q (.int kvs.length) H) := h ▸ call_lenA
theorem mt_indexK (h : X.K = K := by rfl) : MtR X "list.index" (rIndex K) := h ▸ mt_index
theorem pi_seqK {tg l : Expr} {tl : TE} (hl : PE X l tl) (h : X.K = K := by rfl) : PI X tg l (iSeq K tl) := h ▸ pi_seq hl
theorem pi_enumK {e : Expr} {ta : TA} {p pos tpos : Pos} {elts : List Expr} {kk : Nat} (hg : Gl X "enumerate") (hm : X.mg "enumerate" = none) (ha : PA X [e] ta) (hs : starEach [e] X.env = [(false, eval e X.env)] := by rfl) (h : X.K = K := by rfl) :
    PI X (.Tuple elts kk tpos) (.Call (.Name "enumerate" p) [e] [] pos) (iEnum K ta) := h ▸ pi_enum hg hm ha hs
theorem pi_enumSK {e : Expr} {ta : TA} {p pos tpos : Pos} {elts : List Expr} {kk : Nat} (hg : Gl X "enumerate") (hm : X.mg "enumerate" = none) (ha : PA X [e] ta) (hs : starEach [e] X.env = [(false, eval e X.env)] := by rfl) (h : X.K = K := by rfl) :
    PI X (.Tuple elts kk tpos) (.Call (.Name "enumerate" p) [e] [] pos) (iEnumS K ta) := h ▸ pi_enumS hg hm ha hs
theorem pe_sortSetK {a : Expr} {ta : TE} {p p2 q pos : Pos} (hc : X.calm = true) (hg : Gl X "sorted") (hm : X.mg "sorted" = none) (hg2 : Gl X "set") (hm2 : X.mg "set" = none) (ha : PE X a ta)
    (na : starEach [a] X.env = (false, eval a X.env) :: starEach [] X.env := by rfl) (h : X.K = K := by rfl) : PE X (.Call (.Name "sorted" p) [.Call (.Name "set" p2) [a] [] q] [] pos) (tSortSet K ta) := h ▸ pe_sortSet hc hg hm hg2 hm2 ha na
theorem pe_lenSetK {a : Expr} {ta : TE} {p p2 q pos : Pos} (hc : X.calm = true) (hg : Gl X "len") (hm : X.mg "len" = none) (hg2 : Gl X "set") (hm2 : X.mg "set" = none) (ha : PE X a ta)
    (na : starEach [a] X.env = (false, eval a X.env) :: starEach [] X.env := by rfl) (h : X.K = K := by rfl) : PE X (.Call (.Name "len" p) [.Call (.Name "set" p2) [a] [] q] [] pos) (tLenSet K ta) := h ▸ pe_lenSet hc hg hm hg2 hm2 ha na
theorem pe_fldK {e : Expr} {ta : TE} {f : Str} {pos : Pos} (he : PE X e ta) (hb : attributeBase e f X.env (eval e X.env) = eval e X.env) (h : X.K = K := by rfl) : PE X (.Attribute e f pos) (tFld K ta f) := h ▸ pe_fld he hb
theorem pg_tupK {es : List Expr} {k : Nat} {pos : Pos} {t : TGs} {n : Nat} (hc : X.calm = true) (h0 : PGs X es t) (hn : (assignEach es X.env).length = n := by rfl) (hst : (assignEach es X.env).findIdx? (·.1) = none := by rfl) (h : X.K = K := by rfl) :
    PG X (.Tuple es k pos) (gTup K n t) := h ▸ pg_tup hc h0 hn hst
theorem pe_joinK {o e : Expr} {to te : TE} {apos pos : Pos} (ho : PE X o to) (he : PE X e te) (hs : starEach [e] X.env = [(false, eval e X.env)] := by rfl) (hbase : attributeBase o "join" X.env (eval o X.env) = eval o X.env := by rfl) (hline : (apos.endLine == pos.line) = true := by rfl) (h : X.K = K := by rfl) :
    PE X (.Call (.Attribute o "join" apos) [e] [] pos) (tM1 (fun x xs H Q => ∃ a p, ∃ ys : List Str, x = .str a ∧ xs = [.ref p] ∧ (SqL K H p (ys.map V.str) ∨ SqT K H p (ys.map V.str)) ∧
      (ys.map (·.length)).sum + ys.length * a.length ≤ 16777216 ∧ Q (.str (Txt.join a ys)) H) to te) := h ▸ pe_join ho he hs hbase hline
theorem pe_bmK {T : String} {id : String} {name : Str} {r : V → List V → Hp → VK → Prop} {o e : Expr} {es : List Expr} {to : TE} {t : TA} {apos cpos : Pos} (pa : PlainAttrs T) (slot : Slot T name id) (hty : typeOf (.builtin id) = pure (.type "method_descriptor")) (hm : MtR X id r) (ho : PE X o to) (ha : PA X (e :: es) t)
    (hbase : attributeBase o name X.env (eval o X.env) = eval o X.env := by rfl)
    (hfew : ((backTo cpos (starEach (e :: es) X.env)).all (fun x => !x.1) && (backToKw cpos (keywordEach [] X.env)).all (fun x => x.1.isSome) && decide ((e :: es).length + ([] : List Keyword).length + (if ([] : List Keyword).isEmpty then 0 else 1) < 30)) = true := by rfl) (hline : (apos.endLine == cpos.line) = true := by rfl) (hs : starEach (e :: es) X.env = (false, eval e X.env) :: starEach es X.env := by rfl) (hplain : (backTo cpos (starEach es X.env)).any (·.1) = false := by rfl) (h : X.K = K := by rfl) :
    PE X (.Call (.Attribute o name apos) (e :: es) [] cpos) (tBM K T r to t) := h ▸ pe_bm pa slot hty hm ho ha hbase hfew hline hs hplain
end
theorem ps_nil {G : Gm} : SndPs G [] [] := trivial
theorem ps_cons {G : Gm} {a b : TE} {c d : EM} {trs : List (TE × TE)} {ms : List (EM × EM)} (h1 : SndV G a c) (h2 : SndV G b d) (h3 : SndPs G trs ms) : SndPs G ((a, b) :: trs) ((c, d) :: ms) := ⟨h1, h2, h3⟩
end Yi
/-! a, *b = a list. -/
namespace Yi
open PySem PySem.Spec PyProof.Rows L2
theorem walks_on {P : Program} {w : World} {A : Around} {I : Addr} {fp wr : List Addr} {n : Nat} {Pv : Nat → Value → Prop} {St : Nat → Heap → Prop} (k : Nat) (hk : k ≤ n) (W : Walks P w A I fp wr n Pv St) :
    Walks P w A I fp wr (n - k) (fun i v => Pv (i + k) v) (fun i h => St (i + k) h) where
  sub := W.sub
  frame := fun i h h' st q => W.frame _ h h' st q
  item := fun i s Q E hi st hQ => W.item (i + k) s Q E (by omega) st fun v h' tk a b c => hQ v h' tk a (by rw [show i + 1 + k = i + k + 1 by omega]; exact b) c
  done := fun s Q E st hQ => W.done s Q E (by rw [show n - k + k = n by omega] at st; exact st) hQ
  self := fun i s Q E st q => W.self _ s Q E st q
section
variable {P : Program} {w : World} {A : Around} {E : Value → Shared → Prop} {s : Shared}
theorem unpack_star {l : Addr} {xs : Array Value} {x : Value} {r : List Value} {Q : List Value → Shared → Prop} (hh : A.handled = none) (hl : s.heap.IsList l xs) (hx : xs.toList = x :: r) (hz : xs.size ≤ sizeLine)
    (hQ : ∀ z : Shared, (∀ b o, s.heap.get? b = some o → z.heap.get? b = some o) → z.gens = s.gens → z.drawn = s.drawn → z.os = s.os →
      Q [x, .ref z.heap.objs.size] { z with heap := z.heap.push { cls := .type "list", data := .seq r.toArray } }) : wpAny (model P w) A (unpackItems (.ref l) 2 (some 1)) Q E s := by
  have hlt : l ≠ s.heap.objs.size := by obtain ⟨o, ho, _⟩ := hl; exact Nat.ne_of_lt (Heap.lt_size ho)
  have sz : xs.size = r.length + 1 := by rw [← Array.length_toList, hx]; rfl
  have x0 : xs[0]? = some x := by rw [← Array.getElem?_toList, hx]; rfl
  unfold unpackItems
  refine wpAny_bind ?_
  unfold notIterableAtAll
  refine wpAny_bind (wpAny_specialOf hl.typeIs slot_list_iter.lookup ?_)
  refine wpAny_pure ?_
  simp only [Bool.false_eq_true, if_false]
  refine wpAny_bind (wpAny_holding (wpAny_pyIter_list hl ?_))
  have hl1 : (s.heap.push { cls := .type "list_iterator", data := .fields #[.ref l, .int 0 0] }).IsList l xs := hl.push _
  have hi1 : (s.heap.push { cls := .type "list_iterator", data := .fields #[.ref l, .int 0 0] }).IsListIter s.heap.objs.size l 0 := ⟨_, Heap.get?_push_size _ rfl, rfl, rfl⟩
  refine wpAny_bind (wpAny_holding ?_)
  unfold draw
  refine wpAny_bind (wpAny_pyNext_list_item hi1 hl1 x0 fun h2 hi2 sb2 => ?_)
  dsimp only
  refine wpAny_bind (wpAny_holding ?_)
  unfold draw
  refine wpAny_pure ?_
  refine wpAny_pure ?_
  rw [if_neg (by simp)]
  refine wpAny_bind (wpAny_holding ?_)
  have hl2 : h2.IsList l xs := hl1.extBut sb2.extBut hlt
  have hh1 : A.in1.handled = none := hh
  have W := (walks_on 1 (by omega) (Walks.list (prog := P) (w := w) hh1 s.heap.objs.size l hlt xs)).toS
  have bi : s.heap.objs.size < h2.objs.size := by obtain ⟨o, e, _⟩ := hi2; exact Heap.lt_size e
  have bl : l < h2.objs.size := by obtain ⟨o, e, _⟩ := hl2; exact Heap.lt_size e
  refine wpAny_collect_iter (.inr (.inr (.inl rfl))) W (fun i z st => let ⟨o, ho, hc, _⟩ := st.1; ⟨o, ho, hc⟩) ⟨hi2, hl2⟩ (fun b hb => ?_) (by simp) (fun z acc mv io => ?_) (by omega)
  · rcases (by simpa using hb : b = s.heap.objs.size ∨ b = l) with q | q
    · rw [q]; exact bi
    · rw [q]; exact bl
  have ea : acc.toList = r := by
    apply List.ext_getElem?
    intro i
    have hs : acc.size = xs.size - 1 := io.1
    by_cases hi : i < r.length
    · have h3 := io.2 i (acc[i]'(by omega)) (by simp)
      rw [Array.getElem?_toList, Array.getElem?_eq_getElem (by omega)]
      have h4 : xs.toList[i + 1]? = some (acc[i]'(by omega)) := by rw [Array.getElem?_toList]; exact h3
      rw [hx] at h4
      simpa using h4.symm
    · rw [List.getElem?_eq_none (by simp; omega), List.getElem?_eq_none (by omega)]
  rw [ea]
  have kp : ∀ b o, s.heap.get? b = some o → z.heap.get? b = some o := fun b o e => by
    have hb : b ≠ s.heap.objs.size := Nat.ne_of_lt (Heap.lt_size e)
    exact mv.heap b o (by simpa using hb) (sb2.extBut b o hb (Heap.get?_push_of_some _ e))
  rw [if_neg (by simp)]
  have et : r.take (r.length - (2 - 1 - 1)) = r := by simp
  have ed : r.drop (r.length - (2 - 1 - 1)) = [] := by simp
  show wpAny _ _ (newList (r.take (r.length - (2 - 1 - 1))) >>= fun p => pure (([x] ++ [p]) ++ r.drop (r.length - (2 - 1 - 1)))) _ _ z
  rw [et, ed]
  refine wpAny_bind (wpAny_newObj_type (wpAny_pure ?_) ?_)
  · exact hQ _ kp mv.gens mv.drawn mv.os
  · show r.toArray.size ≤ sizeLine
    simp
    omega
end
/-- a, *b: the first one, a new list of the others -/
def gStar (K : PySem.W.Frag) (i j : Nat) : TG := fun v σ H Q => ∃ a x xs, v = .ref a ∧ SqL K H a (x :: xs) ∧ ∀ p, H p = none → Q ((σ.set i (some x)).set j (some (.ref p))) (upd H p (.lst xs))
theorem pg_star {X : Cx} {i j : Nat} {x y : Str} {px py ps pos : Pos} {k : Nat} (hc : X.calm = true) (hN : X.N.Nodup) (hi : X.N[i]? = some x) (hj : X.N[j]? = some y) (hx : Loc X.env.scope x) (hy : Loc X.env.scope y)
    (ha : assignEach [.Name x px, .Starred (.Name y py) ps] X.env = [(false, assign (.Name x px) X.env), (true, assign (.Name y py) X.env)] := by rfl)
    (hf : X.fn x = true ∨ X.env.scope.names.lookup x = some .local := by first | exact .inl rfl | exact .inr rfl) (hg : X.fn y = true ∨ X.env.scope.names.lookup y = some .local := by first | exact .inl rfl | exact .inr rfl) :
    PG X (.Tuple [.Name x px, .Starred (.Name y py) ps] k pos) (gStar X.K i j) := by
  refine ⟨fun pins s σ H v u Q I r hw => ?_⟩
  obtain ⟨a, z, zs, e1, hq, hw⟩ := hw
  subst e1
  cases r
  obtain ⟨its, rv, pl, hz⟩ := I.list hq
  cases rv with
  | cons r1 rr =>
    rename_i u1 us
    rw [PyProof.Rows.assign_Tuple, ha]
    refine wpAny_bind (wpAny_standAt ?_)
    unfold unpack
    have h63 : (z :: zs).length ≤ sizeLine := hz
    refine wpAny_bind (wpAny_holding (unpack_star (x := u1) (r := us) (I.ok.hd hc) pl.isList (by simp) (by simpa [rr.length] using h63) fun t kp gg dd oo => ?_))
    have I1 : Inv X pins σ H t := by
      have q := I.kept (h' := t.heap) (t' := t.toks) kp
      have e : t = { s with heap := t.heap, toks := t.toks } := by
        cases t
        cases s
        cases gg
        cases dd
        cases oo
        rfl
      rw [e]
      exact q
    have hn := I1.hok.fresh (Nat.le_refl _)
    have I2 : Inv X pins σ (upd H t.heap.objs.size (.lst zs)) { t with heap := t.heap.push { cls := .type "list", data := .seq us.toArray } } :=
      I1.laid (t' := t.toks) (fun b u e => Heap.get?_push_of_some _ e) (Nat.le_refl _) ⟨Nat.le_of_succ_le h63, us, 0, rr, Heap.get?_push_size _ rfl⟩
    refine assignInOrder_cons (wpAny_assign_Name (store_ok I2 hN hi hx r1 (fun s3 I3 => ?_) hf))
    refine assignInOrder_cons (wpAny_assign_Name (store_ok I3 hN hj hy (v := .ref t.heap.objs.size) rfl (fun s4 I4 => ?_) hg))
    exact assignInOrder_nil ⟨_, _, I4, hw _ hn⟩
theorem pg_starK (K : PySem.W.Frag) {X : Cx} {i j : Nat} {x y : Str} {px py ps pos : Pos} {k : Nat} (hc : X.calm = true) (hN : X.N.Nodup) (hi : X.N[i]? = some x) (hj : X.N[j]? = some y) (hx : Loc X.env.scope x) (hy : Loc X.env.scope y)
    (ha : assignEach [.Name x px, .Starred (.Name y py) ps] X.env = [(false, assign (.Name x px) X.env), (true, assign (.Name y py) X.env)] := by rfl)
    (hf : X.fn x = true ∨ X.env.scope.names.lookup x = some .local := by first | exact .inl rfl | exact .inr rfl) (hg : X.fn y = true ∨ X.env.scope.names.lookup y = some .local := by first | exact .inl rfl | exact .inr rfl) (h : X.K = K := by rfl) :
    PG X (.Tuple [.Name x px, .Starred (.Name y py) ps] k pos) (gStar K i j) := h ▸ pg_star hc hN hi hj hx hy ha hf hg
section
variable {G : Gm} {te : TE} {me : EM}
theorem snd_star {i j : Nat} (h : SndV G te me) : SndS G (tAsg te (gStar G.K i j)) (sStar i j me) := by
  intro F ι S ρ σ H f ρ' S' s e W k
  unfold sStar at e
  obtain ⟨⟨d, S1⟩, e1, e⟩ := Option.bind_eq_some_iff.mp e
  obtain ⟨ds, e2, e⟩ := Option.bind_eq_some_iff.mp e
  match ds, e2, e with
  | d0 :: r, e2, e =>
    cases e
    refine snd_d h s e1 _ fun F1 ι1 H1 v s1 p1 rd => ?_
    obtain ⟨a, vs, rfl, h1, h2⟩ := lst_get s1.rep rd e2
    obtain ⟨x, xs, rfl, r1, r2⟩ := rds_cons.mp h2
    refine ⟨a, x, xs, rfl, SqL.of h1, fun p hp => ?_⟩
    obtain ⟨q2, p2⟩ := s1.rep.newF (o := .lst xs) hp
    have s2 := (s1.after q2 p2).1
    have no : ∀ {b : Addr}, ¬ (none : Option Unit) = some () := fun {b} => by simp
    obtain ⟨s3, o3⟩ := s2.set (i := i) (w := .d d0) (v := x) (O := NoO) (H0 := H) (r1.mono p2.exF p2.pre) fun b hb => s.notOwn hb
    obtain ⟨s4, o4⟩ := s3.set (i := j) (w := .d (.fl r)) (v := .ref p) (O := NoO) (H0 := H) (by simp only [RV, RD]; exact ⟨p, xs, rfl, upd_same, r2.mono p2.exF p2.pre⟩) fun b hb hO => (o3 b hO).elim (s.notOwn hb) fun _ => by
      obtain ⟨i', c, h5, h6⟩ := hO
      rcases set_get h5 with ⟨_, q⟩ | ⟨q, h5⟩
      · cases q
      · rw [List.getElem?_set_ne (Ne.symm q)] at h6
        exact s.notOwn hb ⟨i', c, h5, h6⟩
    have pp := p1.trans p2
    have q : Stp F ι (OwnA ρ σ) H _ ι1 (OwnA ρ σ) _ := stx_own pp
    exact k _ ι1 _ _ s4 ⟨q.exF, q.pre, q.fr, q.nF, q.nI, fun b hb => by
      rcases o4 b hb with z | z
      · rcases o3 b z with y | y
        · exact .inl y
        · exact .inr y
      · exact .inr z, q.dom, q.fz⟩
end
end Yi
/-! Plain Lean: that a meaning ends, and what then holds. -/
namespace Yi
open PySem L2
/-- it ends, with Q -/
def ok {α : Type} (o : Option α) (Q : α → Prop) : Prop := ∃ a, o = some a ∧ Q a
theorem ok_some {α : Type} {a : α} {Q : α → Prop} : ok (some a) Q ↔ Q a := ⟨fun ⟨b, e, q⟩ => by cases e; exact q, fun q => ⟨a, rfl, q⟩⟩
theorem ok_none {α : Type} {Q : α → Prop} : ok (none : Option α) Q ↔ False := ⟨fun h => (by obtain ⟨_, e, _⟩ := h; cases e), fun h => h.elim⟩
theorem ok_bind {α β : Type} {o : Option α} {f : α → Option β} {Q : β → Prop} : ok (o.bind f) Q ↔ ok o fun a => ok (f a) Q := by
  cases o with
  | none => simp [ok]
  | some a => simp [ok_some]
theorem ok_map {α β : Type} {o : Option α} {f : α → β} {Q : β → Prop} : ok (o.map f) Q ↔ ok o fun a => Q (f a) := by
  cases o with
  | none => simp [ok]
  | some a => simp [ok_some]
theorem ok_ite {α : Type} {c : Prop} [Decidable c] {a b : Option α} {Q : α → Prop} : ok (if c then a else b) Q ↔ (c → ok a Q) ∧ (¬c → ok b Q) := by
  by_cases h : c <;> simp [h]
theorem ok.mono {α : Type} {o : Option α} {Q R : α → Prop} (h : ok o Q) (k : ∀ a, Q a → R a) : ok o R := let ⟨a, e, q⟩ := h; ⟨a, e, k a q⟩
theorem ok_eq {α : Type} {o : Option α} {a : α} {Q : α → Prop} (e : o = some a) : ok o Q ↔ Q a := by rw [e, ok_some]
theorem ok.get {α : Type} {o : Option α} {a : α} (h : ok o fun b => b = a) : o = some a := by obtain ⟨b, e, q⟩ := h; rw [e, q]
/-- a def's call -/
theorem den_ok {n np : Nat} {m : SM} {ds : List D} {S : Sto} {Q : VV × Sto → Prop} (hl : ds.length = np)
    (h : ok (m (ds.map (fun d => some (.d d)) ++ List.replicate (n - ds.length) none) S) fun p => match p.1 with
      | .nx => Q (.d .non, p.2.2)
      | .rt v => Q (v, p.2.2)
      | _ => False) : ok (den n np m ds S) Q := by
  unfold den
  rw [if_pos hl, ok_bind]
  refine h.mono fun p => ?_
  cases hp : p.1 <;> simp [ok_some, ok_none]
theorem seq_ok {a b : SM} {ρ : Slt} {S : Sto} {Q : Fl × Slt × Sto → Prop} (h : ok (a ρ S) fun p => p.1 = .nx ∧ ok (b p.2.1 p.2.2) Q) : ok (sSeq a b ρ S) Q := by
  unfold sSeq
  rw [ok_bind]
  refine h.mono fun p ⟨e, q⟩ => ?_
  rw [e]
  exact q
theorem kb_NoneType_int : kitB "NoneType" "int" = some false := by decide +kernel
theorem kb_NoneType_bool : kitB "NoneType" "bool" = some false := by decide +kernel
theorem kb_NoneType_str : kitB "NoneType" "str" = some false := by decide +kernel
theorem kb_NoneType_tuple : kitB "NoneType" "tuple" = some false := by decide +kernel
theorem kb_NoneType_list : kitB "NoneType" "list" = some false := by decide +kernel
theorem kb_bool_int : kitB "bool" "int" = some true := by decide +kernel
theorem kb_bool_bool : kitB "bool" "bool" = some true := by decide +kernel
theorem kb_bool_str : kitB "bool" "str" = some false := by decide +kernel
theorem kb_bool_tuple : kitB "bool" "tuple" = some false := by decide +kernel
theorem kb_bool_list : kitB "bool" "list" = some false := by decide +kernel
theorem kb_int_int : kitB "int" "int" = some true := by decide +kernel
theorem kb_int_bool : kitB "int" "bool" = some false := by decide +kernel
theorem kb_int_str : kitB "int" "str" = some false := by decide +kernel
theorem kb_int_tuple : kitB "int" "tuple" = some false := by decide +kernel
theorem kb_int_list : kitB "int" "list" = some false := by decide +kernel
theorem kb_str_int : kitB "str" "int" = some false := by decide +kernel
theorem kb_str_bool : kitB "str" "bool" = some false := by decide +kernel
theorem kb_str_str : kitB "str" "str" = some true := by decide +kernel
theorem kb_str_tuple : kitB "str" "tuple" = some false := by decide +kernel
theorem kb_str_list : kitB "str" "list" = some false := by decide +kernel
theorem kb_tuple_int : kitB "tuple" "int" = some false := by decide +kernel
theorem kb_tuple_bool : kitB "tuple" "bool" = some false := by decide +kernel
theorem kb_tuple_str : kitB "tuple" "str" = some false := by decide +kernel
theorem kb_tuple_tuple : kitB "tuple" "tuple" = some true := by decide +kernel
theorem kb_tuple_list : kitB "tuple" "list" = some false := by decide +kernel
theorem kb_list_int : kitB "list" "int" = some false := by decide +kernel
theorem kb_list_bool : kitB "list" "bool" = some false := by decide +kernel
theorem kb_list_str : kitB "list" "str" = some false := by decide +kernel
theorem kb_list_tuple : kitB "list" "tuple" = some false := by decide +kernel
theorem kb_list_list : kitB "list" "list" = some true := by decide +kernel
end Yi
/-! Loops and comparisons in plain Lean. -/
namespace Yi
open PySem L2
theorem forL_ok {g : TM} {b : SM} (P : Nat → Slt → Sto → Prop) : ∀ (items : List D) (k : Nat) {ρ : Slt} {S : Sto}, P k ρ S →
    (∀ (i : Nat) (d : D), items[i]? = some d → ∀ ρ S, P (k + i) ρ S → ok (g d ρ) fun ρ1 => ok (b ρ1 S) fun p => p.1 = .nx ∧ P (k + i + 1) p.2.1 p.2.2) →
    ok (forL g b items ρ S) fun p => p.1 = .nx ∧ P (k + items.length) p.2.1 p.2.2
  | [], k, ρ, S, h0, hs => ⟨_, rfl, rfl, h0⟩
  | d :: r, k, ρ, S, h0, hs => by
    unfold forL
    rw [ok_bind]
    refine (hs 0 d rfl ρ S h0).mono fun ρ1 h1 => ?_
    rw [ok_bind]
    refine h1.mono fun ⟨f, ρ2, S2⟩ ⟨e, h2⟩ => ?_
    cases e
    refine (forL_ok P r (k + 1) (ρ := ρ2) (S := S2) h2 fun i d' hd ρ' S' hp => ?_).mono fun p hp => ?_
    · have := hs (i + 1) d' (by simpa using hd) ρ' S' (by rw [show k + (i + 1) = k + 1 + i by omega]; exact hp)
      rw [show k + (i + 1) + 1 = k + 1 + i + 1 by omega] at this
      exact this
    · rw [show k + (d :: r).length = k + 1 + r.length by simp; omega]
      exact hp
theorem compL_ok {g : TM} {c : BM} {m : EM} {ρ : Slt} (P : Nat → List D → Sto → Prop) (hz : ∀ i ys S, P i ys S → szOk ys.length = true) : ∀ (items : List D) (k : Nat) {ys : List D} {S : Sto}, P k ys S →
    (∀ (i : Nat) (d : D), items[i]? = some d → ∀ ys S, P (k + i) ys S → ok (g d ρ) fun ρ1 => ok (c ρ1 S) fun p => if p.1 = true then ok (eD m ρ1 p.2) fun q => P (k + i + 1) (ys ++ [q.1]) q.2 else P (k + i + 1) ys p.2) →
    ok (compL g c m ρ items ys S) fun p => P (k + items.length) p.1 p.2
  | [], k, ys, S, h0, hs => ⟨_, rfl, h0⟩
  | d :: r, k, ys, S, h0, hs => by
    unfold compL
    rw [ok_bind]
    refine (hs 0 d rfl ys S h0).mono fun ρ1 h1 => ?_
    rw [ok_bind]
    refine h1.mono fun ⟨b, S1⟩ h2 => ?_
    have next : ∀ zs S', P (k + 0 + 1) zs S' → ok (compL g c m ρ r zs S') fun p => P (k + (d :: r).length) p.1 p.2 := fun zs S' h3 => by
      refine (compL_ok P hz r (k + 1) (ys := zs) (S := S') h3 fun i d' hd ys' S'' hp => ?_).mono fun p hp => ?_
      · have := hs (i + 1) d' (by simpa using hd) ys' S'' (by rw [show k + (i + 1) = k + 1 + i by omega]; exact hp)
        rw [show k + (i + 1) + 1 = k + 1 + i + 1 by omega] at this
        exact this
      · rw [show k + (d :: r).length = k + 1 + r.length by simp; omega]
        exact hp
    cases b with
    | true =>
      rw [if_pos rfl] at h2 ⊢
      rw [ok_bind]
      refine h2.mono fun q hq => ?_
      rw [if_pos (hz _ _ _ h0)]
      exact next _ _ hq
    | false =>
      rw [if_neg Bool.false_ne_true] at h2 ⊢
      exact next _ _ h2
/-- a comprehension that leaves the store, keeps all -/
theorem compL_map {g : TM} {c : BM} {m : EM} {ρ : Slt} {S : Sto} (f : D → D) : ∀ (items ys : List D), ys.length + items.length ≤ 1000000 →
    (∀ d ∈ items, ∃ ρ1, g d ρ = some ρ1 ∧ c ρ1 S = some (true, S) ∧ eD m ρ1 S = some (f d, S)) → compL g c m ρ items ys S = some (ys ++ items.map f, S)
  | [], ys, _, _ => by simp [compL]
  | d :: r, ys, hl, h => by
    obtain ⟨ρ1, h1, h2, h3⟩ := h d (by simp)
    unfold compL
    rw [h1, Option.bind_some, h2, Option.bind_some, if_pos rfl, h3, Option.bind_some, if_pos (by simp [szOk]; simp at hl; omega), compL_map f r _ (by simp at hl ⊢; omega) fun d' hd => h d' (by simp [hd])]
    simp
/-! ### what is compared -/
mutual
def shp : Nat → D → PyData → Sto → Prop
  | _, .non, p, _ => p = .none
  | _, .bl b, p, _ => p = .bool b
  | _, .int i, p, _ => p = .int i
  | _, .str x, p, _ => p = .str x ∧ PyData.canLay0 (.str x) = true
  | n + 1, .tup ds, p, S => ∃ ps, p = .tuple ps ∧ shps n ds ps S
  | n + 1, .fl ds, p, S => ∃ ps, p = .list ps ∧ shps n ds ps S
  | n + 1, .ref k, p, S => ∃ ds ps, S[k]? = some (.lst ds) ∧ p = .list ps ∧ shps n ds ps S
  | _, _, _, _ => False
def shps : Nat → List D → List PyData → Sto → Prop
  | _, [], ps, _ => ps = []
  | n, d :: ds, ps, S => ∃ p r, ps = p :: r ∧ shp n d p S ∧ shps n ds r S
end
mutual
theorem shp_py : ∀ (n : Nat) {d : D} {p : PyData} {S : Sto}, shp n d p S → pyD n S d = some p ∧ p.canLay0 = true ∧ p.depth ≤ n
  | n, .non, p, S, h => by simp only [shp] at h; subst h; exact ⟨by simp only [pyD], by simp only [PyData.canLay0], by simp [PyData.depth]⟩
  | n, .bl b, p, S, h => by simp only [shp] at h; subst h; exact ⟨by simp only [pyD], by simp only [PyData.canLay0], by simp [PyData.depth]⟩
  | n, .int b, p, S, h => by simp only [shp] at h; subst h; exact ⟨by simp only [pyD], by simp only [PyData.canLay0], by simp [PyData.depth]⟩
  | n, .str b, p, S, h => by simp only [shp] at h; obtain ⟨rfl, h⟩ := h; exact ⟨by simp only [pyD], h, by simp [PyData.depth]⟩
  | 0, .tup ds, p, S, h => by simp only [shp] at h
  | n + 1, .tup ds, p, S, h => by
    simp only [shp] at h
    obtain ⟨ps, rfl, h⟩ := h
    obtain ⟨h1, h2, h3⟩ := shps_py n h
    exact ⟨by simp only [pyD]; rw [h1]; rfl, by simp only [PyData.canLay0]; exact h2, by simp only [PyData.depth]; omega⟩
  | 0, .fl ds, p, S, h => by simp only [shp] at h
  | n + 1, .fl ds, p, S, h => by
    simp only [shp] at h
    obtain ⟨ps, rfl, h⟩ := h
    obtain ⟨h1, h2, h3⟩ := shps_py n h
    exact ⟨by simp only [pyD]; rw [h1]; rfl, by simp only [PyData.canLay0]; exact h2, by simp only [PyData.depth]; omega⟩
  | 0, .ref k, p, S, h => by simp only [shp] at h
  | n + 1, .ref k, p, S, h => by
    simp only [shp] at h
    obtain ⟨ds, ps, h0, rfl, h⟩ := h
    obtain ⟨h1, h2, h3⟩ := shps_py n h
    exact ⟨by simp only [pyD]; rw [h0]; show (pyDs n S ds).map _ = _; rw [h1]; rfl, by simp only [PyData.canLay0]; exact h2, by simp only [PyData.depth]; omega⟩
  | n, .lk _, p, S, h => by cases n <;> simp only [shp] at h
  | n, .fn _, p, S, h => by cases n <;> simp only [shp] at h
  | n, .ty _, p, S, h => by cases n <;> simp only [shp] at h
theorem shps_py : ∀ (n : Nat) {ds : List D} {ps : List PyData} {S : Sto}, shps n ds ps S → pyDs n S ds = some ps ∧ PyData.canLayAll0 ps = true ∧ PyData.depthAll ps ≤ n
  | n, [], ps, S, h => by simp only [shps] at h; subst h; exact ⟨by simp only [pyDs], by simp only [PyData.canLayAll0], by simp [PyData.depthAll]⟩
  | n, d :: ds, ps, S, h => by
    simp only [shps] at h
    obtain ⟨p, r, rfl, h1, h2⟩ := h
    obtain ⟨a1, a2, a3⟩ := shp_py n h1
    obtain ⟨b1, b2, b3⟩ := shps_py n h2
    refine ⟨by simp only [pyDs]; rw [a1, Option.bind_some, b1]; rfl, ?_, ?_⟩
    · simp only [PyData.canLayAll0, a2, b2, Bool.and_self]
    · simp only [PyData.depthAll]
      omega
end
theorem shp_eq {x y : D} {p q : PyData} {S : Sto} (h1 : shp 12 x p S) (h2 : shp 12 y q S) : eqD x y S = some (PyData.eqv p q) := by
  obtain ⟨a1, a2, a3⟩ := shp_py 12 h1
  obtain ⟨b1, b2, b3⟩ := shp_py 12 h2
  unfold eqD
  rw [a1, Option.bind_some, b1, Option.bind_some, if_pos]
  simp only [SeqAt.shaped, a2, b2, Bool.true_and, Bool.and_eq_true, decide_eq_true_eq]
  exact ⟨by omega, by omega⟩
mutual
theorem eqv_self : ∀ p : PyData, p.canLay0 = true → PyData.eqv p p = true
  | .none, _ => by simp [PyData.eqv]
  | .bool _, _ => by simp [PyData.eqv]
  | .int _, _ => by simp [PyData.eqv]
  | .str _, _ => by simp [PyData.eqv]
  | .list ps, h => by simp only [PyData.canLay0] at h; simp only [PyData.eqv]; exact eqvs_self ps h
  | .tuple ps, h => by simp only [PyData.canLay0] at h; simp only [PyData.eqv]; exact eqvs_self ps h
  | .dict _, h => by simp only [PyData.canLay0] at h; cases h
theorem eqvs_self : ∀ ps : List PyData, PyData.canLayAll0 ps = true → PyData.eqvAll ps ps = true
  | [], _ => by simp [PyData.eqvAll]
  | p :: ps, h => by
    simp only [PyData.canLayAll0, Bool.and_eq_true] at h
    simp only [PyData.eqvAll, eqv_self p h.1, eqvs_self ps h.2, Bool.and_self]
end
theorem eqD_same {x y : D} {p : PyData} {S : Sto} (h1 : shp 12 x p S) (h2 : shp 12 y p S) : eqD x y S = some true := by
  rw [shp_eq h1 h2, eqv_self p (shp_py 12 h1).2.1]
theorem shps_map {α : Type} {n : Nat} {S : Sto} {f : α → D} {g : α → PyData} : ∀ {l : List α}, (∀ a ∈ l, shp n (f a) (g a) S) → shps n (l.map f) (l.map g) S
  | [], _ => by simp only [List.map_nil, shps]
  | a :: r, h => by
    simp only [List.map_cons, shps]
    exact ⟨_, _, rfl, h a (by simp), shps_map fun b hb => h b (by simp [hb])⟩
theorem eq_int (i j : Int) (S : Sto) : eqD (.int i) (.int j) S = some (i == j) := by rw [shp_eq (p := .int i) (q := .int j) (by simp only [shp]) (by simp only [shp])]; simp only [PyData.eqv]
theorem eq_bl (i j : Bool) (S : Sto) : eqD (.bl i) (.bl j) S = some (i == j) := by rw [shp_eq (p := .bool i) (q := .bool j) (by simp only [shp]) (by simp only [shp])]; simp only [PyData.eqv]
theorem eq_str {i j : Str} {S : Sto} (h1 : PyData.canLay0 (.str i) = true) (h2 : PyData.canLay0 (.str j) = true) : eqD (.str i) (.str j) S = some (i == j) := by rw [shp_eq (p := .str i) (q := .str j) (by simp only [shp]; exact ⟨trivial, h1⟩) (by simp only [shp]; exact ⟨trivial, h2⟩)]; simp only [PyData.eqv]
/-- a list against the empty one -/
theorem eq_nilL {ds : List D} {ps : List PyData} {x : D} {S : Sto} (hx : lstD x S = some ds) (h : shps 11 ds ps S) : eqD x (.fl []) S = some ds.isEmpty := by
  have h1 : shp 12 x (.list ps) S := by
    cases x with
    | fl es => cases hx; simp only [shp]; exact ⟨_, rfl, h⟩
    | ref n =>
      simp only [lstD] at hx
      split at hx
      · rename_i q
        cases hx
        simp only [shp]
        exact ⟨_, _, q, rfl, h⟩
      · cases hx
    | _ => cases hx
  rw [shp_eq h1 (q := .list []) (by simp only [shp]; exact ⟨_, rfl, by simp only [shps]⟩)]
  cases ds with
  | nil => simp only [shps] at h; subst h; simp [PyData.eqv, PyData.eqvAll]
  | cons d r => simp only [shps] at h; obtain ⟨p, q, rfl, _, _⟩ := h; simp [PyData.eqv, PyData.eqvAll]
theorem ix0 {n : Nat} (h : 0 < n) : ixN n 0 = some 0 := by simp [ixN]; omega
theorem ixn {n : Nat} {i : Nat} (h : i < n) : ixN n (i : Int) = some i := by simp [ixN]; omega
theorem ixm {n : Nat} (h : 0 < n) : ixN n (-1) = some (n - 1) := by
  unfold ixN
  rw [if_neg (by omega), if_pos (by omega)]
  congr 1
  omega
theorem sz_0 : szOk 0 = true := by decide
theorem sz_1 : szOk 1 = true := by decide
theorem sz_2 : szOk 2 = true := by decide
theorem sz_3 : szOk 3 = true := by decide
theorem sz_4 : szOk 4 = true := by decide
theorem sz_5 : szOk 5 = true := by decide
theorem sz_6 : szOk 6 = true := by decide
theorem sz_7 : szOk 7 = true := by decide
theorem sz_8 : szOk 8 = true := by decide
theorem sz_9 : szOk 9 = true := by decide
theorem sz_10 : szOk 10 = true := by decide
theorem sz_11 : szOk 11 = true := by decide
theorem sz_12 : szOk 12 = true := by decide
theorem sz_13 : szOk 13 = true := by decide
theorem sz_14 : szOk 14 = true := by decide
theorem sz_15 : szOk 15 = true := by decide
theorem sz_16 : szOk 16 = true := by decide
theorem ix_1_0 : ixN 1 0 = some 0 := by decide
theorem ix_2_0 : ixN 2 0 = some 0 := by decide
theorem ix_2_1 : ixN 2 1 = some 1 := by decide
theorem ix_3_0 : ixN 3 0 = some 0 := by decide
theorem ix_3_1 : ixN 3 1 = some 1 := by decide
theorem ix_3_2 : ixN 3 2 = some 2 := by decide
theorem ix_4_0 : ixN 4 0 = some 0 := by decide
theorem ix_4_1 : ixN 4 1 = some 1 := by decide
theorem ix_4_2 : ixN 4 2 = some 2 := by decide
theorem ix_4_3 : ixN 4 3 = some 3 := by decide
theorem ix_5_0 : ixN 5 0 = some 0 := by decide
theorem ix_5_1 : ixN 5 1 = some 1 := by decide
theorem ix_5_2 : ixN 5 2 = some 2 := by decide
theorem ix_5_3 : ixN 5 3 = some 3 := by decide
theorem ix_5_4 : ixN 5 4 = some 4 := by decide
theorem ix_6_0 : ixN 6 0 = some 0 := by decide
theorem ix_6_1 : ixN 6 1 = some 1 := by decide
theorem ix_6_2 : ixN 6 2 = some 2 := by decide
theorem ix_6_3 : ixN 6 3 = some 3 := by decide
theorem ix_6_4 : ixN 6 4 = some 4 := by decide
theorem ix_6_5 : ixN 6 5 = some 5 := by decide
theorem ix_7_0 : ixN 7 0 = some 0 := by decide
theorem ix_7_1 : ixN 7 1 = some 1 := by decide
theorem ix_7_2 : ixN 7 2 = some 2 := by decide
theorem ix_7_3 : ixN 7 3 = some 3 := by decide
theorem ix_7_4 : ixN 7 4 = some 4 := by decide
theorem ix_7_5 : ixN 7 5 = some 5 := by decide
theorem ix_7_6 : ixN 7 6 = some 6 := by decide
theorem sI_0 : smallI 0 = true := by decide
theorem sI_1 : smallI 1 = true := by decide
theorem sI_48271 : smallI 48271 = true := by decide
theorem sI_69621 : smallI 69621 = true := by decide
theorem nx_ok {ρ : Slt} {S : Sto} {b : SM} {Q : Fl × Slt × Sto → Prop} (h : ok (b ρ S) Q) : (Fl.nx, ρ, S).1 = .nx ∧ ok (b (Fl.nx, ρ, S).2.1 (Fl.nx, ρ, S).2.2) Q := ⟨rfl, h⟩
theorem for_ok {i : AM} {g : TM} {b : SM} {ρ : Slt} {S : Sto} {Q : Fl × Slt × Sto → Prop} (h : ok (i ρ S) fun p => ok (forL g b p.1 ρ p.2) Q) : ok (sFor i g b ρ S) Q := by
  unfold sFor
  rw [ok_bind]
  exact h
theorem lc_ok {i : AM} {g : TM} {c : BM} {m : EM} {vs : List Nat} {ρ : Slt} {S : Sto} {Q : VV × Sto → Prop} (h : ok (i ρ S) fun p => ok (compL g c m (wipeS ρ vs) p.1 [] p.2) fun q => Q (.own (.lst q.1), q.2)) : ok (eLc i g c m vs ρ S) Q := by
  unfold eLc
  rw [ok_bind]
  refine h.mono fun p hp => ?_
  rw [ok_map]
  exact hp
theorem rng_get {lo : Int} {n i : Nat} {d : D} (h : (rngL lo n)[i]? = some d) : i < n ∧ d = .int (lo + i) := by
  unfold rngL at h
  rw [List.getElem?_map] at h
  obtain ⟨j, hj, rfl⟩ := Option.map_eq_some_iff.mp h
  have h1 := (List.getElem?_eq_some_iff.mp hj).1
  rw [List.getElem?_range (by simpa using h1)] at hj
  cases hj
  exact ⟨by simpa using h1, rfl⟩
theorem rng_len {lo : Int} {n : Nat} : (rngL lo n).length = n := by simp [rngL]
theorem smR {i : Int} (h0 : 0 ≤ i) (h1 : i ≤ 1000000) : smallR i = true := by simp [smallR]; omega
theorem forC_ok {n : Nat} {mk : Nat → D → D} {g : TM} {b : SM} (P : Nat → Slt → Sto → Prop) (ds : List D) (hc : ∀ i ρ S, P i ρ S → S[n]? = some (.lst ds))
    (hs : ∀ (i : Nat) (d : D), ds[i]? = some d → ∀ ρ S, P i ρ S → ok (g (mk i d) ρ) fun ρ1 => ok (b ρ1 S) fun p => p.1 = .nx ∧ P (i + 1) p.2.1 p.2.2) :
    ∀ (k i : Nat) {ρ : Slt} {S : Sto}, i + k = ds.length → P i ρ S → ok (forC n mk g b (k + 1) i ρ S) fun p => p.1 = .nx ∧ P ds.length p.2.1 p.2.2
  | 0, i, ρ, S, hi, hp => by
    unfold forC
    rw [hc _ _ _ hp]
    dsimp only
    rw [List.getElem?_eq_none (by omega)]
    refine ⟨_, rfl, rfl, ?_⟩
    have : i = ds.length := by omega
    rw [← this]
    exact hp
  | k + 1, i, ρ, S, hi, hp => by
    unfold forC
    rw [hc _ _ _ hp]
    dsimp only
    have hl : i < ds.length := by omega
    rw [List.getElem?_eq_getElem hl]
    dsimp only
    rw [ok_bind]
    refine (hs i ds[i] (List.getElem?_eq_getElem hl) ρ S hp).mono fun ρ1 h1 => ?_
    rw [ok_bind]
    refine h1.mono fun ⟨f, ρ2, S2⟩ ⟨e, h2⟩ => ?_
    cases e
    exact forC_ok P ds hc hs k (i + 1) (by omega) h2
theorem sforC_ok {n : Nat} {i : Slt → Sto → Option (Nat × Sto)} {mk : Nat → D → D} {g : TM} {b : SM} {ρ : Slt} {S S1 : Sto} {ds : List D} {Q : Fl × Slt × Sto → Prop} (hi : i ρ S = some (n, S1)) (P : Nat → Slt → Sto → Prop) (h0 : P 0 ρ S1)
    (hc : ∀ i ρ S, P i ρ S → S[n]? = some (.lst ds)) (hs : ∀ (i : Nat) (d : D), ds[i]? = some d → ∀ ρ S, P i ρ S → ok (g (mk i d) ρ) fun ρ1 => ok (b ρ1 S) fun p => p.1 = .nx ∧ P (i + 1) p.2.1 p.2.2)
    (hd : ∀ ρ' S', P ds.length ρ' S' → Q (.nx, ρ', S')) : ok (sForC i mk g b ρ S) Q := by
  unfold sForC
  rw [hi, Option.bind_some]
  have e : lenC n S1 = ds.length := by unfold lenC; rw [hc _ _ _ h0]
  dsimp only
  rw [e]
  refine (forC_ok P ds hc hs ds.length 0 (by omega) h0).mono fun ⟨f, ρ', S'⟩ ⟨e, h⟩ => ?_
  cases e
  exact hd ρ' S' h
theorem compC_map {n : Nat} {mk : Nat → D → D} {g : TM} {c : BM} {m : EM} {ρ : Slt} {S : Sto} {ds : List D} (f : Nat → D → D) (hc : S[n]? = some (.lst ds)) (hl : ds.length ≤ 1000000)
    (h : ∀ (i : Nat) (d : D), ds[i]? = some d → ∃ ρ1, g (mk i d) ρ = some ρ1 ∧ c ρ1 S = some (true, S) ∧ eD m ρ1 S = some (f i d, S)) :
    ∀ (k i : Nat) (ys : List D), i + k = ds.length → ys = (ds.take i).mapIdx f → compC n mk g c m ρ (k + 1) i ys S = some (ds.mapIdx f, S)
  | 0, i, ys, hi, e => by
    unfold compC
    rw [hc]
    dsimp only
    rw [List.getElem?_eq_none (by omega), e, List.take_of_length_le (by omega)]
  | k + 1, i, ys, hi, e => by
    unfold compC
    rw [hc]
    dsimp only
    have hil : i < ds.length := by omega
    rw [List.getElem?_eq_getElem hil]
    dsimp only
    obtain ⟨ρ1, h1, h2, h3⟩ := h i ds[i] (List.getElem?_eq_getElem hil)
    have hy : ys.length = i := by rw [e]; simp; omega
    rw [h1, Option.bind_some, h2, Option.bind_some, if_pos rfl, h3, Option.bind_some, if_pos (by simp [szOk]; omega)]
    refine compC_map f hc hl h k (i + 1) _ (by omega) ?_
    rw [e, List.take_add_one, List.getElem?_eq_getElem hil]
    have em : min i ds.length = i := Nat.min_eq_left (by omega)
    rw [List.mapIdx_append]
    simp only [Option.toList, List.mapIdx_cons, List.mapIdx_nil, List.length_take, em, Nat.zero_add]
theorem iR1_eq {a : AM} {ρ : Slt} {S S' : Sto} {n : Nat} (h : a ρ S = some ([.int n], S')) (hn : n ≤ 1000000) : iR1 a ρ S = some (rngL 0 n, S') := by
  have e : smallR (n : Int) = true := smR (by omega) (by omega)
  unfold iR1
  rw [h, Option.bind_some]
  exact if_pos e
end Yi
namespace Wk
open PySem L2 Yi
/-! ### the text by places -/
def top (i : Nat) : Stmt := PySem.Challenge.pw_hushnotice_k16_rules_written.main.body.getD i (.Pass ⟨0, 0, 0, 0⟩)
abbrev s_is_number : Stmt := top 14
abbrev n_is_number : List Str := ["part", "low", "high"]
theorem sc_is_number : FnScope n_is_number ["part", "low", "high"] (defScope s_is_number) := ⟨rfl, rfl, rfl, by decide +kernel, rfl, by decide +kernel, by decide +kernel⟩
abbrev s_is_stretch : Stmt := top 16
abbrev n_is_stretch : List Str := ["pair"]
theorem sc_is_stretch : FnScope n_is_stretch ["pair"] (defScope s_is_stretch) := ⟨rfl, rfl, rfl, by decide +kernel, rfl, by decide +kernel, by decide +kernel⟩
abbrev s_is_gathered : Stmt := top 17
abbrev n_is_gathered : List Str := ["pair"]
theorem sc_is_gathered : FnScope n_is_gathered ["pair"] (defScope s_is_gathered) := ⟨rfl, rfl, rfl, by decide +kernel, rfl, by decide +kernel, by decide +kernel⟩
abbrev s_are_pairs : Stmt := top 15
abbrev n_are_pairs : List Str := ["some", "most", "is_good", "pair"]
theorem sc_are_pairs : FnScope n_are_pairs ["some", "most", "is_good"] (defScope s_are_pairs) := ⟨rfl, rfl, rfl, by decide +kernel, rfl, by decide +kernel, by decide +kernel⟩
abbrev s_bad_part : Stmt := top 18
abbrev n_bad_part : List Str := ["rule", "many", "kinds", "good", "hushed", "least", "gather", "wait", "further", "pair"]
theorem sc_bad_part : FnScope n_bad_part ["rule", "many"] (defScope s_bad_part) := ⟨rfl, rfl, rfl, by decide +kernel, rfl, by decide +kernel, by decide +kernel⟩
abbrev s_need_rules : Stmt := top 19
abbrev n_need_rules : List Str := ["rules", "person", "rule", "part"]
theorem sc_need_rules : FnScope n_need_rules ["rules"] (defScope s_need_rules) := ⟨rfl, rfl, rfl, by decide +kernel, rfl, by decide +kernel, by decide +kernel⟩
abbrev s_need_notices : Stmt := top 23
abbrev n_need_notices : List Str := ["rules", "notices", "ahead", "number", "notice", "good", "person", "rank", "kind", "born"]
theorem sc_need_notices : FnScope n_need_notices ["rules", "notices"] (defScope s_need_notices) := ⟨rfl, rfl, rfl, by decide +kernel, rfl, by decide +kernel, by decide +kernel⟩
abbrev s_word_of : Stmt := top 32
abbrev n_word_of : List Str := ["part"]
theorem sc_word_of : FnScope n_word_of ["part"] (defScope s_word_of) := ⟨rfl, rfl, rfl, by decide +kernel, rfl, by decide +kernel, by decide +kernel⟩
abbrev s_written : Stmt := top 33
abbrev n_written : List Str := ["rules", "notices", "rows", "hushed", "least", "gather", "wait", "further", "notice", "row", "begin", "end", "kind", "span", "part"]
theorem sc_written : FnScope n_written ["rules", "notices"] (defScope s_written) := ⟨rfl, rfl, rfl, by decide +kernel, rfl, by decide +kernel, by decide +kernel⟩
abbrev s_Reader_init : Stmt := inClass (top 35) 0
abbrev n_Reader_init : List Str := ["self"]
theorem sc_Reader_init : FnScope n_Reader_init ["self"] (defScope s_Reader_init) := ⟨rfl, rfl, rfl, by decide +kernel, rfl, by decide +kernel, by decide +kernel⟩
abbrev s_number_of : Stmt := top 34
abbrev n_number_of : List Str := ["word", "sign"]
theorem sc_number_of : FnScope n_number_of ["word"] (defScope s_number_of) := ⟨rfl, rfl, rfl, by decide +kernel, rfl, by decide +kernel, by decide +kernel⟩
abbrev s_Reader_take : Stmt := inClass (top 35) 1
abbrev n_Reader_take : List Str := ["self", "words", "row", "numbers", "stages", "sizes", "first", "rest", "word"]
theorem sc_Reader_take : FnScope n_Reader_take ["self", "words", "row"] (defScope s_Reader_take) := ⟨rfl, rfl, rfl, by decide +kernel, rfl, by decide +kernel, by decide +kernel⟩
abbrev s_read : Stmt := top 36
abbrev n_read : List Str := ["text", "reader", "rules", "row", "line", "one"]
theorem sc_read : FnScope n_read ["text"] (defScope s_read) := ⟨rfl, rfl, rfl, by decide +kernel, rfl, by decide +kernel, by decide +kernel⟩
abbrev s_law_begun : Stmt := top 38
abbrev n_law_begun : List Str := ["_law_script", "_law_stirred", "_law_cell"]
theorem sc_law_begun : FnScope n_law_begun ["_law_script"] (defScope s_law_begun) := ⟨rfl, rfl, rfl, by decide +kernel, rfl, by decide +kernel, by decide +kernel⟩
abbrev s_law_alike : Stmt := top 40
abbrev n_law_alike : List Str := ["_law_found", "_law_due", "_law_k"]
theorem sc_law_alike : FnScope n_law_alike ["_law_found", "_law_due"] (defScope s_law_alike) := ⟨rfl, rfl, rfl, by decide +kernel, rfl, by decide +kernel, by decide +kernel⟩
abbrev s_law_take : Stmt := top 39
abbrev n_law_take : List Str := ["_law_box", "_law_many", "_law_number"]
theorem sc_law_take : FnScope n_law_take ["_law_box", "_law_many"] (defScope s_law_take) := ⟨rfl, rfl, rfl, by decide +kernel, rfl, by decide +kernel, by decide +kernel⟩
abbrev s_law_stretches : Stmt := top 41
abbrev n_law_stretches : List Str := ["_law_box", "_law_found", "_law_turn", "_law_begin"]
theorem sc_law_stretches : FnScope n_law_stretches ["_law_box"] (defScope s_law_stretches) := ⟨rfl, rfl, rfl, by decide +kernel, rfl, by decide +kernel, by decide +kernel⟩
abbrev s_law_rule : Stmt := top 42
abbrev n_law_rule : List Str := ["_law_box", "_law_many", "_law_gather", "_law_kind", "_law_wait", "_law_further"]
theorem sc_law_rule : FnScope n_law_rule ["_law_box", "_law_many"] (defScope s_law_rule) := ⟨rfl, rfl, rfl, by decide +kernel, rfl, by decide +kernel, by decide +kernel⟩
abbrev s_law_rules : Stmt := top 43
abbrev n_law_rules : List Str := ["_law_box", "_law_many", "_law_person"]
theorem sc_law_rules : FnScope n_law_rules ["_law_box"] (defScope s_law_rules) := ⟨rfl, rfl, rfl, by decide +kernel, rfl, by decide +kernel, by decide +kernel⟩
abbrev s_law_notices : Stmt := top 44
abbrev n_law_notices : List Str := ["_law_box", "_law_rules_here", "_law_most", "_law_turn", "_law_found", "_law_born", "_law_few"]
theorem sc_law_notices : FnScope n_law_notices ["_law_box", "_law_rules_here", "_law_most"] (defScope s_law_notices) := ⟨rfl, rfl, rfl, by decide +kernel, rfl, by decide +kernel, by decide +kernel⟩
abbrev s_law_text : Stmt := top 45
abbrev n_law_text : List Str := ["_law_rules_here", "_law_notices_here", "_law_rows", "_law_hushed", "_law_least", "_law_gather", "_law_wait", "_law_further", "_law_some", "_law_part", "_law_notice", "_law_begin", "_law_end", "_law_kind", "_law_span"]
theorem sc_law_text : FnScope n_law_text ["_law_rules_here", "_law_notices_here"] (defScope s_law_text) := ⟨rfl, rfl, rfl, by decide +kernel, rfl, by decide +kernel, by decide +kernel⟩
abbrev s_law : Stmt := top 46
abbrev n_law : List Str := ["_law_script", "_law_box", "_law_turn", "_law_rules_here", "_law_notices_here", "_law_again", "_law_text_here", "_law_handed", "_law_found"]
theorem sc_law : FnScope n_law ["_law_script"] (defScope s_law) := ⟨rfl, rfl, rfl, by decide +kernel, rfl, by decide +kernel, by decide +kernel⟩
/-! ### what each def means -/
def m_is_number : SM := (sRet (eAnd (eCB fIsi (aCons (eNm 0) (aCons (eC (.ty "int")) aNil))) (eAnd (eNot (eCB fIsi (aCons (eNm 0) (aCons (eC (.ty "bool")) aNil)))) (eChain fLe fLe (eNm 1) (eNm 0) (eNm 2)))))
abbrev d_is_number : Den := den 3 3 m_is_number
def m_is_stretch : SM := (sRet (eAnd (eCall d_is_number (aCons (eOp fIx (eNm 0) (eC (.int 0))) (aCons (eC (.int 0)) (aCons (eOp fSub (eC (.int 24)) (eC (.int 1))) aNil))) []) (eAnd (eCall d_is_number (aCons (eOp fIx (eNm 0) (eC (.int 1))) (aCons (eC (.int 0)) (aCons (eOp fSub (eC (.int 24)) (eC (.int 1))) aNil))) []) (eOp fNe (eOp fIx (eNm 0) (eC (.int 0))) (eOp fIx (eNm 0) (eC (.int 1)))))))
abbrev d_is_stretch : Den := den 1 1 m_is_stretch
def m_is_gathered : SM := (sRet (eAnd (eCall d_is_number (aCons (eOp fIx (eNm 0) (eC (.int 0))) (aCons (eC (.int 0)) (aCons (eC (.int 7)) aNil))) []) (eCall d_is_number (aCons (eOp fIx (eNm 0) (eC (.int 1))) (aCons (eC (.int 1)) (aCons (eC (.int 12)) aNil))) [])))
abbrev d_is_gathered : Den := den 1 1 m_is_gathered
def fns_are_pairs_is_good : Nat → Option Den
  | 1 => some d_is_stretch
  | 0 => some d_is_gathered
  | _ => none
def m_are_pairs : SM := (sSeq (sIf (bOr (bNot (bV (eCB fIsi (aCons (eNm 0) (aCons (eC (.ty "tuple")) aNil))))) (bV (eOp fGt (eCB fLen (aCons (eNm 0) aNil)) (eNm 1)))) (sRet (eC (.bl false))) sNext)
    (sRet (eCB fAll (aCons (eLc (iEv (eNm 0)) (gNm 3) bYes (eAnd (eCB fIsi (aCons (eNm 3) (aCons (eC (.ty "tuple")) aNil))) (eAnd (eOp fEq (eCB fLen (aCons (eNm 3) aNil)) (eC (.int 2))) (eCallF 2 fns_are_pairs_is_good (aCons (eNm 3) aNil)))) [3]) aNil))))
abbrev d_are_pairs : Den := den 4 3 m_are_pairs
def m_bad_part : SM := (sSeq (sIf (bOr (bNot (bV (eCB fIsi (aCons (eNm 0) (aCons (eC (.ty "tuple")) aNil))))) (bV (eOp fNe (eCB fLen (aCons (eNm 0) aNil)) (eC (.int 5))))) (sRet (eUn fNeg (eC (.int 1)))) sNext)
    (sSeq (sAsg (gT 5 (gsCons (gNm 4) (gsCons (gNm 5) (gsCons (gNm 6) (gsCons (gNm 7) (gsCons (gNm 8) gsNil)))))) (eNm 0))
    (sSeq (sSet 2 (eV (eD (eIf (bV (eCall d_are_pairs (aCons (eNm 6) (aCons (eC (.int 4)) (aCons (eC (.fn 0)) aNil))) [])) (eLc (iEv (eNm 6)) (gNm 9) bYes (eOp fIx (eNm 9) (eC (.int 0))) [9]) (eLst (aCons (eC (.int 1)) (aCons (eC (.int 0)) aNil)))))))
    (sSeq (sSet 3 (eLst (aCons (eCall d_are_pairs (aCons (eNm 4) (aCons (eC (.int 3)) (aCons (eC (.fn 1)) aNil))) []) (aCons (eCall d_is_number (aCons (eNm 5) (aCons (eC (.int 0)) (aCons (eOp fAdd (eC (.int 3)) (eC (.int 1))) aNil))) []) aNil))))
    (sSeq (sExtO 3 (eLst (aCons (eOp fEq (eNm 2) (eSortSet (eNm 2))) (aCons (eOr (eOp fIsN (eNm 7) (eC .non)) (eCall d_is_number (aCons (eNm 7) (aCons (eC (.int 1)) (aCons (eC (.int 24)) aNil))) [])) aNil))))
    (sSeq (sAppO 3 (eOr (eOp fIsN (eNm 8) (eC .non)) (eCall d_is_number (aCons (eNm 8) (aCons (eC (.int 0)) (aCons (eOp fSub (eNm 1) (eC (.int 1))) aNil))) [])))
    (sFrz 3 (sRet (eIf (bV (eOp (fIn false) (eC (.bl false)) (eNm 3))) (eBM isLstD mIdx (eNm 3) (aCons (eC (.bl false)) aNil)) (eC .non))))))))))
abbrev d_bad_part : Den := den 10 2 m_bad_part
def m_need_rules_1 : SM := (sSeq (sSet 3 (eCall d_bad_part (aCons (eNm 2) (aCons (eCB fLen (aCons (eNm 0) aNil)) aNil)) []))
    (sIf (bOr (bV (eOp fGe (eNm 1) (eC (.int 6)))) (bV (eOp fNotN (eNm 3) (eC .non)))) sNever sNext))
def m_need_rules : SM := (sSeq (sIf (bOr (bNot (bV (eCB fIsi (aCons (eNm 0) (aCons (eC (.ty "tuple")) aNil))))) (bV (eOp fEq (eNm 0) (eTup aNil)))) sNever sNext)
    (sFor (iEnS (aCons (eNm 0) aNil)) (gT 2 (gsCons (gNm 1) (gsCons (gNm 2) gsNil))) (m_need_rules_1)))
abbrev d_need_rules : Den := den 4 1 m_need_rules
def m_need_notices_1 : SM := (sSeq (sIf (bOr (bV (eOp fGe (eNm 3) (eC (.int 30)))) (bOr (bNot (bV (eCB fIsi (aCons (eNm 4) (aCons (eC (.ty "tuple")) aNil))))) (bV (eOp fNe (eCB fLen (aCons (eNm 4) aNil)) (eC (.int 4)))))) sNever sNext)
    (sSeq (sAsg (gT 4 (gsCons (gNm 6) (gsCons (gNm 7) (gsCons (gNm 8) (gsCons (gNm 9) gsNil))))) (eNm 4))
    (sSeq (sSet 5 (eAnd (eCall d_is_number (aCons (eNm 6) (aCons (eC (.int 0)) (aCons (eOp fSub (eCB fLen (aCons (eNm 0) aNil)) (eC (.int 1))) aNil))) []) (eCall d_is_number (aCons (eNm 7) (aCons (eC (.int 0)) (aCons (eC (.int 3)) aNil))) [])))
    (sSeq (sIf (bOr (bNot (bV (eNm 5))) (bOr (bNot (bV (eCall d_is_number (aCons (eNm 8) (aCons (eC (.int 0)) (aCons (eC (.int 7)) aNil))) []))) (bNot (bV (eCall d_is_number (aCons (eNm 9) (aCons (eNm 2) (aCons (eC (.int 300)) aNil))) []))))) sNever sNext)
    (sSet 2 (eNm 9))))))
def m_need_notices : SM := (sSeq (sSet 2 (eC (.int 0)))
    (sForC (iC (eNm 1)) mkE (gT 2 (gsCons (gNm 3) (gsCons (gNm 4) gsNil))) (m_need_notices_1)))
abbrev d_need_notices : Den := den 10 2 m_need_notices
def m_word_of : SM := (sRet (eIf (bV (eOp fIsN (eNm 0) (eC .non))) (eC (.str "-")) (eCB fStr (aCons (eNm 0) aNil))))
abbrev d_word_of : Den := den 1 1 m_word_of
def m_written_1 : SM := (sSeq (sAppO 2 (eLst (aCons (eC (.str "person")) (aCons (eNm 4) (aCons (eNm 6) (aCons (eNm 7) aNil))))))
    (sSeq (sExtO 2 (eLc (iEv (eNm 3)) (gT 2 (gsCons (gNm 10) (gsCons (gNm 11) gsNil))) bYes (eLst (aCons (eC (.str "hush")) (aCons (eNm 10) (aCons (eNm 11) aNil)))) [10, 11]))
    (sExtO 2 (eLc (iEv (eNm 5)) (gT 2 (gsCons (gNm 12) (gsCons (gNm 13) gsNil))) bYes (eLst (aCons (eC (.str "gather")) (aCons (eNm 12) (aCons (eNm 13) aNil)))) [12, 13]))))
def m_written : SM := (sSeq (sExpr (eCall d_need_rules (aCons (eNm 0) aNil) []))
    (sSeq (sExpr (eCall d_need_notices (aCons (eNm 0) (aCons (eNm 1) aNil)) []))
    (sSeq (sSet 2 (eLst aNil))
    (sSeq (sFor (iEv (eNm 0)) (gT 5 (gsCons (gNm 3) (gsCons (gNm 4) (gsCons (gNm 5) (gsCons (gNm 6) (gsCons (gNm 7) gsNil)))))) (m_written_1))
    (sSeq (sExtO 2 (eLcC (iC (eNm 1)) mkI (gNm 8) bYes (eOp fAdd (eLst (aCons (eC (.str "notice")) aNil)) (eCB fList (aCons (eNm 8) aNil))) [8]))
    (sFrz 2 (sRet (eBM isStrD mJoin (eC (.str "\n")) (aCons (eLc (iEv (eNm 2)) (gNm 9) bYes (eBM isStrD mJoin (eC (.str " ")) (aCons (eOp fAdd (eLst (aCons (eOp fIx (eNm 9) (eC (.int 0))) aNil)) (eLc (iEv (eSl (eNm 9) (oPart (eC (.int 1))) oNo)) (gNm 14) bYes (eCall d_word_of (aCons (eNm 14) aNil) []) [14])) aNil)) [9]) aNil)))))))))
abbrev d_written : Den := den 15 2 m_written
def m_Reader_init : SM := (sSeq (sFldS 0 "found" (eNm 0) (eBox (eLst aNil)))
    (sSeq (sFldS 0 "notices" (eNm 0) (eBox (eLst aNil)))
    (sFldS 0 "stage" (eNm 0) (eC (.int 0)))))
abbrev d_Reader_init : Den := den 1 1 m_Reader_init
def m_number_of : SM := (sSeq (sIf (bOr (bNot (bV (eChain fLe fLe (eC (.int 1)) (eCB fLen (aCons (eNm 0) aNil)) (eC (.int 3))))) (bNot (bV (eCB fAll (aCons (eLc (iSt (eNm 0)) (gNm 1) bYes (eOp (fInS false) (eNm 1) (eC (.str "0123456789"))) [1]) aNil))))) (sRet (eUn fNeg (eC (.int 1)))) sNext)
    (sRet (eIf (bOr (bV (eOp fEq (eNm 0) (eC (.str "0")))) (bV (eOp fNe (eOp fIx (eNm 0) (eC (.int 0))) (eC (.str "0"))))) (eCB fInt (aCons (eNm 0) aNil)) (eUn fNeg (eC (.int 1))))))
abbrev d_number_of : Den := den 2 1 m_number_of
def m_Reader_take : SM := (sSeq (sStar 6 7 (eNm 1))
    (sSeq (sSet 3 (eV (eD (eLc (iEv (eNm 7)) (gNm 8) bYes (eIf (bV (eOp fEq (eNm 8) (eC (.str "-")))) (eC .non) (eCall d_number_of (aCons (eNm 8) aNil) [])) [8]))))
    (sSeq (sSet 4 (eDisp (((eC (.str "person")), (eC (.int 0))) :: ((eC (.str "hush")), (eC (.int 1))) :: ((eC (.str "gather")), (eC (.int 2))) :: ((eC (.str "notice")), (eC (.int 3))) :: [])))
    (sSeq (sSet 5 (eDisp (((eC (.str "person")), (eC (.int 3))) :: ((eC (.str "hush")), (eC (.int 2))) :: ((eC (.str "gather")), (eC (.int 2))) :: ((eC (.str "notice")), (eC (.int 4))) :: [])))
    (sSeq (sIf (bOr (bV (oDIn true (eNm 6) 4)) (bOr (bV (eOp fNe (eCB fLen (aCons (eNm 7) aNil)) (oDGet 5 (eNm 6)))) (bOr (bV (eOp (fIn false) (eUn fNeg (eC (.int 1))) (eNm 3))) (bV (eOp (fIn false) (eC .non) (eSl (eNm 3) oNo (oPart (eC (.int 1))))))))) sNever sNext)
    (sSeq (sIf (bAnd (bV (eOp fNe (eNm 6) (eC (.str "person")))) (bOr (bV (eOp (fIn false) (eC .non) (eNm 3))) (bOr (bV (eOp fEq (eFld 0 "found" (eNm 0)) (eBox (eLst aNil)))) (bV (eOp fLt (oDGet 4 (eNm 6)) (eFld 0 "stage" (eNm 0))))))) sNever sNext)
    (sSeq (sIf (bAnd (bV (eOp fEq (eNm 6) (eC (.str "person")))) (bV (eOp fEq (eFld 0 "stage" (eNm 0)) (eC (.int 3))))) sNever sNext)
    (sSeq (sFldS 0 "stage" (eNm 0) (oDGet 4 (eNm 6)))
    (sIf (bV (eOp fEq (eNm 6) (eC (.str "person")))) (sExpr (eBM isLstD mApp (eFld 0 "found" (eNm 0)) (aCons (eLst (aCons (eBox (eLst aNil)) (aCons (eOp fIx (eNm 3) (eC (.int 0))) (aCons (eBox (eLst aNil)) (aCons (eOp fIx (eNm 3) (eC (.int 1))) (aCons (eOp fIx (eNm 3) (eC (.int 2))) aNil)))))) aNil))) (sIf (bV (eOp fEq (eNm 6) (eC (.str "notice")))) (sExpr (eBM isLstD mApp (eFld 0 "notices" (eNm 0)) (aCons (eCB fTuple (aCons (eNm 3) aNil)) aNil))) (sExpr (eBM isLstD mApp (eOp fIx (eOp fIx (eFld 0 "found" (eNm 0)) (eUn fNeg (eC (.int 1)))) (eIf (bV (eOp fEq (eNm 6) (eC (.str "hush")))) (eC (.int 0)) (eC (.int 2)))) (aCons (eCB fTuple (aCons (eNm 3) aNil)) aNil)))))))))))))
abbrev d_Reader_take : Den := den 9 3 m_Reader_take
def m_read_1 : SM := (sExpr (eMeth 0 "take" d_Reader_take (eNm 1) (aCons (eBM isStrD mSplit (eNm 4) (aCons (eC (.str " ")) aNil)) (aCons (eNm 3) aNil)) []))
def m_read : SM := (sSeq (sSet 1 (eMake 0 d_Reader_init aNil []))
    (sSeq (sFor (iEnS (aCons (eBM isStrD mSplit (eNm 0) (aCons (eC (.str "\n")) aNil)) aNil)) (gT 2 (gsCons (gNm 3) (gsCons (gNm 4) gsNil))) (m_read_1))
    (sSeq (sSet 2 (eCB fTuple (aCons (eLcC (iC (eFld 0 "found" (eNm 1))) mkI (gNm 5) bYes (eTup (aCons (eCB fTuple (aCons (eOp fIx (eNm 5) (eC (.int 0))) aNil)) (aCons (eOp fIx (eNm 5) (eC (.int 1))) (aCons (eCB fTuple (aCons (eOp fIx (eNm 5) (eC (.int 2))) aNil)) (aCons (eOp fIx (eNm 5) (eC (.int 3))) (aCons (eOp fIx (eNm 5) (eC (.int 4))) aNil)))))) [5]) aNil)))
    (sSeq (sExpr (eCall d_need_rules (aCons (eNm 2) aNil) []))
    (sSeq (sExpr (eCall d_need_notices (aCons (eNm 2) (aCons (eFld 0 "notices" (eNm 1)) aNil)) []))
    (sRet (eTup (aCons (eNm 2) (aCons (eFld 0 "notices" (eNm 1)) aNil)))))))))
abbrev d_read : Den := den 6 1 m_read
def m_law_begun_1 : SM := (sSet 1 (eOp fMod (eOp fAdd (eOp fAdd (eOp fMul (eNm 1) (eC (.int 48271))) (eOp fMul (eNm 2) (eC (.int 69621)))) (eC (.int 11))) (eC (.int 2147483647))))
def m_law_begun : SM := (sSeq (sSet 1 (eC (.int 0)))
    (sSeq (sFor (iEv (eNm 0)) (gNm 2) (m_law_begun_1))
    (sRet (eLst (aCons (eBox (eCB fList (aCons (eNm 0) aNil))) (aCons (eOp fMul (eNm 1) (eCB fInt (aCons (eOp fGt (eCB fLen (aCons (eNm 0) aNil)) (eC (.int 2))) aNil))) aNil))))))
abbrev d_law_begun : Den := den 3 1 m_law_begun
def m_law_alike_1 (fr : Den) : SM := (sIf (bNot (bV (eCall fr (aCons (eOp fIx (eNm 0) (eNm 2)) (aCons (eOp fIx (eNm 1) (eNm 2)) aNil)) []))) (sRet (eC (.bl false))) sNext)
def m_law_alike (fr : Den) : SM := (sSeq (sIf (bV (eOp fIsN (eNm 1) (eC .non))) (sRet (eOp fIsN (eNm 0) (eC .non))) sNext)
    (sSeq (sIf (bV (eCB fIsi (aCons (eNm 1) (aCons (eC (.ty "bool")) aNil)))) (sRet (eAnd (eCB fIsi (aCons (eNm 0) (aCons (eC (.ty "bool")) aNil))) (eOp fEq (eNm 0) (eNm 1)))) sNext)
    (sSeq (sIf (bV (eCB fIsi (aCons (eNm 1) (aCons (eC (.ty "int")) aNil)))) (sRet (eAnd (eCB fIsi (aCons (eNm 0) (aCons (eC (.ty "int")) aNil))) (eAnd (eNot (eCB fIsi (aCons (eNm 0) (aCons (eC (.ty "bool")) aNil)))) (eOp fEq (eNm 0) (eNm 1))))) sNext)
    (sSeq (sIf (bV (eCB fIsi (aCons (eNm 1) (aCons (eC (.ty "str")) aNil)))) (sRet (eAnd (eCB fIsi (aCons (eNm 0) (aCons (eC (.ty "str")) aNil))) (eOp fEq (eNm 0) (eNm 1)))) sNext)
    (sSeq (sIf (bOr (bV (eOp fNe (eCB fIsi (aCons (eNm 1) (aCons (eC (.ty "tuple")) aNil))) (eCB fIsi (aCons (eNm 0) (aCons (eC (.ty "tuple")) aNil))))) (bV (eOp fNe (eCB fIsi (aCons (eNm 1) (aCons (eC (.ty "list")) aNil))) (eCB fIsi (aCons (eNm 0) (aCons (eC (.ty "list")) aNil)))))) (sRet (eC (.bl false))) sNext)
    (sSeq (sIf (bV (eOp fNe (eCB fLen (aCons (eNm 0) aNil)) (eCB fLen (aCons (eNm 1) aNil)))) (sRet (eC (.bl false))) sNext)
    (sSeq (sFor (iR1 (aCons (eCB fLen (aCons (eNm 1) aNil)) aNil)) (gNm 2) (m_law_alike_1 fr))
    (sRet (eC (.bl true))))))))))
def dr_law_alike : Nat → Den
  | 0 => fun _ _ => none
  | n + 1 => den 3 2 (m_law_alike (dr_law_alike n))
abbrev d_law_alike : Den := dr_law_alike 8
def m_law_take : SM := (sSeq (sIf (bV (eOp fEq (eOp fIx (eNm 0) (eC (.int 0))) (eLst aNil))) (sSeq (sSetIx (eNm 0) (eC (.int 1)) (eOp fMod (eOp fMul (eOp fIx (eNm 0) (eC (.int 1))) (eC (.int 48271))) (eC (.int 2147483647))))
    (sRet (eOp fMod (eOp fDiv (eOp fIx (eNm 0) (eC (.int 1))) (eC (.int 7))) (eNm 1)))) sNext)
    (sSeq (sSet 2 (eOp fIx (eOp fIx (eNm 0) (eC (.int 0))) (eC (.int 0))))
    (sSeq (sSetIx (eOp fIx (eNm 0) (eC (.int 0))) (eC (.int 0)) (eOp fDiv (eNm 2) (eNm 1)))
    (sSeq (sIf (bOr (bV (eOp fEq (eOp fIx (eOp fIx (eNm 0) (eC (.int 0))) (eC (.int 0))) (eC (.int 0)))) (bV (eOp fEq (eOp fIx (eOp fIx (eNm 0) (eC (.int 0))) (eC (.int 0))) (eUn fNeg (eC (.int 1)))))) (sExpr (eBM isLstD mPopAt (eOp fIx (eNm 0) (eC (.int 0))) (aCons (eC (.int 0)) aNil))) sNext)
    (sRet (eOp fMod (eNm 2) (eNm 1)))))))
abbrev d_law_take : Den := den 3 2 m_law_take
def m_law_stretches_1 : SM := (sSeq (sSet 3 (eCall d_law_take (aCons (eNm 0) (aCons (eC (.int 24)) aNil)) []))
    (sAppO 1 (eTup (aCons (eNm 3) (aCons (eOp fMod (eOp fAdd (eOp fAdd (eNm 3) (eC (.int 1))) (eCall d_law_take (aCons (eNm 0) (aCons (eOp fIx (eLst (aCons (eC (.int 23)) (aCons (eC (.int 9)) aNil))) (eCall d_law_take (aCons (eNm 0) (aCons (eC (.int 2)) aNil)) [])) aNil)) [])) (eC (.int 24))) aNil)))))
def m_law_stretches : SM := (sSeq (sSet 1 (eLst aNil))
    (sSeq (sFor (iR1 (aCons (eCall d_law_take (aCons (eNm 0) (aCons (eC (.int 4)) aNil)) []) aNil)) (gNm 2) (m_law_stretches_1))
    (sFrz 1 (sRet (eCB fTuple (aCons (eNm 1) aNil))))))
abbrev d_law_stretches : Den := den 4 1 m_law_stretches
def m_law_rule_1 : SM := (sIf (bAnd (bV (eOp fLt (oLen 2) (eC (.int 4)))) (bV (eOp fEq (eCall d_law_take (aCons (eNm 0) (aCons (eC (.int 3)) aNil)) []) (eC (.int 0))))) (sAppO 2 (eTup (aCons (eNm 3) (aCons (eOp fAdd (eC (.int 1)) (eCall d_law_take (aCons (eNm 0) (aCons (eOp fIx (eLst (aCons (eC (.int 3)) (aCons (eC (.int 12)) aNil))) (eCall d_law_take (aCons (eNm 0) (aCons (eC (.int 2)) aNil)) [])) aNil)) [])) aNil)))) sNext)
def m_law_rule : SM := (sSeq (sSet 2 (eLst aNil))
    (sSeq (sFor (iR1 (aCons (eC (.int 8)) aNil)) (gNm 3) (m_law_rule_1))
    (sSeq (sSet 4 (eOp fIx (eLst (aCons (eC .non) (aCons (eOp fAdd (eC (.int 1)) (eCall d_law_take (aCons (eNm 0) (aCons (eOp fIx (eLst (aCons (eC (.int 6)) (aCons (eC (.int 24)) aNil))) (eCall d_law_take (aCons (eNm 0) (aCons (eC (.int 2)) aNil)) [])) aNil)) [])) (aCons (eC (.int 2)) aNil)))) (eCall d_law_take (aCons (eNm 0) (aCons (eC (.int 3)) aNil)) [])))
    (sSeq (sSet 5 (eOp fIx (eLst (aCons (eC .non) (aCons (eCall d_law_take (aCons (eNm 0) (aCons (eNm 1) aNil)) []) (aCons (eCall d_law_take (aCons (eNm 0) (aCons (eNm 1) aNil)) []) aNil)))) (eCall d_law_take (aCons (eNm 0) (aCons (eC (.int 3)) aNil)) [])))
    (sFrz 2 (sRet (eTup (aCons (eCall d_law_stretches (aCons (eNm 0) aNil) []) (aCons (eCall d_law_take (aCons (eNm 0) (aCons (eC (.int 5)) aNil)) []) (aCons (eCB fTuple (aCons (eNm 2) aNil)) (aCons (eNm 4) (aCons (eNm 5) aNil))))))))))))
abbrev d_law_rule : Den := den 6 2 m_law_rule
def m_law_rules : SM := (sSeq (sSet 1 (eOp fAdd (eC (.int 1)) (eCall d_law_take (aCons (eNm 0) (aCons (eC (.int 6)) aNil)) [])))
    (sRet (eCB fTuple (aCons (eLc (iR1 (aCons (eNm 1) aNil)) (gNm 2) bYes (eCall d_law_rule (aCons (eNm 0) (aCons (eNm 1) aNil)) []) [2]) aNil))))
abbrev d_law_rules : Den := den 3 1 m_law_rules
def m_law_notices_1 : SM := (sSeq (sSet 5 (eCB fMin (aCons (eC (.int 300)) (aCons (eOp fAdd (eNm 5) (eCall d_law_take (aCons (eNm 0) (aCons (eOp fIx (eLst (aCons (eC (.int 2)) (aCons (eC (.int 9)) (aCons (eC (.int 40)) aNil)))) (eCall d_law_take (aCons (eNm 0) (aCons (eC (.int 3)) aNil)) [])) aNil)) [])) aNil))))
    (sAppO 4 (eTup (aCons (eCall d_law_take (aCons (eNm 0) (aCons (eCB fLen (aCons (eNm 1) aNil)) aNil)) []) (aCons (eCall d_law_take (aCons (eNm 0) (aCons (eC (.int 4)) aNil)) []) (aCons (eCall d_law_take (aCons (eNm 0) (aCons (eNm 6) aNil)) []) (aCons (eNm 5) aNil)))))))
def m_law_notices : SM := (sSeq (sPar3 4 5 6 (eLst aNil) (eCall d_law_take (aCons (eNm 0) (aCons (eC (.int 40)) aNil)) []) (eOp fIx (eLst (aCons (eC (.int 2)) (aCons (eC (.int 8)) aNil))) (eCall d_law_take (aCons (eNm 0) (aCons (eC (.int 2)) aNil)) [])))
    (sSeq (sFor (iR1 (aCons (eCall d_law_take (aCons (eNm 0) (aCons (eOp fAdd (eNm 2) (eC (.int 1))) aNil)) []) aNil)) (gNm 3) (m_law_notices_1))
    (sRetO 4)))
abbrev d_law_notices : Den := den 7 3 m_law_notices
def m_law_text_1 : SM := (sSeq (sSet 8 (eV (eD (eLc (iEv (eTup (aCons (eNm 6) (aCons (eNm 7) aNil)))) (gNm 9) bYes (eIf (bV (eOp fIsN (eNm 9) (eC .non))) (eC (.str "-")) (eCB fStr (aCons (eNm 9) aNil))) [9]))))
    (sSeq (sAppO 2 (eOp fAdd (eOp fAdd (eOp fAdd (eOp fAdd (eOp fAdd (eC (.str "person ")) (eCB fStr (aCons (eNm 4) aNil))) (eC (.str " "))) (eOp fIx (eNm 8) (eC (.int 0)))) (eC (.str " "))) (eOp fIx (eNm 8) (eC (.int 1)))))
    (sSeq (sFrz 2 (sSet 2 (eOp fAdd (eNm 2) (eLc (iEv (eNm 3)) (gT 2 (gsCons (gNm 11) (gsCons (gNm 12) gsNil))) bYes (eOp fAdd (eOp fAdd (eOp fAdd (eC (.str "hush ")) (eCB fStr (aCons (eNm 11) aNil))) (eC (.str " "))) (eCB fStr (aCons (eNm 12) aNil))) [11, 12]))))
    (sFrz 2 (sSet 2 (eOp fAdd (eNm 2) (eLc (iEv (eNm 5)) (gT 2 (gsCons (gNm 13) (gsCons (gNm 14) gsNil))) bYes (eOp fAdd (eOp fAdd (eOp fAdd (eC (.str "gather ")) (eCB fStr (aCons (eNm 13) aNil))) (eC (.str " "))) (eCB fStr (aCons (eNm 14) aNil))) [13, 14])))))))
def m_law_text : SM := (sSeq (sSet 2 (eLst aNil))
    (sSeq (sFor (iEv (eNm 0)) (gT 5 (gsCons (gNm 3) (gsCons (gNm 4) (gsCons (gNm 5) (gsCons (gNm 6) (gsCons (gNm 7) gsNil)))))) (m_law_text_1))
    (sSeq (sFrz 2 (sSet 2 (eOp fAdd (eNm 2) (eLc (iEv (eNm 1)) (gNm 10) bYes (eOp fAdd (eC (.str "notice ")) (eBM isStrD mJoin (eC (.str " ")) (aCons (eLc (iEv (eNm 10)) (gNm 9) bYes (eCB fStr (aCons (eNm 9) aNil)) [9]) aNil))) [10]))))
    (sFrz 2 (sRet (eBM isStrD mJoin (eC (.str "\n")) (aCons (eNm 2) aNil)))))))
abbrev d_law_text : Den := den 15 2 m_law_text
def m_law_1 : SM := (sSeq (sSet 8 (eCall d_read (aCons (eNm 6) aNil) []))
    (sSeq (sIf (bOr (bNot (bV (eCall d_law_alike (aCons (eCall d_written (aCons (eNm 3) (aCons (eNm 7) aNil)) []) (aCons (eNm 6) aNil)) []))) (bV (eOp fNe (eNm 7) (eNm 4)))) (sRet (eC (.bl false))) sNext)
    (sSeq (sIf (bNot (bV (eCall d_law_alike (aCons (eNm 8) (aCons (eTup (aCons (eNm 3) (aCons (eNm 4) aNil))) aNil)) []))) (sRet (eC (.bl false))) sNext)
    (sExpr (eBM isLstD mApp (eOp fIx (eNm 8) (eC (.int 1))) (aCons (eC (.int 0)) aNil))))))
def m_law_2 : SM := (sSeq (sSet 3 (eCall d_law_rules (aCons (eNm 1) aNil) []))
    (sSeq (sSet 4 (eV (eD (eCall d_law_notices (aCons (eNm 1) (aCons (eNm 3) (aCons (eC (.int 9)) aNil))) []))))
    (sSeq (sPar 6 7 (eCall d_law_text (aCons (eNm 3) (aCons (eNm 4) aNil)) []) (eBox (eCB fList (aCons (eNm 4) aNil))))
    (sFor (iR1 (aCons (eC (.int 2)) aNil)) (gNm 5) (m_law_1)))))
def m_law : SM := (sSeq (sSet 1 (eBox (eCall d_law_begun (aCons (eNm 0) aNil) [])))
    (sSeq (sFor (iR1 (aCons (eC (.int 5)) aNil)) (gNm 2) (m_law_2))
    (sRet (eC (.bl true)))))
abbrev d_law : Den := den 9 1 m_law
end Wk
namespace Wk
open PySem L2 Yi
theorem is_number_ok (i lo hi : Int) (S : Sto) : d_is_number [.int i, .int lo, .int hi] S = some (.d (.bl (decide (lo ≤ i) && decide (i ≤ hi))), S) := by
  refine ok.get (den_ok rfl ?_)
  simp [m_is_number, sNext, sIf, sBreak, sCont, sNever, sExpr, sRet, sRetO, sRetN, sSet, sAsg, gNm, gsNil, gsCons, gT, eD, eV, eBox, eNm, eC, eOp, eUn, aNil, aCons, eTup, eLst, eCB, bV, bAnd, bOr, bNot, eAnd, eOr, eNot, eIf, eChain, eCall, eFld, sFldS, sFldA, eMeth, eMake, bYes, fSub, fLt, fLe, fGt, fGe, fDiv, fMod, fPow, fNeg, fAdd, fMul, fIsN, fNotN, Yi.isNon, fEq, fNe, fIn, fInS, fIx, intR, oNo, oPart, fSl, eSl, eRev, sAppO, sExtO, sAug, oIx, oIn, oEq, sPar, sPar3, sSetIx, eDGet, eDIn, eDGet2, sDPutS, eDPop1, eDPop2, eDNewK, eDNewT, oDGet, oDIn, eBM, mApp, mExt, mPopAt, mIdx, cellL, iEv, iR1, iR2, iC, fLen, oLen, fMax, fMin, fAll, fAny, fSum, fSortI, fList, fTuple, fInt, fStr, fIsi, tyD, isLstD, isStrD, isDD, lstD, seqD, stD, eCallF, nAt, iSt, mJoin, mSplit, fAddI, sStar, iEnS, eSortSet, fSet, eLenSet, insAt, lkp, putD, ok_some, ok_none, ok_bind, ok_map, eq_int, eq_bl, sAsg, kb_NoneType_int, kb_NoneType_bool, kb_NoneType_str, kb_NoneType_tuple, kb_NoneType_list, kb_bool_int, kb_bool_bool, kb_bool_str, kb_bool_tuple, kb_bool_list, kb_int_int, kb_int_bool, kb_int_str, kb_int_tuple, kb_int_list, kb_str_int, kb_str_bool, kb_str_str, kb_str_tuple, kb_str_list, kb_tuple_int, kb_tuple_bool, kb_tuple_str, kb_tuple_tuple, kb_tuple_list, kb_list_int, kb_list_bool, kb_list_str, kb_list_tuple, kb_list_list, sz_0, sz_1, sz_2, sz_3, sz_4, sz_5, sz_6, sz_7, sz_8, sz_9, sz_10, sz_11, sz_12, sz_13, sz_14, sz_15, sz_16, ix_1_0, ix_2_0, ix_2_1, ix_3_0, ix_3_1, ix_3_2, ix_4_0, ix_4_1, ix_4_2, ix_4_3, ix_5_0, ix_5_1, ix_5_2, ix_5_3, ix_5_4, ix_6_0, ix_6_1, ix_6_2, ix_6_3, ix_6_4, ix_6_5, ix_7_0, ix_7_1, ix_7_2, ix_7_3, ix_7_4, ix_7_5, ix_7_6, sI_0, sI_1, sI_48271, sI_69621]
  by_cases h : lo ≤ i <;> simp [h, sNext, sIf, sBreak, sCont, sNever, sExpr, sRet, sRetO, sRetN, sSet, sAsg, gNm, gsNil, gsCons, gT, eD, eV, eBox, eNm, eC, eOp, eUn, aNil, aCons, eTup, eLst, eCB, bV, bAnd, bOr, bNot, eAnd, eOr, eNot, eIf, eChain, eCall, eFld, sFldS, sFldA, eMeth, eMake, bYes, fSub, fLt, fLe, fGt, fGe, fDiv, fMod, fPow, fNeg, fAdd, fMul, fIsN, fNotN, Yi.isNon, fEq, fNe, fIn, fInS, fIx, intR, oNo, oPart, fSl, eSl, eRev, sAppO, sExtO, sAug, oIx, oIn, oEq, sPar, sPar3, sSetIx, eDGet, eDIn, eDGet2, sDPutS, eDPop1, eDPop2, eDNewK, eDNewT, oDGet, oDIn, eBM, mApp, mExt, mPopAt, mIdx, cellL, iEv, iR1, iR2, iC, fLen, oLen, fMax, fMin, fAll, fAny, fSum, fSortI, fList, fTuple, fInt, fStr, fIsi, tyD, isLstD, isStrD, isDD, lstD, seqD, stD, eCallF, nAt, iSt, mJoin, mSplit, fAddI, sStar, iEnS, eSortSet, fSet, eLenSet, insAt, lkp, putD, ok_some, ok_none, ok_bind, ok_map, eq_int, eq_bl, sAsg, kb_NoneType_int, kb_NoneType_bool, kb_NoneType_str, kb_NoneType_tuple, kb_NoneType_list, kb_bool_int, kb_bool_bool, kb_bool_str, kb_bool_tuple, kb_bool_list, kb_int_int, kb_int_bool, kb_int_str, kb_int_tuple, kb_int_list, kb_str_int, kb_str_bool, kb_str_str, kb_str_tuple, kb_str_list, kb_tuple_int, kb_tuple_bool, kb_tuple_str, kb_tuple_tuple, kb_tuple_list, kb_list_int, kb_list_bool, kb_list_str, kb_list_tuple, kb_list_list, sz_0, sz_1, sz_2, sz_3, sz_4, sz_5, sz_6, sz_7, sz_8, sz_9, sz_10, sz_11, sz_12, sz_13, sz_14, sz_15, sz_16, ix_1_0, ix_2_0, ix_2_1, ix_3_0, ix_3_1, ix_3_2, ix_4_0, ix_4_1, ix_4_2, ix_4_3, ix_5_0, ix_5_1, ix_5_2, ix_5_3, ix_5_4, ix_6_0, ix_6_1, ix_6_2, ix_6_3, ix_6_4, ix_6_5, ix_7_0, ix_7_1, ix_7_2, ix_7_3, ix_7_4, ix_7_5, ix_7_6, sI_0, sI_1, sI_48271, sI_69621]
theorem is_number_non (lo hi : Int) (S : Sto) : d_is_number [.non, .int lo, .int hi] S = some (.d (.bl false), S) := by
  refine ok.get (den_ok rfl ?_)
  simp [m_is_number, sNext, sIf, sBreak, sCont, sNever, sExpr, sRet, sRetO, sRetN, sSet, sAsg, gNm, gsNil, gsCons, gT, eD, eV, eBox, eNm, eC, eOp, eUn, aNil, aCons, eTup, eLst, eCB, bV, bAnd, bOr, bNot, eAnd, eOr, eNot, eIf, eChain, eCall, eFld, sFldS, sFldA, eMeth, eMake, bYes, fSub, fLt, fLe, fGt, fGe, fDiv, fMod, fPow, fNeg, fAdd, fMul, fIsN, fNotN, Yi.isNon, fEq, fNe, fIn, fInS, fIx, intR, oNo, oPart, fSl, eSl, eRev, sAppO, sExtO, sAug, oIx, oIn, oEq, sPar, sPar3, sSetIx, eDGet, eDIn, eDGet2, sDPutS, eDPop1, eDPop2, eDNewK, eDNewT, oDGet, oDIn, eBM, mApp, mExt, mPopAt, mIdx, cellL, iEv, iR1, iR2, iC, fLen, oLen, fMax, fMin, fAll, fAny, fSum, fSortI, fList, fTuple, fInt, fStr, fIsi, tyD, isLstD, isStrD, isDD, lstD, seqD, stD, eCallF, nAt, iSt, mJoin, mSplit, fAddI, sStar, iEnS, eSortSet, fSet, eLenSet, insAt, lkp, putD, ok_some, ok_none, ok_bind, ok_map, eq_int, eq_bl, sAsg, kb_NoneType_int, kb_NoneType_bool, kb_NoneType_str, kb_NoneType_tuple, kb_NoneType_list, kb_bool_int, kb_bool_bool, kb_bool_str, kb_bool_tuple, kb_bool_list, kb_int_int, kb_int_bool, kb_int_str, kb_int_tuple, kb_int_list, kb_str_int, kb_str_bool, kb_str_str, kb_str_tuple, kb_str_list, kb_tuple_int, kb_tuple_bool, kb_tuple_str, kb_tuple_tuple, kb_tuple_list, kb_list_int, kb_list_bool, kb_list_str, kb_list_tuple, kb_list_list, sz_0, sz_1, sz_2, sz_3, sz_4, sz_5, sz_6, sz_7, sz_8, sz_9, sz_10, sz_11, sz_12, sz_13, sz_14, sz_15, sz_16, ix_1_0, ix_2_0, ix_2_1, ix_3_0, ix_3_1, ix_3_2, ix_4_0, ix_4_1, ix_4_2, ix_4_3, ix_5_0, ix_5_1, ix_5_2, ix_5_3, ix_5_4, ix_6_0, ix_6_1, ix_6_2, ix_6_3, ix_6_4, ix_6_5, ix_7_0, ix_7_1, ix_7_2, ix_7_3, ix_7_4, ix_7_5, ix_7_6, sI_0, sI_1, sI_48271, sI_69621]
/-- the drawer: cells 0 and 1 -/
def Box (S : Sto) : Prop := ∃ (ns : List Int) (z : Int), S[0]? = some (.lst (ns.map .int)) ∧ S[1]? = some (.lst [.ref 0, .int z])
def Kp (S S' : Sto) : Prop := S.length ≤ S'.length ∧ ∀ n, 2 ≤ n → n < S.length → S'[n]? = S[n]?
theorem Kp.refl (S : Sto) : Kp S S := ⟨Nat.le_refl _, fun _ _ _ => rfl⟩
theorem Kp.trans {S S' S'' : Sto} (a : Kp S S') (b : Kp S' S'') : Kp S S'' := ⟨Nat.le_trans a.1 b.1, fun n h1 h2 => (b.2 n h1 (Nat.lt_of_lt_of_le h2 a.1)).trans (a.2 n h1 h2)⟩
theorem eD_some {m : EM} {ρ : Slt} {S S' : Sto} {x : D} (h : m ρ S = some (.d x, S')) : eD m ρ S = some (x, S') := by unfold eD; rw [h]; rfl
theorem take_ok {S : Sto} {k : Int} (hb : Box S) (h0 : 0 < k) (h1 : k < 2 ^ 80) {Q : VV × Sto → Prop} (hQ : ∀ r S', 0 ≤ r → r < k → Box S' → Kp S S' → Q (.d (.int r), S')) : ok (d_law_take [.ref 1, .int k] S) Q := by
  obtain ⟨ns, z, e0, e1⟩ := hb
  have hl : 2 ≤ S.length := by
    have := (List.getElem?_eq_some_iff.mp e1).1
    omega
  have z0 : szOk 0 = true := by decide
  have z1 : szOk 1 = true := by decide
  have i20 : ixN 2 0 = some 0 := by decide
  have i21 : ixN 2 1 = some 1 := by decide
  have hn : ∀ z : Int, 0 ≤ z % k ∧ z % k < k := fun z => ⟨Int.emod_nonneg _ (by omega), Int.emod_lt_of_pos _ h0⟩
  have kp : ∀ x y : Cell, Kp S ((S.set 0 x).set 1 y) := fun x y => ⟨by simp, fun n h2 h3 => by rw [List.getElem?_set_ne (by omega), List.getElem?_set_ne (by omega)]⟩
  have sh : ∀ ns : List Int, shps 11 (ns.map .int) (ns.map .int) S := fun ns => shps_map fun a _ => by simp only [shp]
  have el : eqD (.ref 0) (.fl []) S = some (ns.map D.int).isEmpty := eq_nilL (x := .ref 0) (by simp only [lstD]; rw [e0]) (sh ns)
  refine den_ok rfl ?_
  cases ns with
  | nil =>
    simp only [List.map_nil, List.isEmpty_nil] at el e0
    have w := kp (.lst []) (.lst [.ref 0, .int (z * 48271 % 2147483647)])
    have s0 : (S.set 1 (.lst [.ref 0, .int (z * 48271 % 2147483647)])) = (S.set 0 (.lst [])).set 1 (.lst [.ref 0, .int (z * 48271 % 2147483647)]) := by
      congr 1
      apply List.ext_getElem?
      intro i
      by_cases hi : i = 0
      · subst hi
        rw [List.getElem?_set_self (by omega), e0]
      · rw [List.getElem?_set_ne (Ne.symm hi)]
    have g0 : (S.set 1 (.lst [.ref 0, .int (z * 48271 % 2147483647)]))[1]? = some (.lst [.ref 0, .int (z * 48271 % 2147483647)]) := List.getElem?_set_self (by omega)
    have g1 : (S.set 1 (.lst [.ref 0, .int (z * 48271 % 2147483647)]))[0]? = some (.lst []) := by rw [List.getElem?_set_ne (by omega), e0]
    have sm : smallI 48271 = true := by decide
    simp [m_law_take, sSeq, sFrz, sBox, sNext, sIf, sBreak, sCont, sNever, sExpr, sRet, sRetO, sRetN, sSet, sAsg, gNm, gsNil, gsCons, gT, eD, eV, eBox, eNm, eC, eOp, eUn, aNil, aCons, eTup, eLst, eCB, bV, bAnd, bOr, bNot, eAnd, eOr, eNot, eIf, eChain, eCall, eFld, sFldS, sFldA, eMeth, eMake, bYes, fSub, fLt, fLe, fGt, fGe, fDiv, fMod, fPow, fNeg, fAdd, fMul, fIsN, fNotN, Yi.isNon, fEq, fNe, fIn, fInS, fIx, intR, oNo, oPart, fSl, eSl, eRev, sAppO, sExtO, sAug, oIx, oIn, oEq, sPar, sPar3, sSetIx, eDGet, eDIn, eDGet2, sDPutS, eDPop1, eDPop2, eDNewK, eDNewT, oDGet, oDIn, eBM, mApp, mExt, mPopAt, mIdx, cellL, iEv, iR1, iR2, iC, fLen, oLen, fMax, fMin, fAll, fAny, fSum, fSortI, fList, fTuple, fInt, fStr, fIsi, tyD, isLstD, isStrD, isDD, lstD, seqD, stD, eCallF, nAt, iSt, mJoin, mSplit, fAddI, sStar, iEnS, eSortSet, fSet, eLenSet, insAt, lkp, putD, ok_some, ok_none, ok_bind, ok_map, eq_int, eq_bl, sAsg, kb_NoneType_int, kb_NoneType_bool, kb_NoneType_str, kb_NoneType_tuple, kb_NoneType_list, kb_bool_int, kb_bool_bool, kb_bool_str, kb_bool_tuple, kb_bool_list, kb_int_int, kb_int_bool, kb_int_str, kb_int_tuple, kb_int_list, kb_str_int, kb_str_bool, kb_str_str, kb_str_tuple, kb_str_list, kb_tuple_int, kb_tuple_bool, kb_tuple_str, kb_tuple_tuple, kb_tuple_list, kb_list_int, kb_list_bool, kb_list_str, kb_list_tuple, kb_list_list, sz_0, sz_1, sz_2, sz_3, sz_4, sz_5, sz_6, sz_7, sz_8, sz_9, sz_10, sz_11, sz_12, sz_13, sz_14, sz_15, sz_16, ix_1_0, ix_2_0, ix_2_1, ix_3_0, ix_3_1, ix_3_2, ix_4_0, ix_4_1, ix_4_2, ix_4_3, ix_5_0, ix_5_1, ix_5_2, ix_5_3, ix_5_4, ix_6_0, ix_6_1, ix_6_2, ix_6_3, ix_6_4, ix_6_5, ix_7_0, ix_7_1, ix_7_2, ix_7_3, ix_7_4, ix_7_5, ix_7_6, sI_0, sI_1, sI_48271, sI_69621, e0, e1, atI, z0, i20, i21, el, g0, sm, h0]
    exact hQ _ _ (hn _).1 (hn _).2 ⟨[], _, g1, g0⟩ (s0 ▸ w)
  | cons n r =>
    simp only [List.map_cons, List.isEmpty_cons] at el e0
    have ir : ixN (r.length + 1) 0 = some 0 := ix0 (by omega)
    have g0 : (S.set 0 (.lst (.int (n / k) :: r.map .int)))[0]? = some (.lst (.int (n / k) :: r.map .int)) := List.getElem?_set_self (by omega)
    have g1 : (S.set 0 (.lst (.int (n / k) :: r.map .int)))[1]? = some (.lst [.ref 0, .int z]) := by rw [List.getElem?_set_ne (by omega), e1]
    have w := kp (.lst (.int (n / k) :: r.map .int)) (.lst [.ref 0, .int z])
    have back : ∀ c : Cell, (S.set 0 c).set 1 (.lst [.ref 0, .int z]) = S.set 0 c := fun c => by
      apply List.ext_getElem?
      intro i
      by_cases hi : i = 1
      · subst hi
        rw [List.getElem?_set_self (by simp; omega), List.getElem?_set_ne (by omega), e1]
      · rw [List.getElem?_set_ne (Ne.symm hi)]
    have h2 : k < 1208925819614629174706176 := by omega
    simp [m_law_take, sSeq, sFrz, sBox, sNext, sIf, sBreak, sCont, sNever, sExpr, sRet, sRetO, sRetN, sSet, sAsg, gNm, gsNil, gsCons, gT, eD, eV, eBox, eNm, eC, eOp, eUn, aNil, aCons, eTup, eLst, eCB, bV, bAnd, bOr, bNot, eAnd, eOr, eNot, eIf, eChain, eCall, eFld, sFldS, sFldA, eMeth, eMake, bYes, fSub, fLt, fLe, fGt, fGe, fDiv, fMod, fPow, fNeg, fAdd, fMul, fIsN, fNotN, Yi.isNon, fEq, fNe, fIn, fInS, fIx, intR, oNo, oPart, fSl, eSl, eRev, sAppO, sExtO, sAug, oIx, oIn, oEq, sPar, sPar3, sSetIx, eDGet, eDIn, eDGet2, sDPutS, eDPop1, eDPop2, eDNewK, eDNewT, oDGet, oDIn, eBM, mApp, mExt, mPopAt, mIdx, cellL, iEv, iR1, iR2, iC, fLen, oLen, fMax, fMin, fAll, fAny, fSum, fSortI, fList, fTuple, fInt, fStr, fIsi, tyD, isLstD, isStrD, isDD, lstD, seqD, stD, eCallF, nAt, iSt, mJoin, mSplit, fAddI, sStar, iEnS, eSortSet, fSet, eLenSet, insAt, lkp, putD, ok_some, ok_none, ok_bind, ok_map, eq_int, eq_bl, sAsg, kb_NoneType_int, kb_NoneType_bool, kb_NoneType_str, kb_NoneType_tuple, kb_NoneType_list, kb_bool_int, kb_bool_bool, kb_bool_str, kb_bool_tuple, kb_bool_list, kb_int_int, kb_int_bool, kb_int_str, kb_int_tuple, kb_int_list, kb_str_int, kb_str_bool, kb_str_str, kb_str_tuple, kb_str_list, kb_tuple_int, kb_tuple_bool, kb_tuple_str, kb_tuple_tuple, kb_tuple_list, kb_list_int, kb_list_bool, kb_list_str, kb_list_tuple, kb_list_list, sz_0, sz_1, sz_2, sz_3, sz_4, sz_5, sz_6, sz_7, sz_8, sz_9, sz_10, sz_11, sz_12, sz_13, sz_14, sz_15, sz_16, ix_1_0, ix_2_0, ix_2_1, ix_3_0, ix_3_1, ix_3_2, ix_4_0, ix_4_1, ix_4_2, ix_4_3, ix_5_0, ix_5_1, ix_5_2, ix_5_3, ix_5_4, ix_6_0, ix_6_1, ix_6_2, ix_6_3, ix_6_4, ix_6_5, ix_7_0, ix_7_1, ix_7_2, ix_7_3, ix_7_4, ix_7_5, ix_7_6, sI_0, sI_1, sI_48271, sI_69621, e0, e1, atI, z0, i20, i21, el, ir, h0, h2, g0, g1, eq_int, seqIndex?, ok_ite]
    have sm : smallI 0 = true := by decide
    have q1 : Q (.d (.int (n % k)), S.set 0 (.lst (r.map .int))) := hQ _ _ (hn _).1 (hn _).2 ⟨r, z, List.getElem?_set_self (by omega), by rw [List.getElem?_set_ne (by omega), e1]⟩ (back _ ▸ kp (.lst (r.map .int)) (.lst [.ref 0, .int z]))
    exact ⟨fun _ => q1, fun _ => ⟨fun _ => q1, fun _ => hQ _ _ (hn _).1 (hn _).2 ⟨n / k :: r, z, g0, g1⟩ (back _ ▸ w)⟩⟩
/-! ### rules and notices as data -/
structure Rl where
  hs : List (Int × Int)
  least : Int
  gs : List (Int × Int)
  wait : Option Int
  fur : Option Int
def oD : Option Int → D
  | none => .non
  | some i => .int i
def pD (p : Int × Int) : D := .tup [.int p.1, .int p.2]
def rD (r : Rl) : D := .tup [.tup (r.hs.map pD), .int r.least, .tup (r.gs.map pD), oD r.wait, oD r.fur]
structure Nt where
  person : Int
  rank : Int
  kind : Int
  born : Int
def nD (n : Nt) : D := .tup [.int n.person, .int n.rank, .int n.kind, .int n.born]
structure Rl.Good (r : Rl) (many : Nat) : Prop where
  hl : r.hs.length ≤ 3
  hh : ∀ p ∈ r.hs, 0 ≤ p.1 ∧ p.1 ≤ 23 ∧ 0 ≤ p.2 ∧ p.2 ≤ 23 ∧ p.1 ≠ p.2
  l0 : 0 ≤ r.least
  l4 : r.least ≤ 4
  gl : r.gs.length ≤ 4
  gk : ∀ p ∈ r.gs, 0 ≤ p.1 ∧ p.1 ≤ 7 ∧ 1 ≤ p.2 ∧ p.2 ≤ 12
  gr : (r.gs.map (·.1)).Pairwise (· < ·)
  w : ∀ i, r.wait = some i → 1 ≤ i ∧ i ≤ 24
  f : ∀ i, r.fur = some i → 0 ≤ i ∧ i < many
end Wk
namespace Wk
open PySem L2 Yi
def GoodH (hs : List (Int × Int)) : Prop := ∀ p ∈ hs, 0 ≤ p.1 ∧ p.1 ≤ 23 ∧ 0 ≤ p.2 ∧ p.2 ≤ 23 ∧ p.1 ≠ p.2
def InvH (S : Sto) (n i : Nat) (ρ : Slt) (S2 : Sto) : Prop := ∃ (hs : List (Int × Int)) (a b : Option VV), ρ = [some (.d (.ref 1)), some (.own (.lst (hs.map pD))), a, b] ∧ hs.length ≤ i ∧ i ≤ n ∧ GoodH hs ∧ Box S2 ∧ Kp S S2
theorem stretches_ok {S : Sto} (hb : Box S) {Q : VV × Sto → Prop} (hQ : ∀ (hs : List (Int × Int)) S', hs.length ≤ 3 → GoodH hs → Box S' → Kp S S' → Q (.d (.tup (hs.map pD)), S')) : ok (d_law_stretches [.ref 1] S) Q := by
  refine den_ok rfl (seq_ok ?_)
  simp [sNext, sIf, sBreak, sCont, sNever, sExpr, sRet, sRetO, sRetN, sSet, sAsg, gNm, gsNil, gsCons, gT, eD, eV, eBox, eNm, eC, eOp, eUn, aNil, aCons, eTup, eLst, eCB, bV, bAnd, bOr, bNot, eAnd, eOr, eNot, eIf, eChain, eCall, eFld, sFldS, sFldA, eMeth, eMake, bYes, fSub, fLt, fLe, fGt, fGe, fDiv, fMod, fPow, fNeg, fAdd, fMul, fIsN, fNotN, Yi.isNon, fEq, fNe, fIn, fInS, fIx, intR, oNo, oPart, fSl, eSl, eRev, sAppO, sExtO, sAug, oIx, oIn, oEq, sPar, sPar3, sSetIx, eDGet, eDIn, eDGet2, sDPutS, eDPop1, eDPop2, eDNewK, eDNewT, oDGet, oDIn, eBM, mApp, mExt, mPopAt, mIdx, cellL, iEv, iR1, iR2, iC, fLen, oLen, fMax, fMin, fAll, fAny, fSum, fSortI, fList, fTuple, fInt, fStr, fIsi, tyD, isLstD, isStrD, isDD, lstD, seqD, stD, eCallF, nAt, iSt, mJoin, mSplit, fAddI, sStar, iEnS, eSortSet, fSet, eLenSet, insAt, lkp, putD, ok_some, ok_none, ok_bind, ok_map, eq_int, eq_bl, sAsg, kb_NoneType_int, kb_NoneType_bool, kb_NoneType_str, kb_NoneType_tuple, kb_NoneType_list, kb_bool_int, kb_bool_bool, kb_bool_str, kb_bool_tuple, kb_bool_list, kb_int_int, kb_int_bool, kb_int_str, kb_int_tuple, kb_int_list, kb_str_int, kb_str_bool, kb_str_str, kb_str_tuple, kb_str_list, kb_tuple_int, kb_tuple_bool, kb_tuple_str, kb_tuple_tuple, kb_tuple_list, kb_list_int, kb_list_bool, kb_list_str, kb_list_tuple, kb_list_list, sz_0, sz_1, sz_2, sz_3, sz_4, sz_5, sz_6, sz_7, sz_8, sz_9, sz_10, sz_11, sz_12, sz_13, sz_14, sz_15, sz_16, ix_1_0, ix_2_0, ix_2_1, ix_3_0, ix_3_1, ix_3_2, ix_4_0, ix_4_1, ix_4_2, ix_4_3, ix_5_0, ix_5_1, ix_5_2, ix_5_3, ix_5_4, ix_6_0, ix_6_1, ix_6_2, ix_6_3, ix_6_4, ix_6_5, ix_7_0, ix_7_1, ix_7_2, ix_7_3, ix_7_4, ix_7_5, ix_7_6, sI_0, sI_1, sI_48271, sI_69621]
  refine seq_ok (for_ok ?_)
  simp [sNext, sIf, sBreak, sCont, sNever, sExpr, sRet, sRetO, sRetN, sSet, sAsg, gNm, gsNil, gsCons, gT, eD, eV, eBox, eNm, eC, eOp, eUn, aNil, aCons, eTup, eLst, eCB, bV, bAnd, bOr, bNot, eAnd, eOr, eNot, eIf, eChain, eCall, eFld, sFldS, sFldA, eMeth, eMake, bYes, fSub, fLt, fLe, fGt, fGe, fDiv, fMod, fPow, fNeg, fAdd, fMul, fIsN, fNotN, Yi.isNon, fEq, fNe, fIn, fInS, fIx, intR, oNo, oPart, fSl, eSl, eRev, sAppO, sExtO, sAug, oIx, oIn, oEq, sPar, sPar3, sSetIx, eDGet, eDIn, eDGet2, sDPutS, eDPop1, eDPop2, eDNewK, eDNewT, oDGet, oDIn, eBM, mApp, mExt, mPopAt, mIdx, cellL, iEv, iR1, iR2, iC, fLen, oLen, fMax, fMin, fAll, fAny, fSum, fSortI, fList, fTuple, fInt, fStr, fIsi, tyD, isLstD, isStrD, isDD, lstD, seqD, stD, eCallF, nAt, iSt, mJoin, mSplit, fAddI, sStar, iEnS, eSortSet, fSet, eLenSet, insAt, lkp, putD, ok_some, ok_none, ok_bind, ok_map, eq_int, eq_bl, sAsg, kb_NoneType_int, kb_NoneType_bool, kb_NoneType_str, kb_NoneType_tuple, kb_NoneType_list, kb_bool_int, kb_bool_bool, kb_bool_str, kb_bool_tuple, kb_bool_list, kb_int_int, kb_int_bool, kb_int_str, kb_int_tuple, kb_int_list, kb_str_int, kb_str_bool, kb_str_str, kb_str_tuple, kb_str_list, kb_tuple_int, kb_tuple_bool, kb_tuple_str, kb_tuple_tuple, kb_tuple_list, kb_list_int, kb_list_bool, kb_list_str, kb_list_tuple, kb_list_list, sz_0, sz_1, sz_2, sz_3, sz_4, sz_5, sz_6, sz_7, sz_8, sz_9, sz_10, sz_11, sz_12, sz_13, sz_14, sz_15, sz_16, ix_1_0, ix_2_0, ix_2_1, ix_3_0, ix_3_1, ix_3_2, ix_4_0, ix_4_1, ix_4_2, ix_4_3, ix_5_0, ix_5_1, ix_5_2, ix_5_3, ix_5_4, ix_6_0, ix_6_1, ix_6_2, ix_6_3, ix_6_4, ix_6_5, ix_7_0, ix_7_1, ix_7_2, ix_7_3, ix_7_4, ix_7_5, ix_7_6, sI_0, sI_1, sI_48271, sI_69621]
  refine take_ok hb (by decide) (by decide) fun n S1 h0 h4 b1 k1 => ?_
  simp [sNext, sIf, sBreak, sCont, sNever, sExpr, sRet, sRetO, sRetN, sSet, sAsg, gNm, gsNil, gsCons, gT, eD, eV, eBox, eNm, eC, eOp, eUn, aNil, aCons, eTup, eLst, eCB, bV, bAnd, bOr, bNot, eAnd, eOr, eNot, eIf, eChain, eCall, eFld, sFldS, sFldA, eMeth, eMake, bYes, fSub, fLt, fLe, fGt, fGe, fDiv, fMod, fPow, fNeg, fAdd, fMul, fIsN, fNotN, Yi.isNon, fEq, fNe, fIn, fInS, fIx, intR, oNo, oPart, fSl, eSl, eRev, sAppO, sExtO, sAug, oIx, oIn, oEq, sPar, sPar3, sSetIx, eDGet, eDIn, eDGet2, sDPutS, eDPop1, eDPop2, eDNewK, eDNewT, oDGet, oDIn, eBM, mApp, mExt, mPopAt, mIdx, cellL, iEv, iR1, iR2, iC, fLen, oLen, fMax, fMin, fAll, fAny, fSum, fSortI, fList, fTuple, fInt, fStr, fIsi, tyD, isLstD, isStrD, isDD, lstD, seqD, stD, eCallF, nAt, iSt, mJoin, mSplit, fAddI, sStar, iEnS, eSortSet, fSet, eLenSet, insAt, lkp, putD, ok_some, ok_none, ok_bind, ok_map, eq_int, eq_bl, sAsg, kb_NoneType_int, kb_NoneType_bool, kb_NoneType_str, kb_NoneType_tuple, kb_NoneType_list, kb_bool_int, kb_bool_bool, kb_bool_str, kb_bool_tuple, kb_bool_list, kb_int_int, kb_int_bool, kb_int_str, kb_int_tuple, kb_int_list, kb_str_int, kb_str_bool, kb_str_str, kb_str_tuple, kb_str_list, kb_tuple_int, kb_tuple_bool, kb_tuple_str, kb_tuple_tuple, kb_tuple_list, kb_list_int, kb_list_bool, kb_list_str, kb_list_tuple, kb_list_list, sz_0, sz_1, sz_2, sz_3, sz_4, sz_5, sz_6, sz_7, sz_8, sz_9, sz_10, sz_11, sz_12, sz_13, sz_14, sz_15, sz_16, ix_1_0, ix_2_0, ix_2_1, ix_3_0, ix_3_1, ix_3_2, ix_4_0, ix_4_1, ix_4_2, ix_4_3, ix_5_0, ix_5_1, ix_5_2, ix_5_3, ix_5_4, ix_6_0, ix_6_1, ix_6_2, ix_6_3, ix_6_4, ix_6_5, ix_7_0, ix_7_1, ix_7_2, ix_7_3, ix_7_4, ix_7_5, ix_7_6, sI_0, sI_1, sI_48271, sI_69621, smR h0 (by omega)]
  refine (forL_ok (InvH S n.toNat) (rngL 0 n.toNat) 0 ⟨[], none, none, rfl, by simp, by simp, by simp [GoodH], b1, k1⟩ ?_).mono ?_
  · rintro i d hd ρ S2 ⟨hs, a, b, rfl, hl, hn, hg, b2, k2⟩
    obtain ⟨hi, rfl⟩ := rng_get hd
    simp [gNm, m_law_stretches_1, sNext, sIf, sBreak, sCont, sNever, sExpr, sRet, sRetO, sRetN, sSet, sAsg, gNm, gsNil, gsCons, gT, eD, eV, eBox, eNm, eC, eOp, eUn, aNil, aCons, eTup, eLst, eCB, bV, bAnd, bOr, bNot, eAnd, eOr, eNot, eIf, eChain, eCall, eFld, sFldS, sFldA, eMeth, eMake, bYes, fSub, fLt, fLe, fGt, fGe, fDiv, fMod, fPow, fNeg, fAdd, fMul, fIsN, fNotN, Yi.isNon, fEq, fNe, fIn, fInS, fIx, intR, oNo, oPart, fSl, eSl, eRev, sAppO, sExtO, sAug, oIx, oIn, oEq, sPar, sPar3, sSetIx, eDGet, eDIn, eDGet2, sDPutS, eDPop1, eDPop2, eDNewK, eDNewT, oDGet, oDIn, eBM, mApp, mExt, mPopAt, mIdx, cellL, iEv, iR1, iR2, iC, fLen, oLen, fMax, fMin, fAll, fAny, fSum, fSortI, fList, fTuple, fInt, fStr, fIsi, tyD, isLstD, isStrD, isDD, lstD, seqD, stD, eCallF, nAt, iSt, mJoin, mSplit, fAddI, sStar, iEnS, eSortSet, fSet, eLenSet, insAt, lkp, putD, ok_some, ok_none, ok_bind, ok_map, eq_int, eq_bl, sAsg, kb_NoneType_int, kb_NoneType_bool, kb_NoneType_str, kb_NoneType_tuple, kb_NoneType_list, kb_bool_int, kb_bool_bool, kb_bool_str, kb_bool_tuple, kb_bool_list, kb_int_int, kb_int_bool, kb_int_str, kb_int_tuple, kb_int_list, kb_str_int, kb_str_bool, kb_str_str, kb_str_tuple, kb_str_list, kb_tuple_int, kb_tuple_bool, kb_tuple_str, kb_tuple_tuple, kb_tuple_list, kb_list_int, kb_list_bool, kb_list_str, kb_list_tuple, kb_list_list, sz_0, sz_1, sz_2, sz_3, sz_4, sz_5, sz_6, sz_7, sz_8, sz_9, sz_10, sz_11, sz_12, sz_13, sz_14, sz_15, sz_16, ix_1_0, ix_2_0, ix_2_1, ix_3_0, ix_3_1, ix_3_2, ix_4_0, ix_4_1, ix_4_2, ix_4_3, ix_5_0, ix_5_1, ix_5_2, ix_5_3, ix_5_4, ix_6_0, ix_6_1, ix_6_2, ix_6_3, ix_6_4, ix_6_5, ix_7_0, ix_7_1, ix_7_2, ix_7_3, ix_7_4, ix_7_5, ix_7_6, sI_0, sI_1, sI_48271, sI_69621]
    refine seq_ok ?_
    simp [sNext, sIf, sBreak, sCont, sNever, sExpr, sRet, sRetO, sRetN, sSet, sAsg, gNm, gsNil, gsCons, gT, eD, eV, eBox, eNm, eC, eOp, eUn, aNil, aCons, eTup, eLst, eCB, bV, bAnd, bOr, bNot, eAnd, eOr, eNot, eIf, eChain, eCall, eFld, sFldS, sFldA, eMeth, eMake, bYes, fSub, fLt, fLe, fGt, fGe, fDiv, fMod, fPow, fNeg, fAdd, fMul, fIsN, fNotN, Yi.isNon, fEq, fNe, fIn, fInS, fIx, intR, oNo, oPart, fSl, eSl, eRev, sAppO, sExtO, sAug, oIx, oIn, oEq, sPar, sPar3, sSetIx, eDGet, eDIn, eDGet2, sDPutS, eDPop1, eDPop2, eDNewK, eDNewT, oDGet, oDIn, eBM, mApp, mExt, mPopAt, mIdx, cellL, iEv, iR1, iR2, iC, fLen, oLen, fMax, fMin, fAll, fAny, fSum, fSortI, fList, fTuple, fInt, fStr, fIsi, tyD, isLstD, isStrD, isDD, lstD, seqD, stD, eCallF, nAt, iSt, mJoin, mSplit, fAddI, sStar, iEnS, eSortSet, fSet, eLenSet, insAt, lkp, putD, ok_some, ok_none, ok_bind, ok_map, eq_int, eq_bl, sAsg, kb_NoneType_int, kb_NoneType_bool, kb_NoneType_str, kb_NoneType_tuple, kb_NoneType_list, kb_bool_int, kb_bool_bool, kb_bool_str, kb_bool_tuple, kb_bool_list, kb_int_int, kb_int_bool, kb_int_str, kb_int_tuple, kb_int_list, kb_str_int, kb_str_bool, kb_str_str, kb_str_tuple, kb_str_list, kb_tuple_int, kb_tuple_bool, kb_tuple_str, kb_tuple_tuple, kb_tuple_list, kb_list_int, kb_list_bool, kb_list_str, kb_list_tuple, kb_list_list, sz_0, sz_1, sz_2, sz_3, sz_4, sz_5, sz_6, sz_7, sz_8, sz_9, sz_10, sz_11, sz_12, sz_13, sz_14, sz_15, sz_16, ix_1_0, ix_2_0, ix_2_1, ix_3_0, ix_3_1, ix_3_2, ix_4_0, ix_4_1, ix_4_2, ix_4_3, ix_5_0, ix_5_1, ix_5_2, ix_5_3, ix_5_4, ix_6_0, ix_6_1, ix_6_2, ix_6_3, ix_6_4, ix_6_5, ix_7_0, ix_7_1, ix_7_2, ix_7_3, ix_7_4, ix_7_5, ix_7_6, sI_0, sI_1, sI_48271, sI_69621]
    refine take_ok b2 (by decide) (by decide) fun x S3 x0 x1 b3 k3 => ?_
    simp [sNext, sIf, sBreak, sCont, sNever, sExpr, sRet, sRetO, sRetN, sSet, sAsg, gNm, gsNil, gsCons, gT, eD, eV, eBox, eNm, eC, eOp, eUn, aNil, aCons, eTup, eLst, eCB, bV, bAnd, bOr, bNot, eAnd, eOr, eNot, eIf, eChain, eCall, eFld, sFldS, sFldA, eMeth, eMake, bYes, fSub, fLt, fLe, fGt, fGe, fDiv, fMod, fPow, fNeg, fAdd, fMul, fIsN, fNotN, Yi.isNon, fEq, fNe, fIn, fInS, fIx, intR, oNo, oPart, fSl, eSl, eRev, sAppO, sExtO, sAug, oIx, oIn, oEq, sPar, sPar3, sSetIx, eDGet, eDIn, eDGet2, sDPutS, eDPop1, eDPop2, eDNewK, eDNewT, oDGet, oDIn, eBM, mApp, mExt, mPopAt, mIdx, cellL, iEv, iR1, iR2, iC, fLen, oLen, fMax, fMin, fAll, fAny, fSum, fSortI, fList, fTuple, fInt, fStr, fIsi, tyD, isLstD, isStrD, isDD, lstD, seqD, stD, eCallF, nAt, iSt, mJoin, mSplit, fAddI, sStar, iEnS, eSortSet, fSet, eLenSet, insAt, lkp, putD, ok_some, ok_none, ok_bind, ok_map, eq_int, eq_bl, sAsg, kb_NoneType_int, kb_NoneType_bool, kb_NoneType_str, kb_NoneType_tuple, kb_NoneType_list, kb_bool_int, kb_bool_bool, kb_bool_str, kb_bool_tuple, kb_bool_list, kb_int_int, kb_int_bool, kb_int_str, kb_int_tuple, kb_int_list, kb_str_int, kb_str_bool, kb_str_str, kb_str_tuple, kb_str_list, kb_tuple_int, kb_tuple_bool, kb_tuple_str, kb_tuple_tuple, kb_tuple_list, kb_list_int, kb_list_bool, kb_list_str, kb_list_tuple, kb_list_list, sz_0, sz_1, sz_2, sz_3, sz_4, sz_5, sz_6, sz_7, sz_8, sz_9, sz_10, sz_11, sz_12, sz_13, sz_14, sz_15, sz_16, ix_1_0, ix_2_0, ix_2_1, ix_3_0, ix_3_1, ix_3_2, ix_4_0, ix_4_1, ix_4_2, ix_4_3, ix_5_0, ix_5_1, ix_5_2, ix_5_3, ix_5_4, ix_6_0, ix_6_1, ix_6_2, ix_6_3, ix_6_4, ix_6_5, ix_7_0, ix_7_1, ix_7_2, ix_7_3, ix_7_4, ix_7_5, ix_7_6, sI_0, sI_1, sI_48271, sI_69621]
    refine take_ok b3 (by decide) (by decide) fun y S4 y0 y1 b4 k4 => ?_
    have go : ∀ lim : Int, 0 < lim → lim ≤ 23 → ∀ {R : VV × Sto → Prop}, (∀ r S', 0 ≤ r → r < 23 → Box S' → Kp S S' → R (.d (.int r), S')) → ok (d_law_take [.ref 1, .int lim] S4) R := fun lim l0 l1 R hR =>
      take_ok b4 l0 (by omega) fun r S5 r0 r1 b5 k5 => hR r S5 r0 (by omega) b5 (((k2.trans k3).trans k4).trans k5)
    have len : szOk hs.length = true := by simp [szOk]; omega
    have fin : ∀ (r : Int) (S5 : Sto) (a b : Option VV), 0 ≤ r → r < 23 → Box S5 → Kp S S5 → InvH S n.toNat (i + 1) [some (.d (.ref 1)), some (.own (.lst (hs.map pD ++ [.tup [.int x, .int ((x + 1 + r) % 24)]]))), a, b] S5 :=
      fun r S5 a b r0 r1 b5 k5 => ⟨hs ++ [(x, (x + 1 + r) % 24)], a, b, by simp [pD], by simp; omega, by omega, by
        intro p hp
        rcases List.mem_append.mp hp with q | q
        · exact hg p q
        · have e : p = (x, (x + 1 + r) % 24) := by simpa using q
          subst e
          dsimp only
          omega, b5, k5⟩
    rcases (by omega : y = 0 ∨ y = 1) with rfl | rfl
    · simp [sNext, sIf, sBreak, sCont, sNever, sExpr, sRet, sRetO, sRetN, sSet, sAsg, gNm, gsNil, gsCons, gT, eD, eV, eBox, eNm, eC, eOp, eUn, aNil, aCons, eTup, eLst, eCB, bV, bAnd, bOr, bNot, eAnd, eOr, eNot, eIf, eChain, eCall, eFld, sFldS, sFldA, eMeth, eMake, bYes, fSub, fLt, fLe, fGt, fGe, fDiv, fMod, fPow, fNeg, fAdd, fMul, fIsN, fNotN, Yi.isNon, fEq, fNe, fIn, fInS, fIx, intR, oNo, oPart, fSl, eSl, eRev, sAppO, sExtO, sAug, oIx, oIn, oEq, sPar, sPar3, sSetIx, eDGet, eDIn, eDGet2, sDPutS, eDPop1, eDPop2, eDNewK, eDNewT, oDGet, oDIn, eBM, mApp, mExt, mPopAt, mIdx, cellL, iEv, iR1, iR2, iC, fLen, oLen, fMax, fMin, fAll, fAny, fSum, fSortI, fList, fTuple, fInt, fStr, fIsi, tyD, isLstD, isStrD, isDD, lstD, seqD, stD, eCallF, nAt, iSt, mJoin, mSplit, fAddI, sStar, iEnS, eSortSet, fSet, eLenSet, insAt, lkp, putD, ok_some, ok_none, ok_bind, ok_map, eq_int, eq_bl, sAsg, kb_NoneType_int, kb_NoneType_bool, kb_NoneType_str, kb_NoneType_tuple, kb_NoneType_list, kb_bool_int, kb_bool_bool, kb_bool_str, kb_bool_tuple, kb_bool_list, kb_int_int, kb_int_bool, kb_int_str, kb_int_tuple, kb_int_list, kb_str_int, kb_str_bool, kb_str_str, kb_str_tuple, kb_str_list, kb_tuple_int, kb_tuple_bool, kb_tuple_str, kb_tuple_tuple, kb_tuple_list, kb_list_int, kb_list_bool, kb_list_str, kb_list_tuple, kb_list_list, sz_0, sz_1, sz_2, sz_3, sz_4, sz_5, sz_6, sz_7, sz_8, sz_9, sz_10, sz_11, sz_12, sz_13, sz_14, sz_15, sz_16, ix_1_0, ix_2_0, ix_2_1, ix_3_0, ix_3_1, ix_3_2, ix_4_0, ix_4_1, ix_4_2, ix_4_3, ix_5_0, ix_5_1, ix_5_2, ix_5_3, ix_5_4, ix_6_0, ix_6_1, ix_6_2, ix_6_3, ix_6_4, ix_6_5, ix_7_0, ix_7_1, ix_7_2, ix_7_3, ix_7_4, ix_7_5, ix_7_6, sI_0, sI_1, sI_48271, sI_69621, atI]
      refine go 23 (by decide) (by decide) fun r S5 r0 r1 b5 k5 => ?_
      simp [sNext, sIf, sBreak, sCont, sNever, sExpr, sRet, sRetO, sRetN, sSet, sAsg, gNm, gsNil, gsCons, gT, eD, eV, eBox, eNm, eC, eOp, eUn, aNil, aCons, eTup, eLst, eCB, bV, bAnd, bOr, bNot, eAnd, eOr, eNot, eIf, eChain, eCall, eFld, sFldS, sFldA, eMeth, eMake, bYes, fSub, fLt, fLe, fGt, fGe, fDiv, fMod, fPow, fNeg, fAdd, fMul, fIsN, fNotN, Yi.isNon, fEq, fNe, fIn, fInS, fIx, intR, oNo, oPart, fSl, eSl, eRev, sAppO, sExtO, sAug, oIx, oIn, oEq, sPar, sPar3, sSetIx, eDGet, eDIn, eDGet2, sDPutS, eDPop1, eDPop2, eDNewK, eDNewT, oDGet, oDIn, eBM, mApp, mExt, mPopAt, mIdx, cellL, iEv, iR1, iR2, iC, fLen, oLen, fMax, fMin, fAll, fAny, fSum, fSortI, fList, fTuple, fInt, fStr, fIsi, tyD, isLstD, isStrD, isDD, lstD, seqD, stD, eCallF, nAt, iSt, mJoin, mSplit, fAddI, sStar, iEnS, eSortSet, fSet, eLenSet, insAt, lkp, putD, ok_some, ok_none, ok_bind, ok_map, eq_int, eq_bl, sAsg, kb_NoneType_int, kb_NoneType_bool, kb_NoneType_str, kb_NoneType_tuple, kb_NoneType_list, kb_bool_int, kb_bool_bool, kb_bool_str, kb_bool_tuple, kb_bool_list, kb_int_int, kb_int_bool, kb_int_str, kb_int_tuple, kb_int_list, kb_str_int, kb_str_bool, kb_str_str, kb_str_tuple, kb_str_list, kb_tuple_int, kb_tuple_bool, kb_tuple_str, kb_tuple_tuple, kb_tuple_list, kb_list_int, kb_list_bool, kb_list_str, kb_list_tuple, kb_list_list, sz_0, sz_1, sz_2, sz_3, sz_4, sz_5, sz_6, sz_7, sz_8, sz_9, sz_10, sz_11, sz_12, sz_13, sz_14, sz_15, sz_16, ix_1_0, ix_2_0, ix_2_1, ix_3_0, ix_3_1, ix_3_2, ix_4_0, ix_4_1, ix_4_2, ix_4_3, ix_5_0, ix_5_1, ix_5_2, ix_5_3, ix_5_4, ix_6_0, ix_6_1, ix_6_2, ix_6_3, ix_6_4, ix_6_5, ix_7_0, ix_7_1, ix_7_2, ix_7_3, ix_7_4, ix_7_5, ix_7_6, sI_0, sI_1, sI_48271, sI_69621, len]
      exact fin r S5 _ _ r0 r1 b5 k5
    · simp [sNext, sIf, sBreak, sCont, sNever, sExpr, sRet, sRetO, sRetN, sSet, sAsg, gNm, gsNil, gsCons, gT, eD, eV, eBox, eNm, eC, eOp, eUn, aNil, aCons, eTup, eLst, eCB, bV, bAnd, bOr, bNot, eAnd, eOr, eNot, eIf, eChain, eCall, eFld, sFldS, sFldA, eMeth, eMake, bYes, fSub, fLt, fLe, fGt, fGe, fDiv, fMod, fPow, fNeg, fAdd, fMul, fIsN, fNotN, Yi.isNon, fEq, fNe, fIn, fInS, fIx, intR, oNo, oPart, fSl, eSl, eRev, sAppO, sExtO, sAug, oIx, oIn, oEq, sPar, sPar3, sSetIx, eDGet, eDIn, eDGet2, sDPutS, eDPop1, eDPop2, eDNewK, eDNewT, oDGet, oDIn, eBM, mApp, mExt, mPopAt, mIdx, cellL, iEv, iR1, iR2, iC, fLen, oLen, fMax, fMin, fAll, fAny, fSum, fSortI, fList, fTuple, fInt, fStr, fIsi, tyD, isLstD, isStrD, isDD, lstD, seqD, stD, eCallF, nAt, iSt, mJoin, mSplit, fAddI, sStar, iEnS, eSortSet, fSet, eLenSet, insAt, lkp, putD, ok_some, ok_none, ok_bind, ok_map, eq_int, eq_bl, sAsg, kb_NoneType_int, kb_NoneType_bool, kb_NoneType_str, kb_NoneType_tuple, kb_NoneType_list, kb_bool_int, kb_bool_bool, kb_bool_str, kb_bool_tuple, kb_bool_list, kb_int_int, kb_int_bool, kb_int_str, kb_int_tuple, kb_int_list, kb_str_int, kb_str_bool, kb_str_str, kb_str_tuple, kb_str_list, kb_tuple_int, kb_tuple_bool, kb_tuple_str, kb_tuple_tuple, kb_tuple_list, kb_list_int, kb_list_bool, kb_list_str, kb_list_tuple, kb_list_list, sz_0, sz_1, sz_2, sz_3, sz_4, sz_5, sz_6, sz_7, sz_8, sz_9, sz_10, sz_11, sz_12, sz_13, sz_14, sz_15, sz_16, ix_1_0, ix_2_0, ix_2_1, ix_3_0, ix_3_1, ix_3_2, ix_4_0, ix_4_1, ix_4_2, ix_4_3, ix_5_0, ix_5_1, ix_5_2, ix_5_3, ix_5_4, ix_6_0, ix_6_1, ix_6_2, ix_6_3, ix_6_4, ix_6_5, ix_7_0, ix_7_1, ix_7_2, ix_7_3, ix_7_4, ix_7_5, ix_7_6, sI_0, sI_1, sI_48271, sI_69621, atI]
      refine go 9 (by decide) (by decide) fun r S5 r0 r1 b5 k5 => ?_
      simp [sNext, sIf, sBreak, sCont, sNever, sExpr, sRet, sRetO, sRetN, sSet, sAsg, gNm, gsNil, gsCons, gT, eD, eV, eBox, eNm, eC, eOp, eUn, aNil, aCons, eTup, eLst, eCB, bV, bAnd, bOr, bNot, eAnd, eOr, eNot, eIf, eChain, eCall, eFld, sFldS, sFldA, eMeth, eMake, bYes, fSub, fLt, fLe, fGt, fGe, fDiv, fMod, fPow, fNeg, fAdd, fMul, fIsN, fNotN, Yi.isNon, fEq, fNe, fIn, fInS, fIx, intR, oNo, oPart, fSl, eSl, eRev, sAppO, sExtO, sAug, oIx, oIn, oEq, sPar, sPar3, sSetIx, eDGet, eDIn, eDGet2, sDPutS, eDPop1, eDPop2, eDNewK, eDNewT, oDGet, oDIn, eBM, mApp, mExt, mPopAt, mIdx, cellL, iEv, iR1, iR2, iC, fLen, oLen, fMax, fMin, fAll, fAny, fSum, fSortI, fList, fTuple, fInt, fStr, fIsi, tyD, isLstD, isStrD, isDD, lstD, seqD, stD, eCallF, nAt, iSt, mJoin, mSplit, fAddI, sStar, iEnS, eSortSet, fSet, eLenSet, insAt, lkp, putD, ok_some, ok_none, ok_bind, ok_map, eq_int, eq_bl, sAsg, kb_NoneType_int, kb_NoneType_bool, kb_NoneType_str, kb_NoneType_tuple, kb_NoneType_list, kb_bool_int, kb_bool_bool, kb_bool_str, kb_bool_tuple, kb_bool_list, kb_int_int, kb_int_bool, kb_int_str, kb_int_tuple, kb_int_list, kb_str_int, kb_str_bool, kb_str_str, kb_str_tuple, kb_str_list, kb_tuple_int, kb_tuple_bool, kb_tuple_str, kb_tuple_tuple, kb_tuple_list, kb_list_int, kb_list_bool, kb_list_str, kb_list_tuple, kb_list_list, sz_0, sz_1, sz_2, sz_3, sz_4, sz_5, sz_6, sz_7, sz_8, sz_9, sz_10, sz_11, sz_12, sz_13, sz_14, sz_15, sz_16, ix_1_0, ix_2_0, ix_2_1, ix_3_0, ix_3_1, ix_3_2, ix_4_0, ix_4_1, ix_4_2, ix_4_3, ix_5_0, ix_5_1, ix_5_2, ix_5_3, ix_5_4, ix_6_0, ix_6_1, ix_6_2, ix_6_3, ix_6_4, ix_6_5, ix_7_0, ix_7_1, ix_7_2, ix_7_3, ix_7_4, ix_7_5, ix_7_6, sI_0, sI_1, sI_48271, sI_69621, len]
      exact fin r S5 _ _ r0 r1 b5 k5
  · rintro ⟨f, ρ, S2⟩ ⟨rfl, hs, a, b, rfl, hl, hn, hg, b2, k2⟩
    simp [sFrz, sBox, sNext, sIf, sBreak, sCont, sNever, sExpr, sRet, sRetO, sRetN, sSet, sAsg, gNm, gsNil, gsCons, gT, eD, eV, eBox, eNm, eC, eOp, eUn, aNil, aCons, eTup, eLst, eCB, bV, bAnd, bOr, bNot, eAnd, eOr, eNot, eIf, eChain, eCall, eFld, sFldS, sFldA, eMeth, eMake, bYes, fSub, fLt, fLe, fGt, fGe, fDiv, fMod, fPow, fNeg, fAdd, fMul, fIsN, fNotN, Yi.isNon, fEq, fNe, fIn, fInS, fIx, intR, oNo, oPart, fSl, eSl, eRev, sAppO, sExtO, sAug, oIx, oIn, oEq, sPar, sPar3, sSetIx, eDGet, eDIn, eDGet2, sDPutS, eDPop1, eDPop2, eDNewK, eDNewT, oDGet, oDIn, eBM, mApp, mExt, mPopAt, mIdx, cellL, iEv, iR1, iR2, iC, fLen, oLen, fMax, fMin, fAll, fAny, fSum, fSortI, fList, fTuple, fInt, fStr, fIsi, tyD, isLstD, isStrD, isDD, lstD, seqD, stD, eCallF, nAt, iSt, mJoin, mSplit, fAddI, sStar, iEnS, eSortSet, fSet, eLenSet, insAt, lkp, putD, ok_some, ok_none, ok_bind, ok_map, eq_int, eq_bl, sAsg, kb_NoneType_int, kb_NoneType_bool, kb_NoneType_str, kb_NoneType_tuple, kb_NoneType_list, kb_bool_int, kb_bool_bool, kb_bool_str, kb_bool_tuple, kb_bool_list, kb_int_int, kb_int_bool, kb_int_str, kb_int_tuple, kb_int_list, kb_str_int, kb_str_bool, kb_str_str, kb_str_tuple, kb_str_list, kb_tuple_int, kb_tuple_bool, kb_tuple_str, kb_tuple_tuple, kb_tuple_list, kb_list_int, kb_list_bool, kb_list_str, kb_list_tuple, kb_list_list, sz_0, sz_1, sz_2, sz_3, sz_4, sz_5, sz_6, sz_7, sz_8, sz_9, sz_10, sz_11, sz_12, sz_13, sz_14, sz_15, sz_16, ix_1_0, ix_2_0, ix_2_1, ix_3_0, ix_3_1, ix_3_2, ix_4_0, ix_4_1, ix_4_2, ix_4_3, ix_5_0, ix_5_1, ix_5_2, ix_5_3, ix_5_4, ix_6_0, ix_6_1, ix_6_2, ix_6_3, ix_6_4, ix_6_5, ix_7_0, ix_7_1, ix_7_2, ix_7_3, ix_7_4, ix_7_5, ix_7_6, sI_0, sI_1, sI_48271, sI_69621]
    exact hQ hs S2 (by simp [rng_len] at hl; omega) hg b2 k2
/-! ### a rule -/
def GoodG (gs : List (Int × Int)) (lim : Int) : Prop := gs.length ≤ 4 ∧ (∀ p ∈ gs, 0 ≤ p.1 ∧ p.1 < lim ∧ p.1 ≤ 7 ∧ 1 ≤ p.2 ∧ p.2 ≤ 12) ∧ (gs.map (·.1)).Pairwise (· < ·)
def InvG (S : Sto) (m : Int) (i : Nat) (ρ : Slt) (S2 : Sto) : Prop := ∃ (gs : List (Int × Int)) (a b c : Option VV), ρ = [some (.d (.ref 1)), some (.d (.int m)), some (.own (.lst (gs.map pD))), a, b, c] ∧ GoodG gs i ∧ i ≤ 8 ∧ Box S2 ∧ Kp S S2
theorem rule_ok {S : Sto} {m : Nat} (hb : Box S) (m0 : 0 < m) (m6 : m ≤ 6) {Q : VV × Sto → Prop} (hQ : ∀ (r : Rl) S', r.Good m → Box S' → Kp S S' → Q (.d (rD r), S')) : ok (d_law_rule [.ref 1, .int m] S) Q := by
  refine den_ok rfl (seq_ok ?_)
  simp [sNext, sIf, sBreak, sCont, sNever, sExpr, sRet, sRetO, sRetN, sSet, sAsg, gNm, gsNil, gsCons, gT, eD, eV, eBox, eNm, eC, eOp, eUn, aNil, aCons, eTup, eLst, eCB, bV, bAnd, bOr, bNot, eAnd, eOr, eNot, eIf, eChain, eCall, eFld, sFldS, sFldA, eMeth, eMake, bYes, fSub, fLt, fLe, fGt, fGe, fDiv, fMod, fPow, fNeg, fAdd, fMul, fIsN, fNotN, Yi.isNon, fEq, fNe, fIn, fInS, fIx, intR, oNo, oPart, fSl, eSl, eRev, sAppO, sExtO, sAug, oIx, oIn, oEq, sPar, sPar3, sSetIx, eDGet, eDIn, eDGet2, sDPutS, eDPop1, eDPop2, eDNewK, eDNewT, oDGet, oDIn, eBM, mApp, mExt, mPopAt, mIdx, cellL, iEv, iR1, iR2, iC, fLen, oLen, fMax, fMin, fAll, fAny, fSum, fSortI, fList, fTuple, fInt, fStr, fIsi, tyD, isLstD, isStrD, isDD, lstD, seqD, stD, eCallF, nAt, iSt, mJoin, mSplit, fAddI, sStar, iEnS, eSortSet, fSet, eLenSet, insAt, lkp, putD, ok_some, ok_none, ok_bind, ok_map, eq_int, eq_bl, sAsg, kb_NoneType_int, kb_NoneType_bool, kb_NoneType_str, kb_NoneType_tuple, kb_NoneType_list, kb_bool_int, kb_bool_bool, kb_bool_str, kb_bool_tuple, kb_bool_list, kb_int_int, kb_int_bool, kb_int_str, kb_int_tuple, kb_int_list, kb_str_int, kb_str_bool, kb_str_str, kb_str_tuple, kb_str_list, kb_tuple_int, kb_tuple_bool, kb_tuple_str, kb_tuple_tuple, kb_tuple_list, kb_list_int, kb_list_bool, kb_list_str, kb_list_tuple, kb_list_list, sz_0, sz_1, sz_2, sz_3, sz_4, sz_5, sz_6, sz_7, sz_8, sz_9, sz_10, sz_11, sz_12, sz_13, sz_14, sz_15, sz_16, ix_1_0, ix_2_0, ix_2_1, ix_3_0, ix_3_1, ix_3_2, ix_4_0, ix_4_1, ix_4_2, ix_4_3, ix_5_0, ix_5_1, ix_5_2, ix_5_3, ix_5_4, ix_6_0, ix_6_1, ix_6_2, ix_6_3, ix_6_4, ix_6_5, ix_7_0, ix_7_1, ix_7_2, ix_7_3, ix_7_4, ix_7_5, ix_7_6, sI_0, sI_1, sI_48271, sI_69621]
  refine seq_ok (for_ok ?_)
  simp [sNext, sIf, sBreak, sCont, sNever, sExpr, sRet, sRetO, sRetN, sSet, sAsg, gNm, gsNil, gsCons, gT, eD, eV, eBox, eNm, eC, eOp, eUn, aNil, aCons, eTup, eLst, eCB, bV, bAnd, bOr, bNot, eAnd, eOr, eNot, eIf, eChain, eCall, eFld, sFldS, sFldA, eMeth, eMake, bYes, fSub, fLt, fLe, fGt, fGe, fDiv, fMod, fPow, fNeg, fAdd, fMul, fIsN, fNotN, Yi.isNon, fEq, fNe, fIn, fInS, fIx, intR, oNo, oPart, fSl, eSl, eRev, sAppO, sExtO, sAug, oIx, oIn, oEq, sPar, sPar3, sSetIx, eDGet, eDIn, eDGet2, sDPutS, eDPop1, eDPop2, eDNewK, eDNewT, oDGet, oDIn, eBM, mApp, mExt, mPopAt, mIdx, cellL, iEv, iR1, iR2, iC, fLen, oLen, fMax, fMin, fAll, fAny, fSum, fSortI, fList, fTuple, fInt, fStr, fIsi, tyD, isLstD, isStrD, isDD, lstD, seqD, stD, eCallF, nAt, iSt, mJoin, mSplit, fAddI, sStar, iEnS, eSortSet, fSet, eLenSet, insAt, lkp, putD, ok_some, ok_none, ok_bind, ok_map, eq_int, eq_bl, sAsg, kb_NoneType_int, kb_NoneType_bool, kb_NoneType_str, kb_NoneType_tuple, kb_NoneType_list, kb_bool_int, kb_bool_bool, kb_bool_str, kb_bool_tuple, kb_bool_list, kb_int_int, kb_int_bool, kb_int_str, kb_int_tuple, kb_int_list, kb_str_int, kb_str_bool, kb_str_str, kb_str_tuple, kb_str_list, kb_tuple_int, kb_tuple_bool, kb_tuple_str, kb_tuple_tuple, kb_tuple_list, kb_list_int, kb_list_bool, kb_list_str, kb_list_tuple, kb_list_list, sz_0, sz_1, sz_2, sz_3, sz_4, sz_5, sz_6, sz_7, sz_8, sz_9, sz_10, sz_11, sz_12, sz_13, sz_14, sz_15, sz_16, ix_1_0, ix_2_0, ix_2_1, ix_3_0, ix_3_1, ix_3_2, ix_4_0, ix_4_1, ix_4_2, ix_4_3, ix_5_0, ix_5_1, ix_5_2, ix_5_3, ix_5_4, ix_6_0, ix_6_1, ix_6_2, ix_6_3, ix_6_4, ix_6_5, ix_7_0, ix_7_1, ix_7_2, ix_7_3, ix_7_4, ix_7_5, ix_7_6, sI_0, sI_1, sI_48271, sI_69621, smR (i := 8) (by decide) (by decide)]
  refine (forL_ok (InvG S m) (rngL 0 8) 0 ⟨[], none, none, none, rfl, ⟨by simp, by simp, by simp⟩, by omega, hb, .refl S⟩ ?_).mono ?_
  · rintro i d hd ρ S2 ⟨gs, a, b, c, rfl, ⟨g1, g2, g3⟩, hi8, b2, k2⟩
    obtain ⟨hi, rfl⟩ := rng_get hd
    have keep : ∀ (S3 : Sto) (a b c : Option VV), Box S3 → Kp S2 S3 → InvG S m (i + 1) [some (.d (.ref 1)), some (.d (.int m)), some (.own (.lst (gs.map pD))), a, b, c] S3 := fun S3 a b c b3 k3 =>
      ⟨gs, a, b, c, rfl, ⟨g1, fun p hp => by have := g2 p hp; omega, g3⟩, by omega, b3, k2.trans k3⟩
    have len : szOk gs.length = true := by simp [szOk]; omega
    simp [gNm, m_law_rule_1, sNext, sIf, sBreak, sCont, sNever, sExpr, sRet, sRetO, sRetN, sSet, sAsg, gNm, gsNil, gsCons, gT, eD, eV, eBox, eNm, eC, eOp, eUn, aNil, aCons, eTup, eLst, eCB, bV, bAnd, bOr, bNot, eAnd, eOr, eNot, eIf, eChain, eCall, eFld, sFldS, sFldA, eMeth, eMake, bYes, fSub, fLt, fLe, fGt, fGe, fDiv, fMod, fPow, fNeg, fAdd, fMul, fIsN, fNotN, Yi.isNon, fEq, fNe, fIn, fInS, fIx, intR, oNo, oPart, fSl, eSl, eRev, sAppO, sExtO, sAug, oIx, oIn, oEq, sPar, sPar3, sSetIx, eDGet, eDIn, eDGet2, sDPutS, eDPop1, eDPop2, eDNewK, eDNewT, oDGet, oDIn, eBM, mApp, mExt, mPopAt, mIdx, cellL, iEv, iR1, iR2, iC, fLen, oLen, fMax, fMin, fAll, fAny, fSum, fSortI, fList, fTuple, fInt, fStr, fIsi, tyD, isLstD, isStrD, isDD, lstD, seqD, stD, eCallF, nAt, iSt, mJoin, mSplit, fAddI, sStar, iEnS, eSortSet, fSet, eLenSet, insAt, lkp, putD, ok_some, ok_none, ok_bind, ok_map, eq_int, eq_bl, sAsg, kb_NoneType_int, kb_NoneType_bool, kb_NoneType_str, kb_NoneType_tuple, kb_NoneType_list, kb_bool_int, kb_bool_bool, kb_bool_str, kb_bool_tuple, kb_bool_list, kb_int_int, kb_int_bool, kb_int_str, kb_int_tuple, kb_int_list, kb_str_int, kb_str_bool, kb_str_str, kb_str_tuple, kb_str_list, kb_tuple_int, kb_tuple_bool, kb_tuple_str, kb_tuple_tuple, kb_tuple_list, kb_list_int, kb_list_bool, kb_list_str, kb_list_tuple, kb_list_list, sz_0, sz_1, sz_2, sz_3, sz_4, sz_5, sz_6, sz_7, sz_8, sz_9, sz_10, sz_11, sz_12, sz_13, sz_14, sz_15, sz_16, ix_1_0, ix_2_0, ix_2_1, ix_3_0, ix_3_1, ix_3_2, ix_4_0, ix_4_1, ix_4_2, ix_4_3, ix_5_0, ix_5_1, ix_5_2, ix_5_3, ix_5_4, ix_6_0, ix_6_1, ix_6_2, ix_6_3, ix_6_4, ix_6_5, ix_7_0, ix_7_1, ix_7_2, ix_7_3, ix_7_4, ix_7_5, ix_7_6, sI_0, sI_1, sI_48271, sI_69621, ok_ite]
    refine ⟨fun h4 => ?_, fun _ => keep S2 _ _ _ b2 (.refl _)⟩
    refine take_ok b2 (by decide) (by decide) fun x S3 x0 x1 b3 k3 => ?_
    simp [sNext, sIf, sBreak, sCont, sNever, sExpr, sRet, sRetO, sRetN, sSet, sAsg, gNm, gsNil, gsCons, gT, eD, eV, eBox, eNm, eC, eOp, eUn, aNil, aCons, eTup, eLst, eCB, bV, bAnd, bOr, bNot, eAnd, eOr, eNot, eIf, eChain, eCall, eFld, sFldS, sFldA, eMeth, eMake, bYes, fSub, fLt, fLe, fGt, fGe, fDiv, fMod, fPow, fNeg, fAdd, fMul, fIsN, fNotN, Yi.isNon, fEq, fNe, fIn, fInS, fIx, intR, oNo, oPart, fSl, eSl, eRev, sAppO, sExtO, sAug, oIx, oIn, oEq, sPar, sPar3, sSetIx, eDGet, eDIn, eDGet2, sDPutS, eDPop1, eDPop2, eDNewK, eDNewT, oDGet, oDIn, eBM, mApp, mExt, mPopAt, mIdx, cellL, iEv, iR1, iR2, iC, fLen, oLen, fMax, fMin, fAll, fAny, fSum, fSortI, fList, fTuple, fInt, fStr, fIsi, tyD, isLstD, isStrD, isDD, lstD, seqD, stD, eCallF, nAt, iSt, mJoin, mSplit, fAddI, sStar, iEnS, eSortSet, fSet, eLenSet, insAt, lkp, putD, ok_some, ok_none, ok_bind, ok_map, eq_int, eq_bl, sAsg, kb_NoneType_int, kb_NoneType_bool, kb_NoneType_str, kb_NoneType_tuple, kb_NoneType_list, kb_bool_int, kb_bool_bool, kb_bool_str, kb_bool_tuple, kb_bool_list, kb_int_int, kb_int_bool, kb_int_str, kb_int_tuple, kb_int_list, kb_str_int, kb_str_bool, kb_str_str, kb_str_tuple, kb_str_list, kb_tuple_int, kb_tuple_bool, kb_tuple_str, kb_tuple_tuple, kb_tuple_list, kb_list_int, kb_list_bool, kb_list_str, kb_list_tuple, kb_list_list, sz_0, sz_1, sz_2, sz_3, sz_4, sz_5, sz_6, sz_7, sz_8, sz_9, sz_10, sz_11, sz_12, sz_13, sz_14, sz_15, sz_16, ix_1_0, ix_2_0, ix_2_1, ix_3_0, ix_3_1, ix_3_2, ix_4_0, ix_4_1, ix_4_2, ix_4_3, ix_5_0, ix_5_1, ix_5_2, ix_5_3, ix_5_4, ix_6_0, ix_6_1, ix_6_2, ix_6_3, ix_6_4, ix_6_5, ix_7_0, ix_7_1, ix_7_2, ix_7_3, ix_7_4, ix_7_5, ix_7_6, sI_0, sI_1, sI_48271, sI_69621, eq_int, ok_ite]
    refine ⟨fun e0 => ?_, fun _ => keep S3 _ _ _ b3 k3⟩
    refine take_ok b3 (by decide) (by decide) fun y S4 y0 y1 b4 k4 => ?_
    have go : ∀ lim : Int, 0 < lim → lim ≤ 12 → ∀ {R : VV × Sto → Prop}, (∀ r S', 0 ≤ r → r < 12 → Box S' → Kp S2 S' → R (.d (.int r), S')) → ok (d_law_take [.ref 1, .int lim] S4) R := fun lim l0 l1 R hR =>
      take_ok b4 l0 (by omega) fun r S5 r0 r1 b5 k5 => hR r S5 r0 (by omega) b5 ((k3.trans k4).trans k5)
    have fin : ∀ (r : Int) (S5 : Sto) (a b c : Option VV), 0 ≤ r → r < 12 → Box S5 → Kp S2 S5 → InvG S m (i + 1) [some (.d (.ref 1)), some (.d (.int m)), some (.own (.lst (gs.map pD ++ [.tup [.int i, .int (1 + r)]]))), a, b, c] S5 :=
      fun r S5 a b c r0 r1 b5 k5 => ⟨gs ++ [((i : Int), 1 + r)], a, b, c, by simp [pD], ⟨by simp; omega, by
        intro p hp
        rcases List.mem_append.mp hp with q | q
        · have := g2 p q
          omega
        · have e : p = ((i : Int), 1 + r) := by simpa using q
          subst e
          dsimp only
          omega, by
        rw [List.map_append]
        refine List.pairwise_append.mpr ⟨g3, by simp, fun u hu v hv => ?_⟩
        obtain ⟨p, hp, rfl⟩ := List.mem_map.mp hu
        have e : v = (i : Int) := by simpa using hv
        have := g2 p hp
        omega⟩, by omega, b5, k2.trans k5⟩
    rcases (by omega : y = 0 ∨ y = 1) with rfl | rfl
    · simp [sNext, sIf, sBreak, sCont, sNever, sExpr, sRet, sRetO, sRetN, sSet, sAsg, gNm, gsNil, gsCons, gT, eD, eV, eBox, eNm, eC, eOp, eUn, aNil, aCons, eTup, eLst, eCB, bV, bAnd, bOr, bNot, eAnd, eOr, eNot, eIf, eChain, eCall, eFld, sFldS, sFldA, eMeth, eMake, bYes, fSub, fLt, fLe, fGt, fGe, fDiv, fMod, fPow, fNeg, fAdd, fMul, fIsN, fNotN, Yi.isNon, fEq, fNe, fIn, fInS, fIx, intR, oNo, oPart, fSl, eSl, eRev, sAppO, sExtO, sAug, oIx, oIn, oEq, sPar, sPar3, sSetIx, eDGet, eDIn, eDGet2, sDPutS, eDPop1, eDPop2, eDNewK, eDNewT, oDGet, oDIn, eBM, mApp, mExt, mPopAt, mIdx, cellL, iEv, iR1, iR2, iC, fLen, oLen, fMax, fMin, fAll, fAny, fSum, fSortI, fList, fTuple, fInt, fStr, fIsi, tyD, isLstD, isStrD, isDD, lstD, seqD, stD, eCallF, nAt, iSt, mJoin, mSplit, fAddI, sStar, iEnS, eSortSet, fSet, eLenSet, insAt, lkp, putD, ok_some, ok_none, ok_bind, ok_map, eq_int, eq_bl, sAsg, kb_NoneType_int, kb_NoneType_bool, kb_NoneType_str, kb_NoneType_tuple, kb_NoneType_list, kb_bool_int, kb_bool_bool, kb_bool_str, kb_bool_tuple, kb_bool_list, kb_int_int, kb_int_bool, kb_int_str, kb_int_tuple, kb_int_list, kb_str_int, kb_str_bool, kb_str_str, kb_str_tuple, kb_str_list, kb_tuple_int, kb_tuple_bool, kb_tuple_str, kb_tuple_tuple, kb_tuple_list, kb_list_int, kb_list_bool, kb_list_str, kb_list_tuple, kb_list_list, sz_0, sz_1, sz_2, sz_3, sz_4, sz_5, sz_6, sz_7, sz_8, sz_9, sz_10, sz_11, sz_12, sz_13, sz_14, sz_15, sz_16, ix_1_0, ix_2_0, ix_2_1, ix_3_0, ix_3_1, ix_3_2, ix_4_0, ix_4_1, ix_4_2, ix_4_3, ix_5_0, ix_5_1, ix_5_2, ix_5_3, ix_5_4, ix_6_0, ix_6_1, ix_6_2, ix_6_3, ix_6_4, ix_6_5, ix_7_0, ix_7_1, ix_7_2, ix_7_3, ix_7_4, ix_7_5, ix_7_6, sI_0, sI_1, sI_48271, sI_69621, atI]
      refine go 3 (by decide) (by decide) fun r S5 r0 r1 b5 k5 => ?_
      simp [sNext, sIf, sBreak, sCont, sNever, sExpr, sRet, sRetO, sRetN, sSet, sAsg, gNm, gsNil, gsCons, gT, eD, eV, eBox, eNm, eC, eOp, eUn, aNil, aCons, eTup, eLst, eCB, bV, bAnd, bOr, bNot, eAnd, eOr, eNot, eIf, eChain, eCall, eFld, sFldS, sFldA, eMeth, eMake, bYes, fSub, fLt, fLe, fGt, fGe, fDiv, fMod, fPow, fNeg, fAdd, fMul, fIsN, fNotN, Yi.isNon, fEq, fNe, fIn, fInS, fIx, intR, oNo, oPart, fSl, eSl, eRev, sAppO, sExtO, sAug, oIx, oIn, oEq, sPar, sPar3, sSetIx, eDGet, eDIn, eDGet2, sDPutS, eDPop1, eDPop2, eDNewK, eDNewT, oDGet, oDIn, eBM, mApp, mExt, mPopAt, mIdx, cellL, iEv, iR1, iR2, iC, fLen, oLen, fMax, fMin, fAll, fAny, fSum, fSortI, fList, fTuple, fInt, fStr, fIsi, tyD, isLstD, isStrD, isDD, lstD, seqD, stD, eCallF, nAt, iSt, mJoin, mSplit, fAddI, sStar, iEnS, eSortSet, fSet, eLenSet, insAt, lkp, putD, ok_some, ok_none, ok_bind, ok_map, eq_int, eq_bl, sAsg, kb_NoneType_int, kb_NoneType_bool, kb_NoneType_str, kb_NoneType_tuple, kb_NoneType_list, kb_bool_int, kb_bool_bool, kb_bool_str, kb_bool_tuple, kb_bool_list, kb_int_int, kb_int_bool, kb_int_str, kb_int_tuple, kb_int_list, kb_str_int, kb_str_bool, kb_str_str, kb_str_tuple, kb_str_list, kb_tuple_int, kb_tuple_bool, kb_tuple_str, kb_tuple_tuple, kb_tuple_list, kb_list_int, kb_list_bool, kb_list_str, kb_list_tuple, kb_list_list, sz_0, sz_1, sz_2, sz_3, sz_4, sz_5, sz_6, sz_7, sz_8, sz_9, sz_10, sz_11, sz_12, sz_13, sz_14, sz_15, sz_16, ix_1_0, ix_2_0, ix_2_1, ix_3_0, ix_3_1, ix_3_2, ix_4_0, ix_4_1, ix_4_2, ix_4_3, ix_5_0, ix_5_1, ix_5_2, ix_5_3, ix_5_4, ix_6_0, ix_6_1, ix_6_2, ix_6_3, ix_6_4, ix_6_5, ix_7_0, ix_7_1, ix_7_2, ix_7_3, ix_7_4, ix_7_5, ix_7_6, sI_0, sI_1, sI_48271, sI_69621, len]
      exact fin r S5 _ _ _ r0 r1 b5 k5
    · simp [sNext, sIf, sBreak, sCont, sNever, sExpr, sRet, sRetO, sRetN, sSet, sAsg, gNm, gsNil, gsCons, gT, eD, eV, eBox, eNm, eC, eOp, eUn, aNil, aCons, eTup, eLst, eCB, bV, bAnd, bOr, bNot, eAnd, eOr, eNot, eIf, eChain, eCall, eFld, sFldS, sFldA, eMeth, eMake, bYes, fSub, fLt, fLe, fGt, fGe, fDiv, fMod, fPow, fNeg, fAdd, fMul, fIsN, fNotN, Yi.isNon, fEq, fNe, fIn, fInS, fIx, intR, oNo, oPart, fSl, eSl, eRev, sAppO, sExtO, sAug, oIx, oIn, oEq, sPar, sPar3, sSetIx, eDGet, eDIn, eDGet2, sDPutS, eDPop1, eDPop2, eDNewK, eDNewT, oDGet, oDIn, eBM, mApp, mExt, mPopAt, mIdx, cellL, iEv, iR1, iR2, iC, fLen, oLen, fMax, fMin, fAll, fAny, fSum, fSortI, fList, fTuple, fInt, fStr, fIsi, tyD, isLstD, isStrD, isDD, lstD, seqD, stD, eCallF, nAt, iSt, mJoin, mSplit, fAddI, sStar, iEnS, eSortSet, fSet, eLenSet, insAt, lkp, putD, ok_some, ok_none, ok_bind, ok_map, eq_int, eq_bl, sAsg, kb_NoneType_int, kb_NoneType_bool, kb_NoneType_str, kb_NoneType_tuple, kb_NoneType_list, kb_bool_int, kb_bool_bool, kb_bool_str, kb_bool_tuple, kb_bool_list, kb_int_int, kb_int_bool, kb_int_str, kb_int_tuple, kb_int_list, kb_str_int, kb_str_bool, kb_str_str, kb_str_tuple, kb_str_list, kb_tuple_int, kb_tuple_bool, kb_tuple_str, kb_tuple_tuple, kb_tuple_list, kb_list_int, kb_list_bool, kb_list_str, kb_list_tuple, kb_list_list, sz_0, sz_1, sz_2, sz_3, sz_4, sz_5, sz_6, sz_7, sz_8, sz_9, sz_10, sz_11, sz_12, sz_13, sz_14, sz_15, sz_16, ix_1_0, ix_2_0, ix_2_1, ix_3_0, ix_3_1, ix_3_2, ix_4_0, ix_4_1, ix_4_2, ix_4_3, ix_5_0, ix_5_1, ix_5_2, ix_5_3, ix_5_4, ix_6_0, ix_6_1, ix_6_2, ix_6_3, ix_6_4, ix_6_5, ix_7_0, ix_7_1, ix_7_2, ix_7_3, ix_7_4, ix_7_5, ix_7_6, sI_0, sI_1, sI_48271, sI_69621, atI]
      refine go 12 (by decide) (by decide) fun r S5 r0 r1 b5 k5 => ?_
      simp [sNext, sIf, sBreak, sCont, sNever, sExpr, sRet, sRetO, sRetN, sSet, sAsg, gNm, gsNil, gsCons, gT, eD, eV, eBox, eNm, eC, eOp, eUn, aNil, aCons, eTup, eLst, eCB, bV, bAnd, bOr, bNot, eAnd, eOr, eNot, eIf, eChain, eCall, eFld, sFldS, sFldA, eMeth, eMake, bYes, fSub, fLt, fLe, fGt, fGe, fDiv, fMod, fPow, fNeg, fAdd, fMul, fIsN, fNotN, Yi.isNon, fEq, fNe, fIn, fInS, fIx, intR, oNo, oPart, fSl, eSl, eRev, sAppO, sExtO, sAug, oIx, oIn, oEq, sPar, sPar3, sSetIx, eDGet, eDIn, eDGet2, sDPutS, eDPop1, eDPop2, eDNewK, eDNewT, oDGet, oDIn, eBM, mApp, mExt, mPopAt, mIdx, cellL, iEv, iR1, iR2, iC, fLen, oLen, fMax, fMin, fAll, fAny, fSum, fSortI, fList, fTuple, fInt, fStr, fIsi, tyD, isLstD, isStrD, isDD, lstD, seqD, stD, eCallF, nAt, iSt, mJoin, mSplit, fAddI, sStar, iEnS, eSortSet, fSet, eLenSet, insAt, lkp, putD, ok_some, ok_none, ok_bind, ok_map, eq_int, eq_bl, sAsg, kb_NoneType_int, kb_NoneType_bool, kb_NoneType_str, kb_NoneType_tuple, kb_NoneType_list, kb_bool_int, kb_bool_bool, kb_bool_str, kb_bool_tuple, kb_bool_list, kb_int_int, kb_int_bool, kb_int_str, kb_int_tuple, kb_int_list, kb_str_int, kb_str_bool, kb_str_str, kb_str_tuple, kb_str_list, kb_tuple_int, kb_tuple_bool, kb_tuple_str, kb_tuple_tuple, kb_tuple_list, kb_list_int, kb_list_bool, kb_list_str, kb_list_tuple, kb_list_list, sz_0, sz_1, sz_2, sz_3, sz_4, sz_5, sz_6, sz_7, sz_8, sz_9, sz_10, sz_11, sz_12, sz_13, sz_14, sz_15, sz_16, ix_1_0, ix_2_0, ix_2_1, ix_3_0, ix_3_1, ix_3_2, ix_4_0, ix_4_1, ix_4_2, ix_4_3, ix_5_0, ix_5_1, ix_5_2, ix_5_3, ix_5_4, ix_6_0, ix_6_1, ix_6_2, ix_6_3, ix_6_4, ix_6_5, ix_7_0, ix_7_1, ix_7_2, ix_7_3, ix_7_4, ix_7_5, ix_7_6, sI_0, sI_1, sI_48271, sI_69621, len]
      exact fin r S5 _ _ _ r0 r1 b5 k5
  · rintro ⟨f, ρ, S2⟩ ⟨rfl, gs, a, b, c, rfl, ⟨g1, g2, g3⟩, hi8, b2, k2⟩
    refine ⟨rfl, seq_ok ?_⟩
    simp [sNext, sIf, sBreak, sCont, sNever, sExpr, sRet, sRetO, sRetN, sSet, sAsg, gNm, gsNil, gsCons, gT, eD, eV, eBox, eNm, eC, eOp, eUn, aNil, aCons, eTup, eLst, eCB, bV, bAnd, bOr, bNot, eAnd, eOr, eNot, eIf, eChain, eCall, eFld, sFldS, sFldA, eMeth, eMake, bYes, fSub, fLt, fLe, fGt, fGe, fDiv, fMod, fPow, fNeg, fAdd, fMul, fIsN, fNotN, Yi.isNon, fEq, fNe, fIn, fInS, fIx, intR, oNo, oPart, fSl, eSl, eRev, sAppO, sExtO, sAug, oIx, oIn, oEq, sPar, sPar3, sSetIx, eDGet, eDIn, eDGet2, sDPutS, eDPop1, eDPop2, eDNewK, eDNewT, oDGet, oDIn, eBM, mApp, mExt, mPopAt, mIdx, cellL, iEv, iR1, iR2, iC, fLen, oLen, fMax, fMin, fAll, fAny, fSum, fSortI, fList, fTuple, fInt, fStr, fIsi, tyD, isLstD, isStrD, isDD, lstD, seqD, stD, eCallF, nAt, iSt, mJoin, mSplit, fAddI, sStar, iEnS, eSortSet, fSet, eLenSet, insAt, lkp, putD, ok_some, ok_none, ok_bind, ok_map, eq_int, eq_bl, sAsg, kb_NoneType_int, kb_NoneType_bool, kb_NoneType_str, kb_NoneType_tuple, kb_NoneType_list, kb_bool_int, kb_bool_bool, kb_bool_str, kb_bool_tuple, kb_bool_list, kb_int_int, kb_int_bool, kb_int_str, kb_int_tuple, kb_int_list, kb_str_int, kb_str_bool, kb_str_str, kb_str_tuple, kb_str_list, kb_tuple_int, kb_tuple_bool, kb_tuple_str, kb_tuple_tuple, kb_tuple_list, kb_list_int, kb_list_bool, kb_list_str, kb_list_tuple, kb_list_list, sz_0, sz_1, sz_2, sz_3, sz_4, sz_5, sz_6, sz_7, sz_8, sz_9, sz_10, sz_11, sz_12, sz_13, sz_14, sz_15, sz_16, ix_1_0, ix_2_0, ix_2_1, ix_3_0, ix_3_1, ix_3_2, ix_4_0, ix_4_1, ix_4_2, ix_4_3, ix_5_0, ix_5_1, ix_5_2, ix_5_3, ix_5_4, ix_6_0, ix_6_1, ix_6_2, ix_6_3, ix_6_4, ix_6_5, ix_7_0, ix_7_1, ix_7_2, ix_7_3, ix_7_4, ix_7_5, ix_7_6, sI_0, sI_1, sI_48271, sI_69621]
    have m80 : (m : Int) < 2 ^ 80 := by omega
    have m0' : (0 : Int) < m := by omega
    -- the wait
    refine take_ok b2 (by decide) (by decide) fun y S3 y0 y1 b3 k3 => ?_
    have go : ∀ lim : Int, 0 < lim → lim ≤ 24 → ∀ {R : VV × Sto → Prop}, (∀ r S', 0 ≤ r → r < 24 → Box S' → Kp S S' → R (.d (.int r), S')) → ok (d_law_take [.ref 1, .int lim] S3) R := fun lim l0 l1 R hR =>
      take_ok b3 l0 (by omega) fun r S5 r0 r1 b5 k5 => hR r S5 r0 (by omega) b5 ((k2.trans k3).trans k5)
    -- what follows the wait
    have rest : ∀ (w : Option Int) (S3 : Sto), (∀ i, w = some i → 1 ≤ i ∧ i ≤ 24) → Box S3 → Kp S S3 → ok (sSeq (sSet 5 (eOp fIx (eLst (aCons (eC .non) (aCons (eCall d_law_take (aCons (eNm 0) (aCons (eNm 1) aNil)) []) (aCons (eCall d_law_take (aCons (eNm 0) (aCons (eNm 1) aNil)) []) aNil)))) (eCall d_law_take (aCons (eNm 0) (aCons (eC (.int 3)) aNil)) [])))
    (sFrz 2 (sRet (eTup (aCons (eCall d_law_stretches (aCons (eNm 0) aNil) []) (aCons (eCall d_law_take (aCons (eNm 0) (aCons (eC (.int 5)) aNil)) []) (aCons (eCB fTuple (aCons (eNm 2) aNil)) (aCons (eNm 4) (aCons (eNm 5) aNil)))))))) [some (.d (.ref 1)), some (.d (.int m)), some (.own (.lst (gs.map pD))), a, some (.d (oD w)), c] S3) fun p => match p.1 with
      | .nx => Q (.d .non, p.2.2)
      | .rt v => Q (v, p.2.2)
      | _ => False := by
      intro w S3 hw b3 k3
      refine seq_ok ?_
      simp [sNext, sIf, sBreak, sCont, sNever, sExpr, sRet, sRetO, sRetN, sSet, sAsg, gNm, gsNil, gsCons, gT, eD, eV, eBox, eNm, eC, eOp, eUn, aNil, aCons, eTup, eLst, eCB, bV, bAnd, bOr, bNot, eAnd, eOr, eNot, eIf, eChain, eCall, eFld, sFldS, sFldA, eMeth, eMake, bYes, fSub, fLt, fLe, fGt, fGe, fDiv, fMod, fPow, fNeg, fAdd, fMul, fIsN, fNotN, Yi.isNon, fEq, fNe, fIn, fInS, fIx, intR, oNo, oPart, fSl, eSl, eRev, sAppO, sExtO, sAug, oIx, oIn, oEq, sPar, sPar3, sSetIx, eDGet, eDIn, eDGet2, sDPutS, eDPop1, eDPop2, eDNewK, eDNewT, oDGet, oDIn, eBM, mApp, mExt, mPopAt, mIdx, cellL, iEv, iR1, iR2, iC, fLen, oLen, fMax, fMin, fAll, fAny, fSum, fSortI, fList, fTuple, fInt, fStr, fIsi, tyD, isLstD, isStrD, isDD, lstD, seqD, stD, eCallF, nAt, iSt, mJoin, mSplit, fAddI, sStar, iEnS, eSortSet, fSet, eLenSet, insAt, lkp, putD, ok_some, ok_none, ok_bind, ok_map, eq_int, eq_bl, sAsg, kb_NoneType_int, kb_NoneType_bool, kb_NoneType_str, kb_NoneType_tuple, kb_NoneType_list, kb_bool_int, kb_bool_bool, kb_bool_str, kb_bool_tuple, kb_bool_list, kb_int_int, kb_int_bool, kb_int_str, kb_int_tuple, kb_int_list, kb_str_int, kb_str_bool, kb_str_str, kb_str_tuple, kb_str_list, kb_tuple_int, kb_tuple_bool, kb_tuple_str, kb_tuple_tuple, kb_tuple_list, kb_list_int, kb_list_bool, kb_list_str, kb_list_tuple, kb_list_list, sz_0, sz_1, sz_2, sz_3, sz_4, sz_5, sz_6, sz_7, sz_8, sz_9, sz_10, sz_11, sz_12, sz_13, sz_14, sz_15, sz_16, ix_1_0, ix_2_0, ix_2_1, ix_3_0, ix_3_1, ix_3_2, ix_4_0, ix_4_1, ix_4_2, ix_4_3, ix_5_0, ix_5_1, ix_5_2, ix_5_3, ix_5_4, ix_6_0, ix_6_1, ix_6_2, ix_6_3, ix_6_4, ix_6_5, ix_7_0, ix_7_1, ix_7_2, ix_7_3, ix_7_4, ix_7_5, ix_7_6, sI_0, sI_1, sI_48271, sI_69621]
      refine take_ok b3 m0' m80 fun f1 S4 f10 f11 b4 k4 => ?_
      simp [sNext, sIf, sBreak, sCont, sNever, sExpr, sRet, sRetO, sRetN, sSet, sAsg, gNm, gsNil, gsCons, gT, eD, eV, eBox, eNm, eC, eOp, eUn, aNil, aCons, eTup, eLst, eCB, bV, bAnd, bOr, bNot, eAnd, eOr, eNot, eIf, eChain, eCall, eFld, sFldS, sFldA, eMeth, eMake, bYes, fSub, fLt, fLe, fGt, fGe, fDiv, fMod, fPow, fNeg, fAdd, fMul, fIsN, fNotN, Yi.isNon, fEq, fNe, fIn, fInS, fIx, intR, oNo, oPart, fSl, eSl, eRev, sAppO, sExtO, sAug, oIx, oIn, oEq, sPar, sPar3, sSetIx, eDGet, eDIn, eDGet2, sDPutS, eDPop1, eDPop2, eDNewK, eDNewT, oDGet, oDIn, eBM, mApp, mExt, mPopAt, mIdx, cellL, iEv, iR1, iR2, iC, fLen, oLen, fMax, fMin, fAll, fAny, fSum, fSortI, fList, fTuple, fInt, fStr, fIsi, tyD, isLstD, isStrD, isDD, lstD, seqD, stD, eCallF, nAt, iSt, mJoin, mSplit, fAddI, sStar, iEnS, eSortSet, fSet, eLenSet, insAt, lkp, putD, ok_some, ok_none, ok_bind, ok_map, eq_int, eq_bl, sAsg, kb_NoneType_int, kb_NoneType_bool, kb_NoneType_str, kb_NoneType_tuple, kb_NoneType_list, kb_bool_int, kb_bool_bool, kb_bool_str, kb_bool_tuple, kb_bool_list, kb_int_int, kb_int_bool, kb_int_str, kb_int_tuple, kb_int_list, kb_str_int, kb_str_bool, kb_str_str, kb_str_tuple, kb_str_list, kb_tuple_int, kb_tuple_bool, kb_tuple_str, kb_tuple_tuple, kb_tuple_list, kb_list_int, kb_list_bool, kb_list_str, kb_list_tuple, kb_list_list, sz_0, sz_1, sz_2, sz_3, sz_4, sz_5, sz_6, sz_7, sz_8, sz_9, sz_10, sz_11, sz_12, sz_13, sz_14, sz_15, sz_16, ix_1_0, ix_2_0, ix_2_1, ix_3_0, ix_3_1, ix_3_2, ix_4_0, ix_4_1, ix_4_2, ix_4_3, ix_5_0, ix_5_1, ix_5_2, ix_5_3, ix_5_4, ix_6_0, ix_6_1, ix_6_2, ix_6_3, ix_6_4, ix_6_5, ix_7_0, ix_7_1, ix_7_2, ix_7_3, ix_7_4, ix_7_5, ix_7_6, sI_0, sI_1, sI_48271, sI_69621]
      refine take_ok b4 m0' m80 fun f2 S5 f20 f21 b5 k5 => ?_
      simp [sNext, sIf, sBreak, sCont, sNever, sExpr, sRet, sRetO, sRetN, sSet, sAsg, gNm, gsNil, gsCons, gT, eD, eV, eBox, eNm, eC, eOp, eUn, aNil, aCons, eTup, eLst, eCB, bV, bAnd, bOr, bNot, eAnd, eOr, eNot, eIf, eChain, eCall, eFld, sFldS, sFldA, eMeth, eMake, bYes, fSub, fLt, fLe, fGt, fGe, fDiv, fMod, fPow, fNeg, fAdd, fMul, fIsN, fNotN, Yi.isNon, fEq, fNe, fIn, fInS, fIx, intR, oNo, oPart, fSl, eSl, eRev, sAppO, sExtO, sAug, oIx, oIn, oEq, sPar, sPar3, sSetIx, eDGet, eDIn, eDGet2, sDPutS, eDPop1, eDPop2, eDNewK, eDNewT, oDGet, oDIn, eBM, mApp, mExt, mPopAt, mIdx, cellL, iEv, iR1, iR2, iC, fLen, oLen, fMax, fMin, fAll, fAny, fSum, fSortI, fList, fTuple, fInt, fStr, fIsi, tyD, isLstD, isStrD, isDD, lstD, seqD, stD, eCallF, nAt, iSt, mJoin, mSplit, fAddI, sStar, iEnS, eSortSet, fSet, eLenSet, insAt, lkp, putD, ok_some, ok_none, ok_bind, ok_map, eq_int, eq_bl, sAsg, kb_NoneType_int, kb_NoneType_bool, kb_NoneType_str, kb_NoneType_tuple, kb_NoneType_list, kb_bool_int, kb_bool_bool, kb_bool_str, kb_bool_tuple, kb_bool_list, kb_int_int, kb_int_bool, kb_int_str, kb_int_tuple, kb_int_list, kb_str_int, kb_str_bool, kb_str_str, kb_str_tuple, kb_str_list, kb_tuple_int, kb_tuple_bool, kb_tuple_str, kb_tuple_tuple, kb_tuple_list, kb_list_int, kb_list_bool, kb_list_str, kb_list_tuple, kb_list_list, sz_0, sz_1, sz_2, sz_3, sz_4, sz_5, sz_6, sz_7, sz_8, sz_9, sz_10, sz_11, sz_12, sz_13, sz_14, sz_15, sz_16, ix_1_0, ix_2_0, ix_2_1, ix_3_0, ix_3_1, ix_3_2, ix_4_0, ix_4_1, ix_4_2, ix_4_3, ix_5_0, ix_5_1, ix_5_2, ix_5_3, ix_5_4, ix_6_0, ix_6_1, ix_6_2, ix_6_3, ix_6_4, ix_6_5, ix_7_0, ix_7_1, ix_7_2, ix_7_3, ix_7_4, ix_7_5, ix_7_6, sI_0, sI_1, sI_48271, sI_69621]
      refine take_ok b5 (by decide) (by decide) fun z S6 z0 z1 b6 k6 => ?_
      have last : ∀ (f : Option Int), (∀ i, f = some i → 0 ≤ i ∧ i < m) → ok (sFrz 2 (sRet (eTup (aCons (eCall d_law_stretches (aCons (eNm 0) aNil) []) (aCons (eCall d_law_take (aCons (eNm 0) (aCons (eC (.int 5)) aNil)) []) (aCons (eCB fTuple (aCons (eNm 2) aNil)) (aCons (eNm 4) (aCons (eNm 5) aNil))))))) [some (.d (.ref 1)), some (.d (.int m)), some (.own (.lst (gs.map pD))), a, some (.d (oD w)), some (.d (oD f))] S6) fun p => match p.1 with
        | .nx => Q (.d .non, p.2.2)
        | .rt v => Q (v, p.2.2)
        | _ => False := by
        intro f hf
        simp [sFrz, sBox, sNext, sIf, sBreak, sCont, sNever, sExpr, sRet, sRetO, sRetN, sSet, sAsg, gNm, gsNil, gsCons, gT, eD, eV, eBox, eNm, eC, eOp, eUn, aNil, aCons, eTup, eLst, eCB, bV, bAnd, bOr, bNot, eAnd, eOr, eNot, eIf, eChain, eCall, eFld, sFldS, sFldA, eMeth, eMake, bYes, fSub, fLt, fLe, fGt, fGe, fDiv, fMod, fPow, fNeg, fAdd, fMul, fIsN, fNotN, Yi.isNon, fEq, fNe, fIn, fInS, fIx, intR, oNo, oPart, fSl, eSl, eRev, sAppO, sExtO, sAug, oIx, oIn, oEq, sPar, sPar3, sSetIx, eDGet, eDIn, eDGet2, sDPutS, eDPop1, eDPop2, eDNewK, eDNewT, oDGet, oDIn, eBM, mApp, mExt, mPopAt, mIdx, cellL, iEv, iR1, iR2, iC, fLen, oLen, fMax, fMin, fAll, fAny, fSum, fSortI, fList, fTuple, fInt, fStr, fIsi, tyD, isLstD, isStrD, isDD, lstD, seqD, stD, eCallF, nAt, iSt, mJoin, mSplit, fAddI, sStar, iEnS, eSortSet, fSet, eLenSet, insAt, lkp, putD, ok_some, ok_none, ok_bind, ok_map, eq_int, eq_bl, sAsg, kb_NoneType_int, kb_NoneType_bool, kb_NoneType_str, kb_NoneType_tuple, kb_NoneType_list, kb_bool_int, kb_bool_bool, kb_bool_str, kb_bool_tuple, kb_bool_list, kb_int_int, kb_int_bool, kb_int_str, kb_int_tuple, kb_int_list, kb_str_int, kb_str_bool, kb_str_str, kb_str_tuple, kb_str_list, kb_tuple_int, kb_tuple_bool, kb_tuple_str, kb_tuple_tuple, kb_tuple_list, kb_list_int, kb_list_bool, kb_list_str, kb_list_tuple, kb_list_list, sz_0, sz_1, sz_2, sz_3, sz_4, sz_5, sz_6, sz_7, sz_8, sz_9, sz_10, sz_11, sz_12, sz_13, sz_14, sz_15, sz_16, ix_1_0, ix_2_0, ix_2_1, ix_3_0, ix_3_1, ix_3_2, ix_4_0, ix_4_1, ix_4_2, ix_4_3, ix_5_0, ix_5_1, ix_5_2, ix_5_3, ix_5_4, ix_6_0, ix_6_1, ix_6_2, ix_6_3, ix_6_4, ix_6_5, ix_7_0, ix_7_1, ix_7_2, ix_7_3, ix_7_4, ix_7_5, ix_7_6, sI_0, sI_1, sI_48271, sI_69621]
        refine stretches_ok b6 fun hs S7 l3 hg b7 k7 => ?_
        simp [sNext, sIf, sBreak, sCont, sNever, sExpr, sRet, sRetO, sRetN, sSet, sAsg, gNm, gsNil, gsCons, gT, eD, eV, eBox, eNm, eC, eOp, eUn, aNil, aCons, eTup, eLst, eCB, bV, bAnd, bOr, bNot, eAnd, eOr, eNot, eIf, eChain, eCall, eFld, sFldS, sFldA, eMeth, eMake, bYes, fSub, fLt, fLe, fGt, fGe, fDiv, fMod, fPow, fNeg, fAdd, fMul, fIsN, fNotN, Yi.isNon, fEq, fNe, fIn, fInS, fIx, intR, oNo, oPart, fSl, eSl, eRev, sAppO, sExtO, sAug, oIx, oIn, oEq, sPar, sPar3, sSetIx, eDGet, eDIn, eDGet2, sDPutS, eDPop1, eDPop2, eDNewK, eDNewT, oDGet, oDIn, eBM, mApp, mExt, mPopAt, mIdx, cellL, iEv, iR1, iR2, iC, fLen, oLen, fMax, fMin, fAll, fAny, fSum, fSortI, fList, fTuple, fInt, fStr, fIsi, tyD, isLstD, isStrD, isDD, lstD, seqD, stD, eCallF, nAt, iSt, mJoin, mSplit, fAddI, sStar, iEnS, eSortSet, fSet, eLenSet, insAt, lkp, putD, ok_some, ok_none, ok_bind, ok_map, eq_int, eq_bl, sAsg, kb_NoneType_int, kb_NoneType_bool, kb_NoneType_str, kb_NoneType_tuple, kb_NoneType_list, kb_bool_int, kb_bool_bool, kb_bool_str, kb_bool_tuple, kb_bool_list, kb_int_int, kb_int_bool, kb_int_str, kb_int_tuple, kb_int_list, kb_str_int, kb_str_bool, kb_str_str, kb_str_tuple, kb_str_list, kb_tuple_int, kb_tuple_bool, kb_tuple_str, kb_tuple_tuple, kb_tuple_list, kb_list_int, kb_list_bool, kb_list_str, kb_list_tuple, kb_list_list, sz_0, sz_1, sz_2, sz_3, sz_4, sz_5, sz_6, sz_7, sz_8, sz_9, sz_10, sz_11, sz_12, sz_13, sz_14, sz_15, sz_16, ix_1_0, ix_2_0, ix_2_1, ix_3_0, ix_3_1, ix_3_2, ix_4_0, ix_4_1, ix_4_2, ix_4_3, ix_5_0, ix_5_1, ix_5_2, ix_5_3, ix_5_4, ix_6_0, ix_6_1, ix_6_2, ix_6_3, ix_6_4, ix_6_5, ix_7_0, ix_7_1, ix_7_2, ix_7_3, ix_7_4, ix_7_5, ix_7_6, sI_0, sI_1, sI_48271, sI_69621]
        refine take_ok b7 (by decide) (by decide) fun l S8 l0 l1 b8 k8 => ?_
        simp [sNext, sIf, sBreak, sCont, sNever, sExpr, sRet, sRetO, sRetN, sSet, sAsg, gNm, gsNil, gsCons, gT, eD, eV, eBox, eNm, eC, eOp, eUn, aNil, aCons, eTup, eLst, eCB, bV, bAnd, bOr, bNot, eAnd, eOr, eNot, eIf, eChain, eCall, eFld, sFldS, sFldA, eMeth, eMake, bYes, fSub, fLt, fLe, fGt, fGe, fDiv, fMod, fPow, fNeg, fAdd, fMul, fIsN, fNotN, Yi.isNon, fEq, fNe, fIn, fInS, fIx, intR, oNo, oPart, fSl, eSl, eRev, sAppO, sExtO, sAug, oIx, oIn, oEq, sPar, sPar3, sSetIx, eDGet, eDIn, eDGet2, sDPutS, eDPop1, eDPop2, eDNewK, eDNewT, oDGet, oDIn, eBM, mApp, mExt, mPopAt, mIdx, cellL, iEv, iR1, iR2, iC, fLen, oLen, fMax, fMin, fAll, fAny, fSum, fSortI, fList, fTuple, fInt, fStr, fIsi, tyD, isLstD, isStrD, isDD, lstD, seqD, stD, eCallF, nAt, iSt, mJoin, mSplit, fAddI, sStar, iEnS, eSortSet, fSet, eLenSet, insAt, lkp, putD, ok_some, ok_none, ok_bind, ok_map, eq_int, eq_bl, sAsg, kb_NoneType_int, kb_NoneType_bool, kb_NoneType_str, kb_NoneType_tuple, kb_NoneType_list, kb_bool_int, kb_bool_bool, kb_bool_str, kb_bool_tuple, kb_bool_list, kb_int_int, kb_int_bool, kb_int_str, kb_int_tuple, kb_int_list, kb_str_int, kb_str_bool, kb_str_str, kb_str_tuple, kb_str_list, kb_tuple_int, kb_tuple_bool, kb_tuple_str, kb_tuple_tuple, kb_tuple_list, kb_list_int, kb_list_bool, kb_list_str, kb_list_tuple, kb_list_list, sz_0, sz_1, sz_2, sz_3, sz_4, sz_5, sz_6, sz_7, sz_8, sz_9, sz_10, sz_11, sz_12, sz_13, sz_14, sz_15, sz_16, ix_1_0, ix_2_0, ix_2_1, ix_3_0, ix_3_1, ix_3_2, ix_4_0, ix_4_1, ix_4_2, ix_4_3, ix_5_0, ix_5_1, ix_5_2, ix_5_3, ix_5_4, ix_6_0, ix_6_1, ix_6_2, ix_6_3, ix_6_4, ix_6_5, ix_7_0, ix_7_1, ix_7_2, ix_7_3, ix_7_4, ix_7_5, ix_7_6, sI_0, sI_1, sI_48271, sI_69621]
        exact hQ ⟨hs, l, gs, w, f⟩ S8 ⟨l3, hg, l0, Int.le_of_lt_add_one l1, g1, fun p hp => by have := g2 p hp; omega, g3, hw, hf⟩ b8 (((((k3.trans k4).trans k5).trans k6).trans k7).trans k8)
      rcases (by omega : z = 0 ∨ z = 1 ∨ z = 2) with rfl | rfl | rfl
      · simp [sNext, sIf, sBreak, sCont, sNever, sExpr, sRet, sRetO, sRetN, sSet, sAsg, gNm, gsNil, gsCons, gT, eD, eV, eBox, eNm, eC, eOp, eUn, aNil, aCons, eTup, eLst, eCB, bV, bAnd, bOr, bNot, eAnd, eOr, eNot, eIf, eChain, eCall, eFld, sFldS, sFldA, eMeth, eMake, bYes, fSub, fLt, fLe, fGt, fGe, fDiv, fMod, fPow, fNeg, fAdd, fMul, fIsN, fNotN, Yi.isNon, fEq, fNe, fIn, fInS, fIx, intR, oNo, oPart, fSl, eSl, eRev, sAppO, sExtO, sAug, oIx, oIn, oEq, sPar, sPar3, sSetIx, eDGet, eDIn, eDGet2, sDPutS, eDPop1, eDPop2, eDNewK, eDNewT, oDGet, oDIn, eBM, mApp, mExt, mPopAt, mIdx, cellL, iEv, iR1, iR2, iC, fLen, oLen, fMax, fMin, fAll, fAny, fSum, fSortI, fList, fTuple, fInt, fStr, fIsi, tyD, isLstD, isStrD, isDD, lstD, seqD, stD, eCallF, nAt, iSt, mJoin, mSplit, fAddI, sStar, iEnS, eSortSet, fSet, eLenSet, insAt, lkp, putD, ok_some, ok_none, ok_bind, ok_map, eq_int, eq_bl, sAsg, kb_NoneType_int, kb_NoneType_bool, kb_NoneType_str, kb_NoneType_tuple, kb_NoneType_list, kb_bool_int, kb_bool_bool, kb_bool_str, kb_bool_tuple, kb_bool_list, kb_int_int, kb_int_bool, kb_int_str, kb_int_tuple, kb_int_list, kb_str_int, kb_str_bool, kb_str_str, kb_str_tuple, kb_str_list, kb_tuple_int, kb_tuple_bool, kb_tuple_str, kb_tuple_tuple, kb_tuple_list, kb_list_int, kb_list_bool, kb_list_str, kb_list_tuple, kb_list_list, sz_0, sz_1, sz_2, sz_3, sz_4, sz_5, sz_6, sz_7, sz_8, sz_9, sz_10, sz_11, sz_12, sz_13, sz_14, sz_15, sz_16, ix_1_0, ix_2_0, ix_2_1, ix_3_0, ix_3_1, ix_3_2, ix_4_0, ix_4_1, ix_4_2, ix_4_3, ix_5_0, ix_5_1, ix_5_2, ix_5_3, ix_5_4, ix_6_0, ix_6_1, ix_6_2, ix_6_3, ix_6_4, ix_6_5, ix_7_0, ix_7_1, ix_7_2, ix_7_3, ix_7_4, ix_7_5, ix_7_6, sI_0, sI_1, sI_48271, sI_69621, atI]
        exact last none (by simp)
      · simp [sNext, sIf, sBreak, sCont, sNever, sExpr, sRet, sRetO, sRetN, sSet, sAsg, gNm, gsNil, gsCons, gT, eD, eV, eBox, eNm, eC, eOp, eUn, aNil, aCons, eTup, eLst, eCB, bV, bAnd, bOr, bNot, eAnd, eOr, eNot, eIf, eChain, eCall, eFld, sFldS, sFldA, eMeth, eMake, bYes, fSub, fLt, fLe, fGt, fGe, fDiv, fMod, fPow, fNeg, fAdd, fMul, fIsN, fNotN, Yi.isNon, fEq, fNe, fIn, fInS, fIx, intR, oNo, oPart, fSl, eSl, eRev, sAppO, sExtO, sAug, oIx, oIn, oEq, sPar, sPar3, sSetIx, eDGet, eDIn, eDGet2, sDPutS, eDPop1, eDPop2, eDNewK, eDNewT, oDGet, oDIn, eBM, mApp, mExt, mPopAt, mIdx, cellL, iEv, iR1, iR2, iC, fLen, oLen, fMax, fMin, fAll, fAny, fSum, fSortI, fList, fTuple, fInt, fStr, fIsi, tyD, isLstD, isStrD, isDD, lstD, seqD, stD, eCallF, nAt, iSt, mJoin, mSplit, fAddI, sStar, iEnS, eSortSet, fSet, eLenSet, insAt, lkp, putD, ok_some, ok_none, ok_bind, ok_map, eq_int, eq_bl, sAsg, kb_NoneType_int, kb_NoneType_bool, kb_NoneType_str, kb_NoneType_tuple, kb_NoneType_list, kb_bool_int, kb_bool_bool, kb_bool_str, kb_bool_tuple, kb_bool_list, kb_int_int, kb_int_bool, kb_int_str, kb_int_tuple, kb_int_list, kb_str_int, kb_str_bool, kb_str_str, kb_str_tuple, kb_str_list, kb_tuple_int, kb_tuple_bool, kb_tuple_str, kb_tuple_tuple, kb_tuple_list, kb_list_int, kb_list_bool, kb_list_str, kb_list_tuple, kb_list_list, sz_0, sz_1, sz_2, sz_3, sz_4, sz_5, sz_6, sz_7, sz_8, sz_9, sz_10, sz_11, sz_12, sz_13, sz_14, sz_15, sz_16, ix_1_0, ix_2_0, ix_2_1, ix_3_0, ix_3_1, ix_3_2, ix_4_0, ix_4_1, ix_4_2, ix_4_3, ix_5_0, ix_5_1, ix_5_2, ix_5_3, ix_5_4, ix_6_0, ix_6_1, ix_6_2, ix_6_3, ix_6_4, ix_6_5, ix_7_0, ix_7_1, ix_7_2, ix_7_3, ix_7_4, ix_7_5, ix_7_6, sI_0, sI_1, sI_48271, sI_69621, atI]
        exact last (some f1) (by simp; omega)
      · simp [sNext, sIf, sBreak, sCont, sNever, sExpr, sRet, sRetO, sRetN, sSet, sAsg, gNm, gsNil, gsCons, gT, eD, eV, eBox, eNm, eC, eOp, eUn, aNil, aCons, eTup, eLst, eCB, bV, bAnd, bOr, bNot, eAnd, eOr, eNot, eIf, eChain, eCall, eFld, sFldS, sFldA, eMeth, eMake, bYes, fSub, fLt, fLe, fGt, fGe, fDiv, fMod, fPow, fNeg, fAdd, fMul, fIsN, fNotN, Yi.isNon, fEq, fNe, fIn, fInS, fIx, intR, oNo, oPart, fSl, eSl, eRev, sAppO, sExtO, sAug, oIx, oIn, oEq, sPar, sPar3, sSetIx, eDGet, eDIn, eDGet2, sDPutS, eDPop1, eDPop2, eDNewK, eDNewT, oDGet, oDIn, eBM, mApp, mExt, mPopAt, mIdx, cellL, iEv, iR1, iR2, iC, fLen, oLen, fMax, fMin, fAll, fAny, fSum, fSortI, fList, fTuple, fInt, fStr, fIsi, tyD, isLstD, isStrD, isDD, lstD, seqD, stD, eCallF, nAt, iSt, mJoin, mSplit, fAddI, sStar, iEnS, eSortSet, fSet, eLenSet, insAt, lkp, putD, ok_some, ok_none, ok_bind, ok_map, eq_int, eq_bl, sAsg, kb_NoneType_int, kb_NoneType_bool, kb_NoneType_str, kb_NoneType_tuple, kb_NoneType_list, kb_bool_int, kb_bool_bool, kb_bool_str, kb_bool_tuple, kb_bool_list, kb_int_int, kb_int_bool, kb_int_str, kb_int_tuple, kb_int_list, kb_str_int, kb_str_bool, kb_str_str, kb_str_tuple, kb_str_list, kb_tuple_int, kb_tuple_bool, kb_tuple_str, kb_tuple_tuple, kb_tuple_list, kb_list_int, kb_list_bool, kb_list_str, kb_list_tuple, kb_list_list, sz_0, sz_1, sz_2, sz_3, sz_4, sz_5, sz_6, sz_7, sz_8, sz_9, sz_10, sz_11, sz_12, sz_13, sz_14, sz_15, sz_16, ix_1_0, ix_2_0, ix_2_1, ix_3_0, ix_3_1, ix_3_2, ix_4_0, ix_4_1, ix_4_2, ix_4_3, ix_5_0, ix_5_1, ix_5_2, ix_5_3, ix_5_4, ix_6_0, ix_6_1, ix_6_2, ix_6_3, ix_6_4, ix_6_5, ix_7_0, ix_7_1, ix_7_2, ix_7_3, ix_7_4, ix_7_5, ix_7_6, sI_0, sI_1, sI_48271, sI_69621, atI]
        exact last (some f2) (by simp; omega)
    rcases (by omega : y = 0 ∨ y = 1) with rfl | rfl
    · simp [sNext, sIf, sBreak, sCont, sNever, sExpr, sRet, sRetO, sRetN, sSet, sAsg, gNm, gsNil, gsCons, gT, eD, eV, eBox, eNm, eC, eOp, eUn, aNil, aCons, eTup, eLst, eCB, bV, bAnd, bOr, bNot, eAnd, eOr, eNot, eIf, eChain, eCall, eFld, sFldS, sFldA, eMeth, eMake, bYes, fSub, fLt, fLe, fGt, fGe, fDiv, fMod, fPow, fNeg, fAdd, fMul, fIsN, fNotN, Yi.isNon, fEq, fNe, fIn, fInS, fIx, intR, oNo, oPart, fSl, eSl, eRev, sAppO, sExtO, sAug, oIx, oIn, oEq, sPar, sPar3, sSetIx, eDGet, eDIn, eDGet2, sDPutS, eDPop1, eDPop2, eDNewK, eDNewT, oDGet, oDIn, eBM, mApp, mExt, mPopAt, mIdx, cellL, iEv, iR1, iR2, iC, fLen, oLen, fMax, fMin, fAll, fAny, fSum, fSortI, fList, fTuple, fInt, fStr, fIsi, tyD, isLstD, isStrD, isDD, lstD, seqD, stD, eCallF, nAt, iSt, mJoin, mSplit, fAddI, sStar, iEnS, eSortSet, fSet, eLenSet, insAt, lkp, putD, ok_some, ok_none, ok_bind, ok_map, eq_int, eq_bl, sAsg, kb_NoneType_int, kb_NoneType_bool, kb_NoneType_str, kb_NoneType_tuple, kb_NoneType_list, kb_bool_int, kb_bool_bool, kb_bool_str, kb_bool_tuple, kb_bool_list, kb_int_int, kb_int_bool, kb_int_str, kb_int_tuple, kb_int_list, kb_str_int, kb_str_bool, kb_str_str, kb_str_tuple, kb_str_list, kb_tuple_int, kb_tuple_bool, kb_tuple_str, kb_tuple_tuple, kb_tuple_list, kb_list_int, kb_list_bool, kb_list_str, kb_list_tuple, kb_list_list, sz_0, sz_1, sz_2, sz_3, sz_4, sz_5, sz_6, sz_7, sz_8, sz_9, sz_10, sz_11, sz_12, sz_13, sz_14, sz_15, sz_16, ix_1_0, ix_2_0, ix_2_1, ix_3_0, ix_3_1, ix_3_2, ix_4_0, ix_4_1, ix_4_2, ix_4_3, ix_5_0, ix_5_1, ix_5_2, ix_5_3, ix_5_4, ix_6_0, ix_6_1, ix_6_2, ix_6_3, ix_6_4, ix_6_5, ix_7_0, ix_7_1, ix_7_2, ix_7_3, ix_7_4, ix_7_5, ix_7_6, sI_0, sI_1, sI_48271, sI_69621, atI]
      refine go 6 (by decide) (by decide) fun r S5 r0 r1 b5 k5 => ?_
      simp [sNext, sIf, sBreak, sCont, sNever, sExpr, sRet, sRetO, sRetN, sSet, sAsg, gNm, gsNil, gsCons, gT, eD, eV, eBox, eNm, eC, eOp, eUn, aNil, aCons, eTup, eLst, eCB, bV, bAnd, bOr, bNot, eAnd, eOr, eNot, eIf, eChain, eCall, eFld, sFldS, sFldA, eMeth, eMake, bYes, fSub, fLt, fLe, fGt, fGe, fDiv, fMod, fPow, fNeg, fAdd, fMul, fIsN, fNotN, Yi.isNon, fEq, fNe, fIn, fInS, fIx, intR, oNo, oPart, fSl, eSl, eRev, sAppO, sExtO, sAug, oIx, oIn, oEq, sPar, sPar3, sSetIx, eDGet, eDIn, eDGet2, sDPutS, eDPop1, eDPop2, eDNewK, eDNewT, oDGet, oDIn, eBM, mApp, mExt, mPopAt, mIdx, cellL, iEv, iR1, iR2, iC, fLen, oLen, fMax, fMin, fAll, fAny, fSum, fSortI, fList, fTuple, fInt, fStr, fIsi, tyD, isLstD, isStrD, isDD, lstD, seqD, stD, eCallF, nAt, iSt, mJoin, mSplit, fAddI, sStar, iEnS, eSortSet, fSet, eLenSet, insAt, lkp, putD, ok_some, ok_none, ok_bind, ok_map, eq_int, eq_bl, sAsg, kb_NoneType_int, kb_NoneType_bool, kb_NoneType_str, kb_NoneType_tuple, kb_NoneType_list, kb_bool_int, kb_bool_bool, kb_bool_str, kb_bool_tuple, kb_bool_list, kb_int_int, kb_int_bool, kb_int_str, kb_int_tuple, kb_int_list, kb_str_int, kb_str_bool, kb_str_str, kb_str_tuple, kb_str_list, kb_tuple_int, kb_tuple_bool, kb_tuple_str, kb_tuple_tuple, kb_tuple_list, kb_list_int, kb_list_bool, kb_list_str, kb_list_tuple, kb_list_list, sz_0, sz_1, sz_2, sz_3, sz_4, sz_5, sz_6, sz_7, sz_8, sz_9, sz_10, sz_11, sz_12, sz_13, sz_14, sz_15, sz_16, ix_1_0, ix_2_0, ix_2_1, ix_3_0, ix_3_1, ix_3_2, ix_4_0, ix_4_1, ix_4_2, ix_4_3, ix_5_0, ix_5_1, ix_5_2, ix_5_3, ix_5_4, ix_6_0, ix_6_1, ix_6_2, ix_6_3, ix_6_4, ix_6_5, ix_7_0, ix_7_1, ix_7_2, ix_7_3, ix_7_4, ix_7_5, ix_7_6, sI_0, sI_1, sI_48271, sI_69621]
      refine take_ok b5 (by decide) (by decide) fun z S6 z0 z1 b6 k6 => ?_
      rcases (by omega : z = 0 ∨ z = 1 ∨ z = 2) with rfl | rfl | rfl
      · simp [sNext, sIf, sBreak, sCont, sNever, sExpr, sRet, sRetO, sRetN, sSet, sAsg, gNm, gsNil, gsCons, gT, eD, eV, eBox, eNm, eC, eOp, eUn, aNil, aCons, eTup, eLst, eCB, bV, bAnd, bOr, bNot, eAnd, eOr, eNot, eIf, eChain, eCall, eFld, sFldS, sFldA, eMeth, eMake, bYes, fSub, fLt, fLe, fGt, fGe, fDiv, fMod, fPow, fNeg, fAdd, fMul, fIsN, fNotN, Yi.isNon, fEq, fNe, fIn, fInS, fIx, intR, oNo, oPart, fSl, eSl, eRev, sAppO, sExtO, sAug, oIx, oIn, oEq, sPar, sPar3, sSetIx, eDGet, eDIn, eDGet2, sDPutS, eDPop1, eDPop2, eDNewK, eDNewT, oDGet, oDIn, eBM, mApp, mExt, mPopAt, mIdx, cellL, iEv, iR1, iR2, iC, fLen, oLen, fMax, fMin, fAll, fAny, fSum, fSortI, fList, fTuple, fInt, fStr, fIsi, tyD, isLstD, isStrD, isDD, lstD, seqD, stD, eCallF, nAt, iSt, mJoin, mSplit, fAddI, sStar, iEnS, eSortSet, fSet, eLenSet, insAt, lkp, putD, ok_some, ok_none, ok_bind, ok_map, eq_int, eq_bl, sAsg, kb_NoneType_int, kb_NoneType_bool, kb_NoneType_str, kb_NoneType_tuple, kb_NoneType_list, kb_bool_int, kb_bool_bool, kb_bool_str, kb_bool_tuple, kb_bool_list, kb_int_int, kb_int_bool, kb_int_str, kb_int_tuple, kb_int_list, kb_str_int, kb_str_bool, kb_str_str, kb_str_tuple, kb_str_list, kb_tuple_int, kb_tuple_bool, kb_tuple_str, kb_tuple_tuple, kb_tuple_list, kb_list_int, kb_list_bool, kb_list_str, kb_list_tuple, kb_list_list, sz_0, sz_1, sz_2, sz_3, sz_4, sz_5, sz_6, sz_7, sz_8, sz_9, sz_10, sz_11, sz_12, sz_13, sz_14, sz_15, sz_16, ix_1_0, ix_2_0, ix_2_1, ix_3_0, ix_3_1, ix_3_2, ix_4_0, ix_4_1, ix_4_2, ix_4_3, ix_5_0, ix_5_1, ix_5_2, ix_5_3, ix_5_4, ix_6_0, ix_6_1, ix_6_2, ix_6_3, ix_6_4, ix_6_5, ix_7_0, ix_7_1, ix_7_2, ix_7_3, ix_7_4, ix_7_5, ix_7_6, sI_0, sI_1, sI_48271, sI_69621, atI]
        exact rest none S6 (by simp) b6 (k5.trans k6)
      · simp [sNext, sIf, sBreak, sCont, sNever, sExpr, sRet, sRetO, sRetN, sSet, sAsg, gNm, gsNil, gsCons, gT, eD, eV, eBox, eNm, eC, eOp, eUn, aNil, aCons, eTup, eLst, eCB, bV, bAnd, bOr, bNot, eAnd, eOr, eNot, eIf, eChain, eCall, eFld, sFldS, sFldA, eMeth, eMake, bYes, fSub, fLt, fLe, fGt, fGe, fDiv, fMod, fPow, fNeg, fAdd, fMul, fIsN, fNotN, Yi.isNon, fEq, fNe, fIn, fInS, fIx, intR, oNo, oPart, fSl, eSl, eRev, sAppO, sExtO, sAug, oIx, oIn, oEq, sPar, sPar3, sSetIx, eDGet, eDIn, eDGet2, sDPutS, eDPop1, eDPop2, eDNewK, eDNewT, oDGet, oDIn, eBM, mApp, mExt, mPopAt, mIdx, cellL, iEv, iR1, iR2, iC, fLen, oLen, fMax, fMin, fAll, fAny, fSum, fSortI, fList, fTuple, fInt, fStr, fIsi, tyD, isLstD, isStrD, isDD, lstD, seqD, stD, eCallF, nAt, iSt, mJoin, mSplit, fAddI, sStar, iEnS, eSortSet, fSet, eLenSet, insAt, lkp, putD, ok_some, ok_none, ok_bind, ok_map, eq_int, eq_bl, sAsg, kb_NoneType_int, kb_NoneType_bool, kb_NoneType_str, kb_NoneType_tuple, kb_NoneType_list, kb_bool_int, kb_bool_bool, kb_bool_str, kb_bool_tuple, kb_bool_list, kb_int_int, kb_int_bool, kb_int_str, kb_int_tuple, kb_int_list, kb_str_int, kb_str_bool, kb_str_str, kb_str_tuple, kb_str_list, kb_tuple_int, kb_tuple_bool, kb_tuple_str, kb_tuple_tuple, kb_tuple_list, kb_list_int, kb_list_bool, kb_list_str, kb_list_tuple, kb_list_list, sz_0, sz_1, sz_2, sz_3, sz_4, sz_5, sz_6, sz_7, sz_8, sz_9, sz_10, sz_11, sz_12, sz_13, sz_14, sz_15, sz_16, ix_1_0, ix_2_0, ix_2_1, ix_3_0, ix_3_1, ix_3_2, ix_4_0, ix_4_1, ix_4_2, ix_4_3, ix_5_0, ix_5_1, ix_5_2, ix_5_3, ix_5_4, ix_6_0, ix_6_1, ix_6_2, ix_6_3, ix_6_4, ix_6_5, ix_7_0, ix_7_1, ix_7_2, ix_7_3, ix_7_4, ix_7_5, ix_7_6, sI_0, sI_1, sI_48271, sI_69621, atI]
        exact rest (some (1 + r)) S6 (by simp; omega) b6 (k5.trans k6)
      · simp [sNext, sIf, sBreak, sCont, sNever, sExpr, sRet, sRetO, sRetN, sSet, sAsg, gNm, gsNil, gsCons, gT, eD, eV, eBox, eNm, eC, eOp, eUn, aNil, aCons, eTup, eLst, eCB, bV, bAnd, bOr, bNot, eAnd, eOr, eNot, eIf, eChain, eCall, eFld, sFldS, sFldA, eMeth, eMake, bYes, fSub, fLt, fLe, fGt, fGe, fDiv, fMod, fPow, fNeg, fAdd, fMul, fIsN, fNotN, Yi.isNon, fEq, fNe, fIn, fInS, fIx, intR, oNo, oPart, fSl, eSl, eRev, sAppO, sExtO, sAug, oIx, oIn, oEq, sPar, sPar3, sSetIx, eDGet, eDIn, eDGet2, sDPutS, eDPop1, eDPop2, eDNewK, eDNewT, oDGet, oDIn, eBM, mApp, mExt, mPopAt, mIdx, cellL, iEv, iR1, iR2, iC, fLen, oLen, fMax, fMin, fAll, fAny, fSum, fSortI, fList, fTuple, fInt, fStr, fIsi, tyD, isLstD, isStrD, isDD, lstD, seqD, stD, eCallF, nAt, iSt, mJoin, mSplit, fAddI, sStar, iEnS, eSortSet, fSet, eLenSet, insAt, lkp, putD, ok_some, ok_none, ok_bind, ok_map, eq_int, eq_bl, sAsg, kb_NoneType_int, kb_NoneType_bool, kb_NoneType_str, kb_NoneType_tuple, kb_NoneType_list, kb_bool_int, kb_bool_bool, kb_bool_str, kb_bool_tuple, kb_bool_list, kb_int_int, kb_int_bool, kb_int_str, kb_int_tuple, kb_int_list, kb_str_int, kb_str_bool, kb_str_str, kb_str_tuple, kb_str_list, kb_tuple_int, kb_tuple_bool, kb_tuple_str, kb_tuple_tuple, kb_tuple_list, kb_list_int, kb_list_bool, kb_list_str, kb_list_tuple, kb_list_list, sz_0, sz_1, sz_2, sz_3, sz_4, sz_5, sz_6, sz_7, sz_8, sz_9, sz_10, sz_11, sz_12, sz_13, sz_14, sz_15, sz_16, ix_1_0, ix_2_0, ix_2_1, ix_3_0, ix_3_1, ix_3_2, ix_4_0, ix_4_1, ix_4_2, ix_4_3, ix_5_0, ix_5_1, ix_5_2, ix_5_3, ix_5_4, ix_6_0, ix_6_1, ix_6_2, ix_6_3, ix_6_4, ix_6_5, ix_7_0, ix_7_1, ix_7_2, ix_7_3, ix_7_4, ix_7_5, ix_7_6, sI_0, sI_1, sI_48271, sI_69621, atI]
        exact rest (some 2) S6 (by simp) b6 (k5.trans k6)
    · simp [sNext, sIf, sBreak, sCont, sNever, sExpr, sRet, sRetO, sRetN, sSet, sAsg, gNm, gsNil, gsCons, gT, eD, eV, eBox, eNm, eC, eOp, eUn, aNil, aCons, eTup, eLst, eCB, bV, bAnd, bOr, bNot, eAnd, eOr, eNot, eIf, eChain, eCall, eFld, sFldS, sFldA, eMeth, eMake, bYes, fSub, fLt, fLe, fGt, fGe, fDiv, fMod, fPow, fNeg, fAdd, fMul, fIsN, fNotN, Yi.isNon, fEq, fNe, fIn, fInS, fIx, intR, oNo, oPart, fSl, eSl, eRev, sAppO, sExtO, sAug, oIx, oIn, oEq, sPar, sPar3, sSetIx, eDGet, eDIn, eDGet2, sDPutS, eDPop1, eDPop2, eDNewK, eDNewT, oDGet, oDIn, eBM, mApp, mExt, mPopAt, mIdx, cellL, iEv, iR1, iR2, iC, fLen, oLen, fMax, fMin, fAll, fAny, fSum, fSortI, fList, fTuple, fInt, fStr, fIsi, tyD, isLstD, isStrD, isDD, lstD, seqD, stD, eCallF, nAt, iSt, mJoin, mSplit, fAddI, sStar, iEnS, eSortSet, fSet, eLenSet, insAt, lkp, putD, ok_some, ok_none, ok_bind, ok_map, eq_int, eq_bl, sAsg, kb_NoneType_int, kb_NoneType_bool, kb_NoneType_str, kb_NoneType_tuple, kb_NoneType_list, kb_bool_int, kb_bool_bool, kb_bool_str, kb_bool_tuple, kb_bool_list, kb_int_int, kb_int_bool, kb_int_str, kb_int_tuple, kb_int_list, kb_str_int, kb_str_bool, kb_str_str, kb_str_tuple, kb_str_list, kb_tuple_int, kb_tuple_bool, kb_tuple_str, kb_tuple_tuple, kb_tuple_list, kb_list_int, kb_list_bool, kb_list_str, kb_list_tuple, kb_list_list, sz_0, sz_1, sz_2, sz_3, sz_4, sz_5, sz_6, sz_7, sz_8, sz_9, sz_10, sz_11, sz_12, sz_13, sz_14, sz_15, sz_16, ix_1_0, ix_2_0, ix_2_1, ix_3_0, ix_3_1, ix_3_2, ix_4_0, ix_4_1, ix_4_2, ix_4_3, ix_5_0, ix_5_1, ix_5_2, ix_5_3, ix_5_4, ix_6_0, ix_6_1, ix_6_2, ix_6_3, ix_6_4, ix_6_5, ix_7_0, ix_7_1, ix_7_2, ix_7_3, ix_7_4, ix_7_5, ix_7_6, sI_0, sI_1, sI_48271, sI_69621, atI]
      refine go 24 (by decide) (by decide) fun r S5 r0 r1 b5 k5 => ?_
      simp [sNext, sIf, sBreak, sCont, sNever, sExpr, sRet, sRetO, sRetN, sSet, sAsg, gNm, gsNil, gsCons, gT, eD, eV, eBox, eNm, eC, eOp, eUn, aNil, aCons, eTup, eLst, eCB, bV, bAnd, bOr, bNot, eAnd, eOr, eNot, eIf, eChain, eCall, eFld, sFldS, sFldA, eMeth, eMake, bYes, fSub, fLt, fLe, fGt, fGe, fDiv, fMod, fPow, fNeg, fAdd, fMul, fIsN, fNotN, Yi.isNon, fEq, fNe, fIn, fInS, fIx, intR, oNo, oPart, fSl, eSl, eRev, sAppO, sExtO, sAug, oIx, oIn, oEq, sPar, sPar3, sSetIx, eDGet, eDIn, eDGet2, sDPutS, eDPop1, eDPop2, eDNewK, eDNewT, oDGet, oDIn, eBM, mApp, mExt, mPopAt, mIdx, cellL, iEv, iR1, iR2, iC, fLen, oLen, fMax, fMin, fAll, fAny, fSum, fSortI, fList, fTuple, fInt, fStr, fIsi, tyD, isLstD, isStrD, isDD, lstD, seqD, stD, eCallF, nAt, iSt, mJoin, mSplit, fAddI, sStar, iEnS, eSortSet, fSet, eLenSet, insAt, lkp, putD, ok_some, ok_none, ok_bind, ok_map, eq_int, eq_bl, sAsg, kb_NoneType_int, kb_NoneType_bool, kb_NoneType_str, kb_NoneType_tuple, kb_NoneType_list, kb_bool_int, kb_bool_bool, kb_bool_str, kb_bool_tuple, kb_bool_list, kb_int_int, kb_int_bool, kb_int_str, kb_int_tuple, kb_int_list, kb_str_int, kb_str_bool, kb_str_str, kb_str_tuple, kb_str_list, kb_tuple_int, kb_tuple_bool, kb_tuple_str, kb_tuple_tuple, kb_tuple_list, kb_list_int, kb_list_bool, kb_list_str, kb_list_tuple, kb_list_list, sz_0, sz_1, sz_2, sz_3, sz_4, sz_5, sz_6, sz_7, sz_8, sz_9, sz_10, sz_11, sz_12, sz_13, sz_14, sz_15, sz_16, ix_1_0, ix_2_0, ix_2_1, ix_3_0, ix_3_1, ix_3_2, ix_4_0, ix_4_1, ix_4_2, ix_4_3, ix_5_0, ix_5_1, ix_5_2, ix_5_3, ix_5_4, ix_6_0, ix_6_1, ix_6_2, ix_6_3, ix_6_4, ix_6_5, ix_7_0, ix_7_1, ix_7_2, ix_7_3, ix_7_4, ix_7_5, ix_7_6, sI_0, sI_1, sI_48271, sI_69621]
      refine take_ok b5 (by decide) (by decide) fun z S6 z0 z1 b6 k6 => ?_
      rcases (by omega : z = 0 ∨ z = 1 ∨ z = 2) with rfl | rfl | rfl
      · simp [sNext, sIf, sBreak, sCont, sNever, sExpr, sRet, sRetO, sRetN, sSet, sAsg, gNm, gsNil, gsCons, gT, eD, eV, eBox, eNm, eC, eOp, eUn, aNil, aCons, eTup, eLst, eCB, bV, bAnd, bOr, bNot, eAnd, eOr, eNot, eIf, eChain, eCall, eFld, sFldS, sFldA, eMeth, eMake, bYes, fSub, fLt, fLe, fGt, fGe, fDiv, fMod, fPow, fNeg, fAdd, fMul, fIsN, fNotN, Yi.isNon, fEq, fNe, fIn, fInS, fIx, intR, oNo, oPart, fSl, eSl, eRev, sAppO, sExtO, sAug, oIx, oIn, oEq, sPar, sPar3, sSetIx, eDGet, eDIn, eDGet2, sDPutS, eDPop1, eDPop2, eDNewK, eDNewT, oDGet, oDIn, eBM, mApp, mExt, mPopAt, mIdx, cellL, iEv, iR1, iR2, iC, fLen, oLen, fMax, fMin, fAll, fAny, fSum, fSortI, fList, fTuple, fInt, fStr, fIsi, tyD, isLstD, isStrD, isDD, lstD, seqD, stD, eCallF, nAt, iSt, mJoin, mSplit, fAddI, sStar, iEnS, eSortSet, fSet, eLenSet, insAt, lkp, putD, ok_some, ok_none, ok_bind, ok_map, eq_int, eq_bl, sAsg, kb_NoneType_int, kb_NoneType_bool, kb_NoneType_str, kb_NoneType_tuple, kb_NoneType_list, kb_bool_int, kb_bool_bool, kb_bool_str, kb_bool_tuple, kb_bool_list, kb_int_int, kb_int_bool, kb_int_str, kb_int_tuple, kb_int_list, kb_str_int, kb_str_bool, kb_str_str, kb_str_tuple, kb_str_list, kb_tuple_int, kb_tuple_bool, kb_tuple_str, kb_tuple_tuple, kb_tuple_list, kb_list_int, kb_list_bool, kb_list_str, kb_list_tuple, kb_list_list, sz_0, sz_1, sz_2, sz_3, sz_4, sz_5, sz_6, sz_7, sz_8, sz_9, sz_10, sz_11, sz_12, sz_13, sz_14, sz_15, sz_16, ix_1_0, ix_2_0, ix_2_1, ix_3_0, ix_3_1, ix_3_2, ix_4_0, ix_4_1, ix_4_2, ix_4_3, ix_5_0, ix_5_1, ix_5_2, ix_5_3, ix_5_4, ix_6_0, ix_6_1, ix_6_2, ix_6_3, ix_6_4, ix_6_5, ix_7_0, ix_7_1, ix_7_2, ix_7_3, ix_7_4, ix_7_5, ix_7_6, sI_0, sI_1, sI_48271, sI_69621, atI]
        exact rest none S6 (by simp) b6 (k5.trans k6)
      · simp [sNext, sIf, sBreak, sCont, sNever, sExpr, sRet, sRetO, sRetN, sSet, sAsg, gNm, gsNil, gsCons, gT, eD, eV, eBox, eNm, eC, eOp, eUn, aNil, aCons, eTup, eLst, eCB, bV, bAnd, bOr, bNot, eAnd, eOr, eNot, eIf, eChain, eCall, eFld, sFldS, sFldA, eMeth, eMake, bYes, fSub, fLt, fLe, fGt, fGe, fDiv, fMod, fPow, fNeg, fAdd, fMul, fIsN, fNotN, Yi.isNon, fEq, fNe, fIn, fInS, fIx, intR, oNo, oPart, fSl, eSl, eRev, sAppO, sExtO, sAug, oIx, oIn, oEq, sPar, sPar3, sSetIx, eDGet, eDIn, eDGet2, sDPutS, eDPop1, eDPop2, eDNewK, eDNewT, oDGet, oDIn, eBM, mApp, mExt, mPopAt, mIdx, cellL, iEv, iR1, iR2, iC, fLen, oLen, fMax, fMin, fAll, fAny, fSum, fSortI, fList, fTuple, fInt, fStr, fIsi, tyD, isLstD, isStrD, isDD, lstD, seqD, stD, eCallF, nAt, iSt, mJoin, mSplit, fAddI, sStar, iEnS, eSortSet, fSet, eLenSet, insAt, lkp, putD, ok_some, ok_none, ok_bind, ok_map, eq_int, eq_bl, sAsg, kb_NoneType_int, kb_NoneType_bool, kb_NoneType_str, kb_NoneType_tuple, kb_NoneType_list, kb_bool_int, kb_bool_bool, kb_bool_str, kb_bool_tuple, kb_bool_list, kb_int_int, kb_int_bool, kb_int_str, kb_int_tuple, kb_int_list, kb_str_int, kb_str_bool, kb_str_str, kb_str_tuple, kb_str_list, kb_tuple_int, kb_tuple_bool, kb_tuple_str, kb_tuple_tuple, kb_tuple_list, kb_list_int, kb_list_bool, kb_list_str, kb_list_tuple, kb_list_list, sz_0, sz_1, sz_2, sz_3, sz_4, sz_5, sz_6, sz_7, sz_8, sz_9, sz_10, sz_11, sz_12, sz_13, sz_14, sz_15, sz_16, ix_1_0, ix_2_0, ix_2_1, ix_3_0, ix_3_1, ix_3_2, ix_4_0, ix_4_1, ix_4_2, ix_4_3, ix_5_0, ix_5_1, ix_5_2, ix_5_3, ix_5_4, ix_6_0, ix_6_1, ix_6_2, ix_6_3, ix_6_4, ix_6_5, ix_7_0, ix_7_1, ix_7_2, ix_7_3, ix_7_4, ix_7_5, ix_7_6, sI_0, sI_1, sI_48271, sI_69621, atI]
        exact rest (some (1 + r)) S6 (by simp; omega) b6 (k5.trans k6)
      · simp [sNext, sIf, sBreak, sCont, sNever, sExpr, sRet, sRetO, sRetN, sSet, sAsg, gNm, gsNil, gsCons, gT, eD, eV, eBox, eNm, eC, eOp, eUn, aNil, aCons, eTup, eLst, eCB, bV, bAnd, bOr, bNot, eAnd, eOr, eNot, eIf, eChain, eCall, eFld, sFldS, sFldA, eMeth, eMake, bYes, fSub, fLt, fLe, fGt, fGe, fDiv, fMod, fPow, fNeg, fAdd, fMul, fIsN, fNotN, Yi.isNon, fEq, fNe, fIn, fInS, fIx, intR, oNo, oPart, fSl, eSl, eRev, sAppO, sExtO, sAug, oIx, oIn, oEq, sPar, sPar3, sSetIx, eDGet, eDIn, eDGet2, sDPutS, eDPop1, eDPop2, eDNewK, eDNewT, oDGet, oDIn, eBM, mApp, mExt, mPopAt, mIdx, cellL, iEv, iR1, iR2, iC, fLen, oLen, fMax, fMin, fAll, fAny, fSum, fSortI, fList, fTuple, fInt, fStr, fIsi, tyD, isLstD, isStrD, isDD, lstD, seqD, stD, eCallF, nAt, iSt, mJoin, mSplit, fAddI, sStar, iEnS, eSortSet, fSet, eLenSet, insAt, lkp, putD, ok_some, ok_none, ok_bind, ok_map, eq_int, eq_bl, sAsg, kb_NoneType_int, kb_NoneType_bool, kb_NoneType_str, kb_NoneType_tuple, kb_NoneType_list, kb_bool_int, kb_bool_bool, kb_bool_str, kb_bool_tuple, kb_bool_list, kb_int_int, kb_int_bool, kb_int_str, kb_int_tuple, kb_int_list, kb_str_int, kb_str_bool, kb_str_str, kb_str_tuple, kb_str_list, kb_tuple_int, kb_tuple_bool, kb_tuple_str, kb_tuple_tuple, kb_tuple_list, kb_list_int, kb_list_bool, kb_list_str, kb_list_tuple, kb_list_list, sz_0, sz_1, sz_2, sz_3, sz_4, sz_5, sz_6, sz_7, sz_8, sz_9, sz_10, sz_11, sz_12, sz_13, sz_14, sz_15, sz_16, ix_1_0, ix_2_0, ix_2_1, ix_3_0, ix_3_1, ix_3_2, ix_4_0, ix_4_1, ix_4_2, ix_4_3, ix_5_0, ix_5_1, ix_5_2, ix_5_3, ix_5_4, ix_6_0, ix_6_1, ix_6_2, ix_6_3, ix_6_4, ix_6_5, ix_7_0, ix_7_1, ix_7_2, ix_7_3, ix_7_4, ix_7_5, ix_7_6, sI_0, sI_1, sI_48271, sI_69621, atI]
        exact rest (some 2) S6 (by simp) b6 (k5.trans k6)
end Wk
namespace Wk
open PySem L2 Yi
def InvR (S : Sto) (m : Nat) (i : Nat) (ys : List D) (S2 : Sto) : Prop := ∃ rs : List Rl, ys = rs.map rD ∧ rs.length = i ∧ i ≤ m ∧ (∀ r ∈ rs, r.Good m) ∧ Box S2 ∧ Kp S S2
structure GoodRs (rs : List Rl) : Prop where
  l1 : 1 ≤ rs.length
  l6 : rs.length ≤ 6
  g : ∀ r ∈ rs, r.Good rs.length
theorem rules_ok {S : Sto} (hb : Box S) {Q : VV × Sto → Prop} (hQ : ∀ (rs : List Rl) S', GoodRs rs → Box S' → Kp S S' → Q (.d (.tup (rs.map rD)), S')) : ok (d_law_rules [.ref 1] S) Q := by
  refine den_ok rfl (seq_ok ?_)
  simp [sNext, sIf, sBreak, sCont, sNever, sExpr, sRet, sRetO, sRetN, sSet, sAsg, gNm, gsNil, gsCons, gT, eD, eV, eBox, eNm, eC, eOp, eUn, aNil, aCons, eTup, eLst, eCB, bV, bAnd, bOr, bNot, eAnd, eOr, eNot, eIf, eChain, eCall, eFld, sFldS, sFldA, eMeth, eMake, bYes, fSub, fLt, fLe, fGt, fGe, fDiv, fMod, fPow, fNeg, fAdd, fMul, fIsN, fNotN, Yi.isNon, fEq, fNe, fIn, fInS, fIx, intR, oNo, oPart, fSl, eSl, eRev, sAppO, sExtO, sAug, oIx, oIn, oEq, sPar, sPar3, sSetIx, eDGet, eDIn, eDGet2, sDPutS, eDPop1, eDPop2, eDNewK, eDNewT, oDGet, oDIn, eBM, mApp, mExt, mPopAt, mIdx, cellL, iEv, iR1, iR2, iC, fLen, oLen, fMax, fMin, fAll, fAny, fSum, fSortI, fList, fTuple, fInt, fStr, fIsi, tyD, isLstD, isStrD, isDD, lstD, seqD, stD, eCallF, nAt, iSt, mJoin, mSplit, fAddI, sStar, iEnS, eSortSet, fSet, eLenSet, insAt, lkp, putD, ok_some, ok_none, ok_bind, ok_map, eq_int, eq_bl, sAsg, kb_NoneType_int, kb_NoneType_bool, kb_NoneType_str, kb_NoneType_tuple, kb_NoneType_list, kb_bool_int, kb_bool_bool, kb_bool_str, kb_bool_tuple, kb_bool_list, kb_int_int, kb_int_bool, kb_int_str, kb_int_tuple, kb_int_list, kb_str_int, kb_str_bool, kb_str_str, kb_str_tuple, kb_str_list, kb_tuple_int, kb_tuple_bool, kb_tuple_str, kb_tuple_tuple, kb_tuple_list, kb_list_int, kb_list_bool, kb_list_str, kb_list_tuple, kb_list_list, sz_0, sz_1, sz_2, sz_3, sz_4, sz_5, sz_6, sz_7, sz_8, sz_9, sz_10, sz_11, sz_12, sz_13, sz_14, sz_15, sz_16, ix_1_0, ix_2_0, ix_2_1, ix_3_0, ix_3_1, ix_3_2, ix_4_0, ix_4_1, ix_4_2, ix_4_3, ix_5_0, ix_5_1, ix_5_2, ix_5_3, ix_5_4, ix_6_0, ix_6_1, ix_6_2, ix_6_3, ix_6_4, ix_6_5, ix_7_0, ix_7_1, ix_7_2, ix_7_3, ix_7_4, ix_7_5, ix_7_6, sI_0, sI_1, sI_48271, sI_69621]
  refine take_ok hb (by decide) (by decide) fun n S1 h0 h6 b1 k1 => ?_
  simp [sNext, sIf, sBreak, sCont, sNever, sExpr, sRet, sRetO, sRetN, sSet, sAsg, gNm, gsNil, gsCons, gT, eD, eV, eBox, eNm, eC, eOp, eUn, aNil, aCons, eTup, eLst, eCB, bV, bAnd, bOr, bNot, eAnd, eOr, eNot, eIf, eChain, eCall, eFld, sFldS, sFldA, eMeth, eMake, bYes, fSub, fLt, fLe, fGt, fGe, fDiv, fMod, fPow, fNeg, fAdd, fMul, fIsN, fNotN, Yi.isNon, fEq, fNe, fIn, fInS, fIx, intR, oNo, oPart, fSl, eSl, eRev, sAppO, sExtO, sAug, oIx, oIn, oEq, sPar, sPar3, sSetIx, eDGet, eDIn, eDGet2, sDPutS, eDPop1, eDPop2, eDNewK, eDNewT, oDGet, oDIn, eBM, mApp, mExt, mPopAt, mIdx, cellL, iEv, iR1, iR2, iC, fLen, oLen, fMax, fMin, fAll, fAny, fSum, fSortI, fList, fTuple, fInt, fStr, fIsi, tyD, isLstD, isStrD, isDD, lstD, seqD, stD, eCallF, nAt, iSt, mJoin, mSplit, fAddI, sStar, iEnS, eSortSet, fSet, eLenSet, insAt, lkp, putD, ok_some, ok_none, ok_bind, ok_map, eq_int, eq_bl, sAsg, kb_NoneType_int, kb_NoneType_bool, kb_NoneType_str, kb_NoneType_tuple, kb_NoneType_list, kb_bool_int, kb_bool_bool, kb_bool_str, kb_bool_tuple, kb_bool_list, kb_int_int, kb_int_bool, kb_int_str, kb_int_tuple, kb_int_list, kb_str_int, kb_str_bool, kb_str_str, kb_str_tuple, kb_str_list, kb_tuple_int, kb_tuple_bool, kb_tuple_str, kb_tuple_tuple, kb_tuple_list, kb_list_int, kb_list_bool, kb_list_str, kb_list_tuple, kb_list_list, sz_0, sz_1, sz_2, sz_3, sz_4, sz_5, sz_6, sz_7, sz_8, sz_9, sz_10, sz_11, sz_12, sz_13, sz_14, sz_15, sz_16, ix_1_0, ix_2_0, ix_2_1, ix_3_0, ix_3_1, ix_3_2, ix_4_0, ix_4_1, ix_4_2, ix_4_3, ix_5_0, ix_5_1, ix_5_2, ix_5_3, ix_5_4, ix_6_0, ix_6_1, ix_6_2, ix_6_3, ix_6_4, ix_6_5, ix_7_0, ix_7_1, ix_7_2, ix_7_3, ix_7_4, ix_7_5, ix_7_6, sI_0, sI_1, sI_48271, sI_69621]
  refine lc_ok ?_
  have sm : smallR (1 + n) = true := smR (by omega) (by omega)
  simp [sNext, sIf, sBreak, sCont, sNever, sExpr, sRet, sRetO, sRetN, sSet, sAsg, gNm, gsNil, gsCons, gT, eD, eV, eBox, eNm, eC, eOp, eUn, aNil, aCons, eTup, eLst, eCB, bV, bAnd, bOr, bNot, eAnd, eOr, eNot, eIf, eChain, eCall, eFld, sFldS, sFldA, eMeth, eMake, bYes, fSub, fLt, fLe, fGt, fGe, fDiv, fMod, fPow, fNeg, fAdd, fMul, fIsN, fNotN, Yi.isNon, fEq, fNe, fIn, fInS, fIx, intR, oNo, oPart, fSl, eSl, eRev, sAppO, sExtO, sAug, oIx, oIn, oEq, sPar, sPar3, sSetIx, eDGet, eDIn, eDGet2, sDPutS, eDPop1, eDPop2, eDNewK, eDNewT, oDGet, oDIn, eBM, mApp, mExt, mPopAt, mIdx, cellL, iEv, iR1, iR2, iC, fLen, oLen, fMax, fMin, fAll, fAny, fSum, fSortI, fList, fTuple, fInt, fStr, fIsi, tyD, isLstD, isStrD, isDD, lstD, seqD, stD, eCallF, nAt, iSt, mJoin, mSplit, fAddI, sStar, iEnS, eSortSet, fSet, eLenSet, insAt, lkp, putD, ok_some, ok_none, ok_bind, ok_map, eq_int, eq_bl, sAsg, kb_NoneType_int, kb_NoneType_bool, kb_NoneType_str, kb_NoneType_tuple, kb_NoneType_list, kb_bool_int, kb_bool_bool, kb_bool_str, kb_bool_tuple, kb_bool_list, kb_int_int, kb_int_bool, kb_int_str, kb_int_tuple, kb_int_list, kb_str_int, kb_str_bool, kb_str_str, kb_str_tuple, kb_str_list, kb_tuple_int, kb_tuple_bool, kb_tuple_str, kb_tuple_tuple, kb_tuple_list, kb_list_int, kb_list_bool, kb_list_str, kb_list_tuple, kb_list_list, sz_0, sz_1, sz_2, sz_3, sz_4, sz_5, sz_6, sz_7, sz_8, sz_9, sz_10, sz_11, sz_12, sz_13, sz_14, sz_15, sz_16, ix_1_0, ix_2_0, ix_2_1, ix_3_0, ix_3_1, ix_3_2, ix_4_0, ix_4_1, ix_4_2, ix_4_3, ix_5_0, ix_5_1, ix_5_2, ix_5_3, ix_5_4, ix_6_0, ix_6_1, ix_6_2, ix_6_3, ix_6_4, ix_6_5, ix_7_0, ix_7_1, ix_7_2, ix_7_3, ix_7_4, ix_7_5, ix_7_6, sI_0, sI_1, sI_48271, sI_69621, sm, wipeS]
  have em : ∃ m : Nat, 1 + n = m ∧ 1 ≤ m ∧ m ≤ 6 := ⟨(1 + n).toNat, by omega, by omega, by omega⟩
  obtain ⟨m, em, m1, m6⟩ := em
  rw [em]
  refine (compL_ok (InvR S m) (fun i ys S2 ⟨rs, e, l, l2, _⟩ => by rw [e]; simp [szOk]; omega) (rngL 0 m) 0 ⟨[], rfl, rfl, by omega, by simp, b1, k1⟩ ?_).mono ?_
  · rintro i d hd ys S2 ⟨rs, rfl, l, l2, g, b2, k2⟩
    obtain ⟨hi, rfl⟩ := rng_get hd
    simp [sNext, sIf, sBreak, sCont, sNever, sExpr, sRet, sRetO, sRetN, sSet, sAsg, gNm, gsNil, gsCons, gT, eD, eV, eBox, eNm, eC, eOp, eUn, aNil, aCons, eTup, eLst, eCB, bV, bAnd, bOr, bNot, eAnd, eOr, eNot, eIf, eChain, eCall, eFld, sFldS, sFldA, eMeth, eMake, bYes, fSub, fLt, fLe, fGt, fGe, fDiv, fMod, fPow, fNeg, fAdd, fMul, fIsN, fNotN, Yi.isNon, fEq, fNe, fIn, fInS, fIx, intR, oNo, oPart, fSl, eSl, eRev, sAppO, sExtO, sAug, oIx, oIn, oEq, sPar, sPar3, sSetIx, eDGet, eDIn, eDGet2, sDPutS, eDPop1, eDPop2, eDNewK, eDNewT, oDGet, oDIn, eBM, mApp, mExt, mPopAt, mIdx, cellL, iEv, iR1, iR2, iC, fLen, oLen, fMax, fMin, fAll, fAny, fSum, fSortI, fList, fTuple, fInt, fStr, fIsi, tyD, isLstD, isStrD, isDD, lstD, seqD, stD, eCallF, nAt, iSt, mJoin, mSplit, fAddI, sStar, iEnS, eSortSet, fSet, eLenSet, insAt, lkp, putD, ok_some, ok_none, ok_bind, ok_map, eq_int, eq_bl, sAsg, kb_NoneType_int, kb_NoneType_bool, kb_NoneType_str, kb_NoneType_tuple, kb_NoneType_list, kb_bool_int, kb_bool_bool, kb_bool_str, kb_bool_tuple, kb_bool_list, kb_int_int, kb_int_bool, kb_int_str, kb_int_tuple, kb_int_list, kb_str_int, kb_str_bool, kb_str_str, kb_str_tuple, kb_str_list, kb_tuple_int, kb_tuple_bool, kb_tuple_str, kb_tuple_tuple, kb_tuple_list, kb_list_int, kb_list_bool, kb_list_str, kb_list_tuple, kb_list_list, sz_0, sz_1, sz_2, sz_3, sz_4, sz_5, sz_6, sz_7, sz_8, sz_9, sz_10, sz_11, sz_12, sz_13, sz_14, sz_15, sz_16, ix_1_0, ix_2_0, ix_2_1, ix_3_0, ix_3_1, ix_3_2, ix_4_0, ix_4_1, ix_4_2, ix_4_3, ix_5_0, ix_5_1, ix_5_2, ix_5_3, ix_5_4, ix_6_0, ix_6_1, ix_6_2, ix_6_3, ix_6_4, ix_6_5, ix_7_0, ix_7_1, ix_7_2, ix_7_3, ix_7_4, ix_7_5, ix_7_6, sI_0, sI_1, sI_48271, sI_69621]
    refine rule_ok b2 (by omega) m6 fun r S3 hr b3 k3 => ?_
    simp [sNext, sIf, sBreak, sCont, sNever, sExpr, sRet, sRetO, sRetN, sSet, sAsg, gNm, gsNil, gsCons, gT, eD, eV, eBox, eNm, eC, eOp, eUn, aNil, aCons, eTup, eLst, eCB, bV, bAnd, bOr, bNot, eAnd, eOr, eNot, eIf, eChain, eCall, eFld, sFldS, sFldA, eMeth, eMake, bYes, fSub, fLt, fLe, fGt, fGe, fDiv, fMod, fPow, fNeg, fAdd, fMul, fIsN, fNotN, Yi.isNon, fEq, fNe, fIn, fInS, fIx, intR, oNo, oPart, fSl, eSl, eRev, sAppO, sExtO, sAug, oIx, oIn, oEq, sPar, sPar3, sSetIx, eDGet, eDIn, eDGet2, sDPutS, eDPop1, eDPop2, eDNewK, eDNewT, oDGet, oDIn, eBM, mApp, mExt, mPopAt, mIdx, cellL, iEv, iR1, iR2, iC, fLen, oLen, fMax, fMin, fAll, fAny, fSum, fSortI, fList, fTuple, fInt, fStr, fIsi, tyD, isLstD, isStrD, isDD, lstD, seqD, stD, eCallF, nAt, iSt, mJoin, mSplit, fAddI, sStar, iEnS, eSortSet, fSet, eLenSet, insAt, lkp, putD, ok_some, ok_none, ok_bind, ok_map, eq_int, eq_bl, sAsg, kb_NoneType_int, kb_NoneType_bool, kb_NoneType_str, kb_NoneType_tuple, kb_NoneType_list, kb_bool_int, kb_bool_bool, kb_bool_str, kb_bool_tuple, kb_bool_list, kb_int_int, kb_int_bool, kb_int_str, kb_int_tuple, kb_int_list, kb_str_int, kb_str_bool, kb_str_str, kb_str_tuple, kb_str_list, kb_tuple_int, kb_tuple_bool, kb_tuple_str, kb_tuple_tuple, kb_tuple_list, kb_list_int, kb_list_bool, kb_list_str, kb_list_tuple, kb_list_list, sz_0, sz_1, sz_2, sz_3, sz_4, sz_5, sz_6, sz_7, sz_8, sz_9, sz_10, sz_11, sz_12, sz_13, sz_14, sz_15, sz_16, ix_1_0, ix_2_0, ix_2_1, ix_3_0, ix_3_1, ix_3_2, ix_4_0, ix_4_1, ix_4_2, ix_4_3, ix_5_0, ix_5_1, ix_5_2, ix_5_3, ix_5_4, ix_6_0, ix_6_1, ix_6_2, ix_6_3, ix_6_4, ix_6_5, ix_7_0, ix_7_1, ix_7_2, ix_7_3, ix_7_4, ix_7_5, ix_7_6, sI_0, sI_1, sI_48271, sI_69621]
    refine ⟨rs ++ [r], by simp, by simp [l], by omega, fun r' h' => ?_, b3, k2.trans k3⟩
    rcases List.mem_append.mp h' with q | q
    · exact g r' q
    · have e : r' = r := by simpa using q
      rw [e]
      exact hr
  · rintro ⟨ys, S2⟩ ⟨rs, e1, l, l2, g, b2, k2⟩
    simp only [rng_len, Nat.zero_add] at l
    subst l
    dsimp only at e1
    subst e1
    simp [sNext, sIf, sBreak, sCont, sNever, sExpr, sRet, sRetO, sRetN, sSet, sAsg, gNm, gsNil, gsCons, gT, eD, eV, eBox, eNm, eC, eOp, eUn, aNil, aCons, eTup, eLst, eCB, bV, bAnd, bOr, bNot, eAnd, eOr, eNot, eIf, eChain, eCall, eFld, sFldS, sFldA, eMeth, eMake, bYes, fSub, fLt, fLe, fGt, fGe, fDiv, fMod, fPow, fNeg, fAdd, fMul, fIsN, fNotN, Yi.isNon, fEq, fNe, fIn, fInS, fIx, intR, oNo, oPart, fSl, eSl, eRev, sAppO, sExtO, sAug, oIx, oIn, oEq, sPar, sPar3, sSetIx, eDGet, eDIn, eDGet2, sDPutS, eDPop1, eDPop2, eDNewK, eDNewT, oDGet, oDIn, eBM, mApp, mExt, mPopAt, mIdx, cellL, iEv, iR1, iR2, iC, fLen, oLen, fMax, fMin, fAll, fAny, fSum, fSortI, fList, fTuple, fInt, fStr, fIsi, tyD, isLstD, isStrD, isDD, lstD, seqD, stD, eCallF, nAt, iSt, mJoin, mSplit, fAddI, sStar, iEnS, eSortSet, fSet, eLenSet, insAt, lkp, putD, ok_some, ok_none, ok_bind, ok_map, eq_int, eq_bl, sAsg, kb_NoneType_int, kb_NoneType_bool, kb_NoneType_str, kb_NoneType_tuple, kb_NoneType_list, kb_bool_int, kb_bool_bool, kb_bool_str, kb_bool_tuple, kb_bool_list, kb_int_int, kb_int_bool, kb_int_str, kb_int_tuple, kb_int_list, kb_str_int, kb_str_bool, kb_str_str, kb_str_tuple, kb_str_list, kb_tuple_int, kb_tuple_bool, kb_tuple_str, kb_tuple_tuple, kb_tuple_list, kb_list_int, kb_list_bool, kb_list_str, kb_list_tuple, kb_list_list, sz_0, sz_1, sz_2, sz_3, sz_4, sz_5, sz_6, sz_7, sz_8, sz_9, sz_10, sz_11, sz_12, sz_13, sz_14, sz_15, sz_16, ix_1_0, ix_2_0, ix_2_1, ix_3_0, ix_3_1, ix_3_2, ix_4_0, ix_4_1, ix_4_2, ix_4_3, ix_5_0, ix_5_1, ix_5_2, ix_5_3, ix_5_4, ix_6_0, ix_6_1, ix_6_2, ix_6_3, ix_6_4, ix_6_5, ix_7_0, ix_7_1, ix_7_2, ix_7_3, ix_7_4, ix_7_5, ix_7_6, sI_0, sI_1, sI_48271, sI_69621]
    exact hQ rs S2 ⟨m1, m6, g⟩ b2 k2
/-! ### notices -/
structure Nt.Good (n : Nt) (many : Nat) : Prop where
  p0 : 0 ≤ n.person
  p1 : n.person < many
  r0 : 0 ≤ n.rank
  r1 : n.rank ≤ 3
  k0 : 0 ≤ n.kind
  k1 : n.kind ≤ 7
/-- in turn from lo on, to 300 -/
def Turn (lo : Int) : List Nt → Prop
  | [] => True
  | n :: r => lo ≤ n.born ∧ n.born ≤ 300 ∧ Turn n.born r
def lastB (lo : Int) : List Nt → Int
  | [] => lo
  | n :: r => lastB n.born r
theorem turn_app : ∀ {ns : List Nt} {lo : Int} {n : Nt}, Turn lo ns → lastB lo ns ≤ n.born → n.born ≤ 300 → Turn lo (ns ++ [n]) ∧ lastB lo (ns ++ [n]) = n.born
  | [], lo, n, _, h1, h2 => ⟨⟨h1, h2, trivial⟩, rfl⟩
  | m :: r, lo, n, h, h1, h2 => by
    obtain ⟨a, b⟩ := turn_app (ns := r) (lo := m.born) (n := n) h.2.2 h1 h2
    exact ⟨⟨h.1, h.2.1, a⟩, b⟩
def InvN (S : Sto) (rs : D) (most few : Int) (many : Nat) (i : Nat) (ρ : Slt) (S2 : Sto) : Prop := ∃ (ns : List Nt) (b : Int) (x : Option VV), ρ = [some (.d (.ref 1)), some (.d rs), some (.d (.int most)), x, some (.own (.lst (ns.map nD))), some (.d (.int b)), some (.d (.int few))] ∧
  ns.length = i ∧ i ≤ 30 ∧ (∀ n ∈ ns, n.Good many) ∧ Turn 0 ns ∧ lastB 0 ns ≤ b ∧ 0 ≤ b ∧ b ≤ 300 ∧ Box S2 ∧ Kp S S2
theorem notices_ok {S : Sto} {rs : List Rl} {most : Nat} (hb : Box S) (hr : GoodRs rs) (h30 : most ≤ 30) {Q : VV × Sto → Prop}
    (hQ : ∀ (ns : List Nt) S', ns.length ≤ most → (∀ n ∈ ns, n.Good rs.length) → Turn 0 ns → Box S' → Kp S S' → Q (.own (.lst (ns.map nD)), S')) : ok (d_law_notices [.ref 1, .tup (rs.map rD), .int most] S) Q := by
  refine den_ok rfl (seq_ok ?_)
  simp [sNext, sIf, sBreak, sCont, sNever, sExpr, sRet, sRetO, sRetN, sSet, sAsg, gNm, gsNil, gsCons, gT, eD, eV, eBox, eNm, eC, eOp, eUn, aNil, aCons, eTup, eLst, eCB, bV, bAnd, bOr, bNot, eAnd, eOr, eNot, eIf, eChain, eCall, eFld, sFldS, sFldA, eMeth, eMake, bYes, fSub, fLt, fLe, fGt, fGe, fDiv, fMod, fPow, fNeg, fAdd, fMul, fIsN, fNotN, Yi.isNon, fEq, fNe, fIn, fInS, fIx, intR, oNo, oPart, fSl, eSl, eRev, sAppO, sExtO, sAug, oIx, oIn, oEq, sPar, sPar3, sSetIx, eDGet, eDIn, eDGet2, sDPutS, eDPop1, eDPop2, eDNewK, eDNewT, oDGet, oDIn, eBM, mApp, mExt, mPopAt, mIdx, cellL, iEv, iR1, iR2, iC, fLen, oLen, fMax, fMin, fAll, fAny, fSum, fSortI, fList, fTuple, fInt, fStr, fIsi, tyD, isLstD, isStrD, isDD, lstD, seqD, stD, eCallF, nAt, iSt, mJoin, mSplit, fAddI, sStar, iEnS, eSortSet, fSet, eLenSet, insAt, lkp, putD, ok_some, ok_none, ok_bind, ok_map, eq_int, eq_bl, sAsg, kb_NoneType_int, kb_NoneType_bool, kb_NoneType_str, kb_NoneType_tuple, kb_NoneType_list, kb_bool_int, kb_bool_bool, kb_bool_str, kb_bool_tuple, kb_bool_list, kb_int_int, kb_int_bool, kb_int_str, kb_int_tuple, kb_int_list, kb_str_int, kb_str_bool, kb_str_str, kb_str_tuple, kb_str_list, kb_tuple_int, kb_tuple_bool, kb_tuple_str, kb_tuple_tuple, kb_tuple_list, kb_list_int, kb_list_bool, kb_list_str, kb_list_tuple, kb_list_list, sz_0, sz_1, sz_2, sz_3, sz_4, sz_5, sz_6, sz_7, sz_8, sz_9, sz_10, sz_11, sz_12, sz_13, sz_14, sz_15, sz_16, ix_1_0, ix_2_0, ix_2_1, ix_3_0, ix_3_1, ix_3_2, ix_4_0, ix_4_1, ix_4_2, ix_4_3, ix_5_0, ix_5_1, ix_5_2, ix_5_3, ix_5_4, ix_6_0, ix_6_1, ix_6_2, ix_6_3, ix_6_4, ix_6_5, ix_7_0, ix_7_1, ix_7_2, ix_7_3, ix_7_4, ix_7_5, ix_7_6, sI_0, sI_1, sI_48271, sI_69621]
  refine take_ok hb (by decide) (by decide) fun b0 S1 h0 h40 b1 k1 => ?_
  simp [sNext, sIf, sBreak, sCont, sNever, sExpr, sRet, sRetO, sRetN, sSet, sAsg, gNm, gsNil, gsCons, gT, eD, eV, eBox, eNm, eC, eOp, eUn, aNil, aCons, eTup, eLst, eCB, bV, bAnd, bOr, bNot, eAnd, eOr, eNot, eIf, eChain, eCall, eFld, sFldS, sFldA, eMeth, eMake, bYes, fSub, fLt, fLe, fGt, fGe, fDiv, fMod, fPow, fNeg, fAdd, fMul, fIsN, fNotN, Yi.isNon, fEq, fNe, fIn, fInS, fIx, intR, oNo, oPart, fSl, eSl, eRev, sAppO, sExtO, sAug, oIx, oIn, oEq, sPar, sPar3, sSetIx, eDGet, eDIn, eDGet2, sDPutS, eDPop1, eDPop2, eDNewK, eDNewT, oDGet, oDIn, eBM, mApp, mExt, mPopAt, mIdx, cellL, iEv, iR1, iR2, iC, fLen, oLen, fMax, fMin, fAll, fAny, fSum, fSortI, fList, fTuple, fInt, fStr, fIsi, tyD, isLstD, isStrD, isDD, lstD, seqD, stD, eCallF, nAt, iSt, mJoin, mSplit, fAddI, sStar, iEnS, eSortSet, fSet, eLenSet, insAt, lkp, putD, ok_some, ok_none, ok_bind, ok_map, eq_int, eq_bl, sAsg, kb_NoneType_int, kb_NoneType_bool, kb_NoneType_str, kb_NoneType_tuple, kb_NoneType_list, kb_bool_int, kb_bool_bool, kb_bool_str, kb_bool_tuple, kb_bool_list, kb_int_int, kb_int_bool, kb_int_str, kb_int_tuple, kb_int_list, kb_str_int, kb_str_bool, kb_str_str, kb_str_tuple, kb_str_list, kb_tuple_int, kb_tuple_bool, kb_tuple_str, kb_tuple_tuple, kb_tuple_list, kb_list_int, kb_list_bool, kb_list_str, kb_list_tuple, kb_list_list, sz_0, sz_1, sz_2, sz_3, sz_4, sz_5, sz_6, sz_7, sz_8, sz_9, sz_10, sz_11, sz_12, sz_13, sz_14, sz_15, sz_16, ix_1_0, ix_2_0, ix_2_1, ix_3_0, ix_3_1, ix_3_2, ix_4_0, ix_4_1, ix_4_2, ix_4_3, ix_5_0, ix_5_1, ix_5_2, ix_5_3, ix_5_4, ix_6_0, ix_6_1, ix_6_2, ix_6_3, ix_6_4, ix_6_5, ix_7_0, ix_7_1, ix_7_2, ix_7_3, ix_7_4, ix_7_5, ix_7_6, sI_0, sI_1, sI_48271, sI_69621]
  refine take_ok b1 (by decide) (by decide) fun y S2 y0 y1 b2 k2 => ?_
  have rest : ∀ few : Int, 0 < few → few ≤ 8 → ok (sSeq (sFor (iR1 (aCons (eCall d_law_take (aCons (eNm 0) (aCons (eOp fAdd (eNm 2) (eC (.int 1))) aNil)) []) aNil)) (gNm 3) (m_law_notices_1)) (sRetO 4)
      [some (.d (.ref 1)), some (.d (.tup (rs.map rD))), some (.d (.int most)), none, some (.own (.lst [])), some (.d (.int b0)), some (.d (.int few))] S2) fun p => match p.1 with
      | .nx => Q (.d .non, p.2.2)
      | .rt v => Q (v, p.2.2)
      | _ => False := by
    intro few f0 f8
    refine seq_ok (for_ok ?_)
    simp [sNext, sIf, sBreak, sCont, sNever, sExpr, sRet, sRetO, sRetN, sSet, sAsg, gNm, gsNil, gsCons, gT, eD, eV, eBox, eNm, eC, eOp, eUn, aNil, aCons, eTup, eLst, eCB, bV, bAnd, bOr, bNot, eAnd, eOr, eNot, eIf, eChain, eCall, eFld, sFldS, sFldA, eMeth, eMake, bYes, fSub, fLt, fLe, fGt, fGe, fDiv, fMod, fPow, fNeg, fAdd, fMul, fIsN, fNotN, Yi.isNon, fEq, fNe, fIn, fInS, fIx, intR, oNo, oPart, fSl, eSl, eRev, sAppO, sExtO, sAug, oIx, oIn, oEq, sPar, sPar3, sSetIx, eDGet, eDIn, eDGet2, sDPutS, eDPop1, eDPop2, eDNewK, eDNewT, oDGet, oDIn, eBM, mApp, mExt, mPopAt, mIdx, cellL, iEv, iR1, iR2, iC, fLen, oLen, fMax, fMin, fAll, fAny, fSum, fSortI, fList, fTuple, fInt, fStr, fIsi, tyD, isLstD, isStrD, isDD, lstD, seqD, stD, eCallF, nAt, iSt, mJoin, mSplit, fAddI, sStar, iEnS, eSortSet, fSet, eLenSet, insAt, lkp, putD, ok_some, ok_none, ok_bind, ok_map, eq_int, eq_bl, sAsg, kb_NoneType_int, kb_NoneType_bool, kb_NoneType_str, kb_NoneType_tuple, kb_NoneType_list, kb_bool_int, kb_bool_bool, kb_bool_str, kb_bool_tuple, kb_bool_list, kb_int_int, kb_int_bool, kb_int_str, kb_int_tuple, kb_int_list, kb_str_int, kb_str_bool, kb_str_str, kb_str_tuple, kb_str_list, kb_tuple_int, kb_tuple_bool, kb_tuple_str, kb_tuple_tuple, kb_tuple_list, kb_list_int, kb_list_bool, kb_list_str, kb_list_tuple, kb_list_list, sz_0, sz_1, sz_2, sz_3, sz_4, sz_5, sz_6, sz_7, sz_8, sz_9, sz_10, sz_11, sz_12, sz_13, sz_14, sz_15, sz_16, ix_1_0, ix_2_0, ix_2_1, ix_3_0, ix_3_1, ix_3_2, ix_4_0, ix_4_1, ix_4_2, ix_4_3, ix_5_0, ix_5_1, ix_5_2, ix_5_3, ix_5_4, ix_6_0, ix_6_1, ix_6_2, ix_6_3, ix_6_4, ix_6_5, ix_7_0, ix_7_1, ix_7_2, ix_7_3, ix_7_4, ix_7_5, ix_7_6, sI_0, sI_1, sI_48271, sI_69621]
    refine take_ok b2 (by omega) (by omega) fun n S3 n0 n1 b3 k3 => ?_
    simp [sNext, sIf, sBreak, sCont, sNever, sExpr, sRet, sRetO, sRetN, sSet, sAsg, gNm, gsNil, gsCons, gT, eD, eV, eBox, eNm, eC, eOp, eUn, aNil, aCons, eTup, eLst, eCB, bV, bAnd, bOr, bNot, eAnd, eOr, eNot, eIf, eChain, eCall, eFld, sFldS, sFldA, eMeth, eMake, bYes, fSub, fLt, fLe, fGt, fGe, fDiv, fMod, fPow, fNeg, fAdd, fMul, fIsN, fNotN, Yi.isNon, fEq, fNe, fIn, fInS, fIx, intR, oNo, oPart, fSl, eSl, eRev, sAppO, sExtO, sAug, oIx, oIn, oEq, sPar, sPar3, sSetIx, eDGet, eDIn, eDGet2, sDPutS, eDPop1, eDPop2, eDNewK, eDNewT, oDGet, oDIn, eBM, mApp, mExt, mPopAt, mIdx, cellL, iEv, iR1, iR2, iC, fLen, oLen, fMax, fMin, fAll, fAny, fSum, fSortI, fList, fTuple, fInt, fStr, fIsi, tyD, isLstD, isStrD, isDD, lstD, seqD, stD, eCallF, nAt, iSt, mJoin, mSplit, fAddI, sStar, iEnS, eSortSet, fSet, eLenSet, insAt, lkp, putD, ok_some, ok_none, ok_bind, ok_map, eq_int, eq_bl, sAsg, kb_NoneType_int, kb_NoneType_bool, kb_NoneType_str, kb_NoneType_tuple, kb_NoneType_list, kb_bool_int, kb_bool_bool, kb_bool_str, kb_bool_tuple, kb_bool_list, kb_int_int, kb_int_bool, kb_int_str, kb_int_tuple, kb_int_list, kb_str_int, kb_str_bool, kb_str_str, kb_str_tuple, kb_str_list, kb_tuple_int, kb_tuple_bool, kb_tuple_str, kb_tuple_tuple, kb_tuple_list, kb_list_int, kb_list_bool, kb_list_str, kb_list_tuple, kb_list_list, sz_0, sz_1, sz_2, sz_3, sz_4, sz_5, sz_6, sz_7, sz_8, sz_9, sz_10, sz_11, sz_12, sz_13, sz_14, sz_15, sz_16, ix_1_0, ix_2_0, ix_2_1, ix_3_0, ix_3_1, ix_3_2, ix_4_0, ix_4_1, ix_4_2, ix_4_3, ix_5_0, ix_5_1, ix_5_2, ix_5_3, ix_5_4, ix_6_0, ix_6_1, ix_6_2, ix_6_3, ix_6_4, ix_6_5, ix_7_0, ix_7_1, ix_7_2, ix_7_3, ix_7_4, ix_7_5, ix_7_6, sI_0, sI_1, sI_48271, sI_69621, smR n0 (by omega)]
    refine (forL_ok (InvN S (.tup (rs.map rD)) most few rs.length) (rngL 0 n.toNat) 0 ⟨[], b0, none, rfl, rfl, by omega, by simp, trivial, h0, h0, by omega, b3, (k1.trans k2).trans k3⟩ ?_).mono ?_
    · rintro i d hd ρ S4 ⟨ns, b, x, rfl, l, li, g, t, tb, bb0, bb, b4, k4⟩
      obtain ⟨hi, rfl⟩ := rng_get hd
      simp [gNm, m_law_notices_1, ok_some]
      refine seq_ok ?_
      simp [sNext, sIf, sBreak, sCont, sNever, sExpr, sRet, sRetO, sRetN, sSet, sAsg, gNm, gsNil, gsCons, gT, eD, eV, eBox, eNm, eC, eOp, eUn, aNil, aCons, eTup, eLst, eCB, bV, bAnd, bOr, bNot, eAnd, eOr, eNot, eIf, eChain, eCall, eFld, sFldS, sFldA, eMeth, eMake, bYes, fSub, fLt, fLe, fGt, fGe, fDiv, fMod, fPow, fNeg, fAdd, fMul, fIsN, fNotN, Yi.isNon, fEq, fNe, fIn, fInS, fIx, intR, oNo, oPart, fSl, eSl, eRev, sAppO, sExtO, sAug, oIx, oIn, oEq, sPar, sPar3, sSetIx, eDGet, eDIn, eDGet2, sDPutS, eDPop1, eDPop2, eDNewK, eDNewT, oDGet, oDIn, eBM, mApp, mExt, mPopAt, mIdx, cellL, iEv, iR1, iR2, iC, fLen, oLen, fMax, fMin, fAll, fAny, fSum, fSortI, fList, fTuple, fInt, fStr, fIsi, tyD, isLstD, isStrD, isDD, lstD, seqD, stD, eCallF, nAt, iSt, mJoin, mSplit, fAddI, sStar, iEnS, eSortSet, fSet, eLenSet, insAt, lkp, putD, ok_some, ok_none, ok_bind, ok_map, eq_int, eq_bl, sAsg, kb_NoneType_int, kb_NoneType_bool, kb_NoneType_str, kb_NoneType_tuple, kb_NoneType_list, kb_bool_int, kb_bool_bool, kb_bool_str, kb_bool_tuple, kb_bool_list, kb_int_int, kb_int_bool, kb_int_str, kb_int_tuple, kb_int_list, kb_str_int, kb_str_bool, kb_str_str, kb_str_tuple, kb_str_list, kb_tuple_int, kb_tuple_bool, kb_tuple_str, kb_tuple_tuple, kb_tuple_list, kb_list_int, kb_list_bool, kb_list_str, kb_list_tuple, kb_list_list, sz_0, sz_1, sz_2, sz_3, sz_4, sz_5, sz_6, sz_7, sz_8, sz_9, sz_10, sz_11, sz_12, sz_13, sz_14, sz_15, sz_16, ix_1_0, ix_2_0, ix_2_1, ix_3_0, ix_3_1, ix_3_2, ix_4_0, ix_4_1, ix_4_2, ix_4_3, ix_5_0, ix_5_1, ix_5_2, ix_5_3, ix_5_4, ix_6_0, ix_6_1, ix_6_2, ix_6_3, ix_6_4, ix_6_5, ix_7_0, ix_7_1, ix_7_2, ix_7_3, ix_7_4, ix_7_5, ix_7_6, sI_0, sI_1, sI_48271, sI_69621]
      refine take_ok b4 (by decide) (by decide) fun y S5 y0 y1 b5 k5 => ?_
      have len : szOk ns.length = true := by simp [szOk]; omega
      have go : ∀ lim : Int, 0 < lim → lim ≤ 40 → ∀ {R : VV × Sto → Prop}, (∀ r S', 0 ≤ r → r < 40 → Box S' → Kp S S' → R (.d (.int r), S')) → ok (d_law_take [.ref 1, .int lim] S5) R := fun lim l0 l1 R hR =>
        take_ok b5 l0 (by omega) fun r S6 r0 r1 b6 k6 => hR r S6 r0 (by omega) b6 ((k4.trans k5).trans k6)
      have body : ∀ (nb : Int) (S6 : Sto), b ≤ nb → nb ≤ 300 → Box S6 → Kp S S6 → ok (sAppO 4 (eTup (aCons (eCall d_law_take (aCons (eNm 0) (aCons (eCB fLen (aCons (eNm 1) aNil)) aNil)) []) (aCons (eCall d_law_take (aCons (eNm 0) (aCons (eC (.int 4)) aNil)) []) (aCons (eCall d_law_take (aCons (eNm 0) (aCons (eNm 6) aNil)) []) (aCons (eNm 5) aNil)))))
          [some (.d (.ref 1)), some (.d (.tup (rs.map rD))), some (.d (.int most)), some (.d (.int i)), some (.own (.lst (ns.map nD))), some (.d (.int nb)), some (.d (.int few))] S6) fun p => p.1 = .nx ∧ InvN S (.tup (rs.map rD)) most few rs.length (i + 1) p.2.1 p.2.2 := by
        intro nb S6 nb0 nb1 b6 k6
        have l1 := hr.l1
        have l6 := hr.l6
        simp [sNext, sIf, sBreak, sCont, sNever, sExpr, sRet, sRetO, sRetN, sSet, sAsg, gNm, gsNil, gsCons, gT, eD, eV, eBox, eNm, eC, eOp, eUn, aNil, aCons, eTup, eLst, eCB, bV, bAnd, bOr, bNot, eAnd, eOr, eNot, eIf, eChain, eCall, eFld, sFldS, sFldA, eMeth, eMake, bYes, fSub, fLt, fLe, fGt, fGe, fDiv, fMod, fPow, fNeg, fAdd, fMul, fIsN, fNotN, Yi.isNon, fEq, fNe, fIn, fInS, fIx, intR, oNo, oPart, fSl, eSl, eRev, sAppO, sExtO, sAug, oIx, oIn, oEq, sPar, sPar3, sSetIx, eDGet, eDIn, eDGet2, sDPutS, eDPop1, eDPop2, eDNewK, eDNewT, oDGet, oDIn, eBM, mApp, mExt, mPopAt, mIdx, cellL, iEv, iR1, iR2, iC, fLen, oLen, fMax, fMin, fAll, fAny, fSum, fSortI, fList, fTuple, fInt, fStr, fIsi, tyD, isLstD, isStrD, isDD, lstD, seqD, stD, eCallF, nAt, iSt, mJoin, mSplit, fAddI, sStar, iEnS, eSortSet, fSet, eLenSet, insAt, lkp, putD, ok_some, ok_none, ok_bind, ok_map, eq_int, eq_bl, sAsg, kb_NoneType_int, kb_NoneType_bool, kb_NoneType_str, kb_NoneType_tuple, kb_NoneType_list, kb_bool_int, kb_bool_bool, kb_bool_str, kb_bool_tuple, kb_bool_list, kb_int_int, kb_int_bool, kb_int_str, kb_int_tuple, kb_int_list, kb_str_int, kb_str_bool, kb_str_str, kb_str_tuple, kb_str_list, kb_tuple_int, kb_tuple_bool, kb_tuple_str, kb_tuple_tuple, kb_tuple_list, kb_list_int, kb_list_bool, kb_list_str, kb_list_tuple, kb_list_list, sz_0, sz_1, sz_2, sz_3, sz_4, sz_5, sz_6, sz_7, sz_8, sz_9, sz_10, sz_11, sz_12, sz_13, sz_14, sz_15, sz_16, ix_1_0, ix_2_0, ix_2_1, ix_3_0, ix_3_1, ix_3_2, ix_4_0, ix_4_1, ix_4_2, ix_4_3, ix_5_0, ix_5_1, ix_5_2, ix_5_3, ix_5_4, ix_6_0, ix_6_1, ix_6_2, ix_6_3, ix_6_4, ix_6_5, ix_7_0, ix_7_1, ix_7_2, ix_7_3, ix_7_4, ix_7_5, ix_7_6, sI_0, sI_1, sI_48271, sI_69621]
        refine take_ok b6 (by omega) (by omega) fun p S7 p0 p1 b7 k7 => ?_
        simp [sNext, sIf, sBreak, sCont, sNever, sExpr, sRet, sRetO, sRetN, sSet, sAsg, gNm, gsNil, gsCons, gT, eD, eV, eBox, eNm, eC, eOp, eUn, aNil, aCons, eTup, eLst, eCB, bV, bAnd, bOr, bNot, eAnd, eOr, eNot, eIf, eChain, eCall, eFld, sFldS, sFldA, eMeth, eMake, bYes, fSub, fLt, fLe, fGt, fGe, fDiv, fMod, fPow, fNeg, fAdd, fMul, fIsN, fNotN, Yi.isNon, fEq, fNe, fIn, fInS, fIx, intR, oNo, oPart, fSl, eSl, eRev, sAppO, sExtO, sAug, oIx, oIn, oEq, sPar, sPar3, sSetIx, eDGet, eDIn, eDGet2, sDPutS, eDPop1, eDPop2, eDNewK, eDNewT, oDGet, oDIn, eBM, mApp, mExt, mPopAt, mIdx, cellL, iEv, iR1, iR2, iC, fLen, oLen, fMax, fMin, fAll, fAny, fSum, fSortI, fList, fTuple, fInt, fStr, fIsi, tyD, isLstD, isStrD, isDD, lstD, seqD, stD, eCallF, nAt, iSt, mJoin, mSplit, fAddI, sStar, iEnS, eSortSet, fSet, eLenSet, insAt, lkp, putD, ok_some, ok_none, ok_bind, ok_map, eq_int, eq_bl, sAsg, kb_NoneType_int, kb_NoneType_bool, kb_NoneType_str, kb_NoneType_tuple, kb_NoneType_list, kb_bool_int, kb_bool_bool, kb_bool_str, kb_bool_tuple, kb_bool_list, kb_int_int, kb_int_bool, kb_int_str, kb_int_tuple, kb_int_list, kb_str_int, kb_str_bool, kb_str_str, kb_str_tuple, kb_str_list, kb_tuple_int, kb_tuple_bool, kb_tuple_str, kb_tuple_tuple, kb_tuple_list, kb_list_int, kb_list_bool, kb_list_str, kb_list_tuple, kb_list_list, sz_0, sz_1, sz_2, sz_3, sz_4, sz_5, sz_6, sz_7, sz_8, sz_9, sz_10, sz_11, sz_12, sz_13, sz_14, sz_15, sz_16, ix_1_0, ix_2_0, ix_2_1, ix_3_0, ix_3_1, ix_3_2, ix_4_0, ix_4_1, ix_4_2, ix_4_3, ix_5_0, ix_5_1, ix_5_2, ix_5_3, ix_5_4, ix_6_0, ix_6_1, ix_6_2, ix_6_3, ix_6_4, ix_6_5, ix_7_0, ix_7_1, ix_7_2, ix_7_3, ix_7_4, ix_7_5, ix_7_6, sI_0, sI_1, sI_48271, sI_69621]
        refine take_ok b7 (by decide) (by decide) fun r S8 r0 r1 b8 k8 => ?_
        simp [sNext, sIf, sBreak, sCont, sNever, sExpr, sRet, sRetO, sRetN, sSet, sAsg, gNm, gsNil, gsCons, gT, eD, eV, eBox, eNm, eC, eOp, eUn, aNil, aCons, eTup, eLst, eCB, bV, bAnd, bOr, bNot, eAnd, eOr, eNot, eIf, eChain, eCall, eFld, sFldS, sFldA, eMeth, eMake, bYes, fSub, fLt, fLe, fGt, fGe, fDiv, fMod, fPow, fNeg, fAdd, fMul, fIsN, fNotN, Yi.isNon, fEq, fNe, fIn, fInS, fIx, intR, oNo, oPart, fSl, eSl, eRev, sAppO, sExtO, sAug, oIx, oIn, oEq, sPar, sPar3, sSetIx, eDGet, eDIn, eDGet2, sDPutS, eDPop1, eDPop2, eDNewK, eDNewT, oDGet, oDIn, eBM, mApp, mExt, mPopAt, mIdx, cellL, iEv, iR1, iR2, iC, fLen, oLen, fMax, fMin, fAll, fAny, fSum, fSortI, fList, fTuple, fInt, fStr, fIsi, tyD, isLstD, isStrD, isDD, lstD, seqD, stD, eCallF, nAt, iSt, mJoin, mSplit, fAddI, sStar, iEnS, eSortSet, fSet, eLenSet, insAt, lkp, putD, ok_some, ok_none, ok_bind, ok_map, eq_int, eq_bl, sAsg, kb_NoneType_int, kb_NoneType_bool, kb_NoneType_str, kb_NoneType_tuple, kb_NoneType_list, kb_bool_int, kb_bool_bool, kb_bool_str, kb_bool_tuple, kb_bool_list, kb_int_int, kb_int_bool, kb_int_str, kb_int_tuple, kb_int_list, kb_str_int, kb_str_bool, kb_str_str, kb_str_tuple, kb_str_list, kb_tuple_int, kb_tuple_bool, kb_tuple_str, kb_tuple_tuple, kb_tuple_list, kb_list_int, kb_list_bool, kb_list_str, kb_list_tuple, kb_list_list, sz_0, sz_1, sz_2, sz_3, sz_4, sz_5, sz_6, sz_7, sz_8, sz_9, sz_10, sz_11, sz_12, sz_13, sz_14, sz_15, sz_16, ix_1_0, ix_2_0, ix_2_1, ix_3_0, ix_3_1, ix_3_2, ix_4_0, ix_4_1, ix_4_2, ix_4_3, ix_5_0, ix_5_1, ix_5_2, ix_5_3, ix_5_4, ix_6_0, ix_6_1, ix_6_2, ix_6_3, ix_6_4, ix_6_5, ix_7_0, ix_7_1, ix_7_2, ix_7_3, ix_7_4, ix_7_5, ix_7_6, sI_0, sI_1, sI_48271, sI_69621]
        refine take_ok b8 f0 (by omega) fun k S9 kk0 kk1 b9 k9 => ?_
        simp [sNext, sIf, sBreak, sCont, sNever, sExpr, sRet, sRetO, sRetN, sSet, sAsg, gNm, gsNil, gsCons, gT, eD, eV, eBox, eNm, eC, eOp, eUn, aNil, aCons, eTup, eLst, eCB, bV, bAnd, bOr, bNot, eAnd, eOr, eNot, eIf, eChain, eCall, eFld, sFldS, sFldA, eMeth, eMake, bYes, fSub, fLt, fLe, fGt, fGe, fDiv, fMod, fPow, fNeg, fAdd, fMul, fIsN, fNotN, Yi.isNon, fEq, fNe, fIn, fInS, fIx, intR, oNo, oPart, fSl, eSl, eRev, sAppO, sExtO, sAug, oIx, oIn, oEq, sPar, sPar3, sSetIx, eDGet, eDIn, eDGet2, sDPutS, eDPop1, eDPop2, eDNewK, eDNewT, oDGet, oDIn, eBM, mApp, mExt, mPopAt, mIdx, cellL, iEv, iR1, iR2, iC, fLen, oLen, fMax, fMin, fAll, fAny, fSum, fSortI, fList, fTuple, fInt, fStr, fIsi, tyD, isLstD, isStrD, isDD, lstD, seqD, stD, eCallF, nAt, iSt, mJoin, mSplit, fAddI, sStar, iEnS, eSortSet, fSet, eLenSet, insAt, lkp, putD, ok_some, ok_none, ok_bind, ok_map, eq_int, eq_bl, sAsg, kb_NoneType_int, kb_NoneType_bool, kb_NoneType_str, kb_NoneType_tuple, kb_NoneType_list, kb_bool_int, kb_bool_bool, kb_bool_str, kb_bool_tuple, kb_bool_list, kb_int_int, kb_int_bool, kb_int_str, kb_int_tuple, kb_int_list, kb_str_int, kb_str_bool, kb_str_str, kb_str_tuple, kb_str_list, kb_tuple_int, kb_tuple_bool, kb_tuple_str, kb_tuple_tuple, kb_tuple_list, kb_list_int, kb_list_bool, kb_list_str, kb_list_tuple, kb_list_list, sz_0, sz_1, sz_2, sz_3, sz_4, sz_5, sz_6, sz_7, sz_8, sz_9, sz_10, sz_11, sz_12, sz_13, sz_14, sz_15, sz_16, ix_1_0, ix_2_0, ix_2_1, ix_3_0, ix_3_1, ix_3_2, ix_4_0, ix_4_1, ix_4_2, ix_4_3, ix_5_0, ix_5_1, ix_5_2, ix_5_3, ix_5_4, ix_6_0, ix_6_1, ix_6_2, ix_6_3, ix_6_4, ix_6_5, ix_7_0, ix_7_1, ix_7_2, ix_7_3, ix_7_4, ix_7_5, ix_7_6, sI_0, sI_1, sI_48271, sI_69621, len]
        obtain ⟨t1, t2⟩ := turn_app (n := ⟨p, r, k, nb⟩) t (by show lastB 0 ns ≤ nb; omega) nb1
        refine ⟨ns ++ [⟨p, r, k, nb⟩], nb, some (.d (.int i)), by simp [nD], by simp; omega, by omega, fun n' h' => ?_, t1, by rw [t2]; exact Int.le_refl _, by omega, nb1, b9, ((k6.trans k7).trans k8).trans k9⟩
        rcases List.mem_append.mp h' with q | q
        · exact g n' q
        · have e : n' = ⟨p, r, k, nb⟩ := by simpa using q
          rw [e]
          exact ⟨p0, p1, r0, Int.le_of_lt_add_one r1, kk0, by show k ≤ 7; omega⟩
      have mn : ∀ r : Int, 0 ≤ r → (b ≤ if b + r < 300 then b + r else 300) ∧ (if b + r < 300 then b + r else 300) ≤ 300 := fun r r0 => by split <;> omega
      rcases (by omega : y = 0 ∨ y = 1 ∨ y = 2) with rfl | rfl | rfl
      · simp [sNext, sIf, sBreak, sCont, sNever, sExpr, sRet, sRetO, sRetN, sSet, sAsg, gNm, gsNil, gsCons, gT, eD, eV, eBox, eNm, eC, eOp, eUn, aNil, aCons, eTup, eLst, eCB, bV, bAnd, bOr, bNot, eAnd, eOr, eNot, eIf, eChain, eCall, eFld, sFldS, sFldA, eMeth, eMake, bYes, fSub, fLt, fLe, fGt, fGe, fDiv, fMod, fPow, fNeg, fAdd, fMul, fIsN, fNotN, Yi.isNon, fEq, fNe, fIn, fInS, fIx, intR, oNo, oPart, fSl, eSl, eRev, sAppO, sExtO, sAug, oIx, oIn, oEq, sPar, sPar3, sSetIx, eDGet, eDIn, eDGet2, sDPutS, eDPop1, eDPop2, eDNewK, eDNewT, oDGet, oDIn, eBM, mApp, mExt, mPopAt, mIdx, cellL, iEv, iR1, iR2, iC, fLen, oLen, fMax, fMin, fAll, fAny, fSum, fSortI, fList, fTuple, fInt, fStr, fIsi, tyD, isLstD, isStrD, isDD, lstD, seqD, stD, eCallF, nAt, iSt, mJoin, mSplit, fAddI, sStar, iEnS, eSortSet, fSet, eLenSet, insAt, lkp, putD, ok_some, ok_none, ok_bind, ok_map, eq_int, eq_bl, sAsg, kb_NoneType_int, kb_NoneType_bool, kb_NoneType_str, kb_NoneType_tuple, kb_NoneType_list, kb_bool_int, kb_bool_bool, kb_bool_str, kb_bool_tuple, kb_bool_list, kb_int_int, kb_int_bool, kb_int_str, kb_int_tuple, kb_int_list, kb_str_int, kb_str_bool, kb_str_str, kb_str_tuple, kb_str_list, kb_tuple_int, kb_tuple_bool, kb_tuple_str, kb_tuple_tuple, kb_tuple_list, kb_list_int, kb_list_bool, kb_list_str, kb_list_tuple, kb_list_list, sz_0, sz_1, sz_2, sz_3, sz_4, sz_5, sz_6, sz_7, sz_8, sz_9, sz_10, sz_11, sz_12, sz_13, sz_14, sz_15, sz_16, ix_1_0, ix_2_0, ix_2_1, ix_3_0, ix_3_1, ix_3_2, ix_4_0, ix_4_1, ix_4_2, ix_4_3, ix_5_0, ix_5_1, ix_5_2, ix_5_3, ix_5_4, ix_6_0, ix_6_1, ix_6_2, ix_6_3, ix_6_4, ix_6_5, ix_7_0, ix_7_1, ix_7_2, ix_7_3, ix_7_4, ix_7_5, ix_7_6, sI_0, sI_1, sI_48271, sI_69621, atI]
        refine go 2 (by decide) (by decide) fun r S6 r0 r1 b6 k6 => ?_
        have h := body _ S6 (mn r r0).1 (mn r r0).2 b6 k6
        simp [sNext, sIf, sBreak, sCont, sNever, sExpr, sRet, sRetO, sRetN, sSet, sAsg, gNm, gsNil, gsCons, gT, eD, eV, eBox, eNm, eC, eOp, eUn, aNil, aCons, eTup, eLst, eCB, bV, bAnd, bOr, bNot, eAnd, eOr, eNot, eIf, eChain, eCall, eFld, sFldS, sFldA, eMeth, eMake, bYes, fSub, fLt, fLe, fGt, fGe, fDiv, fMod, fPow, fNeg, fAdd, fMul, fIsN, fNotN, Yi.isNon, fEq, fNe, fIn, fInS, fIx, intR, oNo, oPart, fSl, eSl, eRev, sAppO, sExtO, sAug, oIx, oIn, oEq, sPar, sPar3, sSetIx, eDGet, eDIn, eDGet2, sDPutS, eDPop1, eDPop2, eDNewK, eDNewT, oDGet, oDIn, eBM, mApp, mExt, mPopAt, mIdx, cellL, iEv, iR1, iR2, iC, fLen, oLen, fMax, fMin, fAll, fAny, fSum, fSortI, fList, fTuple, fInt, fStr, fIsi, tyD, isLstD, isStrD, isDD, lstD, seqD, stD, eCallF, nAt, iSt, mJoin, mSplit, fAddI, sStar, iEnS, eSortSet, fSet, eLenSet, insAt, lkp, putD, ok_some, ok_none, ok_bind, ok_map, eq_int, eq_bl, sAsg, kb_NoneType_int, kb_NoneType_bool, kb_NoneType_str, kb_NoneType_tuple, kb_NoneType_list, kb_bool_int, kb_bool_bool, kb_bool_str, kb_bool_tuple, kb_bool_list, kb_int_int, kb_int_bool, kb_int_str, kb_int_tuple, kb_int_list, kb_str_int, kb_str_bool, kb_str_str, kb_str_tuple, kb_str_list, kb_tuple_int, kb_tuple_bool, kb_tuple_str, kb_tuple_tuple, kb_tuple_list, kb_list_int, kb_list_bool, kb_list_str, kb_list_tuple, kb_list_list, sz_0, sz_1, sz_2, sz_3, sz_4, sz_5, sz_6, sz_7, sz_8, sz_9, sz_10, sz_11, sz_12, sz_13, sz_14, sz_15, sz_16, ix_1_0, ix_2_0, ix_2_1, ix_3_0, ix_3_1, ix_3_2, ix_4_0, ix_4_1, ix_4_2, ix_4_3, ix_5_0, ix_5_1, ix_5_2, ix_5_3, ix_5_4, ix_6_0, ix_6_1, ix_6_2, ix_6_3, ix_6_4, ix_6_5, ix_7_0, ix_7_1, ix_7_2, ix_7_3, ix_7_4, ix_7_5, ix_7_6, sI_0, sI_1, sI_48271, sI_69621] at h ⊢
        exact h
      · simp [sNext, sIf, sBreak, sCont, sNever, sExpr, sRet, sRetO, sRetN, sSet, sAsg, gNm, gsNil, gsCons, gT, eD, eV, eBox, eNm, eC, eOp, eUn, aNil, aCons, eTup, eLst, eCB, bV, bAnd, bOr, bNot, eAnd, eOr, eNot, eIf, eChain, eCall, eFld, sFldS, sFldA, eMeth, eMake, bYes, fSub, fLt, fLe, fGt, fGe, fDiv, fMod, fPow, fNeg, fAdd, fMul, fIsN, fNotN, Yi.isNon, fEq, fNe, fIn, fInS, fIx, intR, oNo, oPart, fSl, eSl, eRev, sAppO, sExtO, sAug, oIx, oIn, oEq, sPar, sPar3, sSetIx, eDGet, eDIn, eDGet2, sDPutS, eDPop1, eDPop2, eDNewK, eDNewT, oDGet, oDIn, eBM, mApp, mExt, mPopAt, mIdx, cellL, iEv, iR1, iR2, iC, fLen, oLen, fMax, fMin, fAll, fAny, fSum, fSortI, fList, fTuple, fInt, fStr, fIsi, tyD, isLstD, isStrD, isDD, lstD, seqD, stD, eCallF, nAt, iSt, mJoin, mSplit, fAddI, sStar, iEnS, eSortSet, fSet, eLenSet, insAt, lkp, putD, ok_some, ok_none, ok_bind, ok_map, eq_int, eq_bl, sAsg, kb_NoneType_int, kb_NoneType_bool, kb_NoneType_str, kb_NoneType_tuple, kb_NoneType_list, kb_bool_int, kb_bool_bool, kb_bool_str, kb_bool_tuple, kb_bool_list, kb_int_int, kb_int_bool, kb_int_str, kb_int_tuple, kb_int_list, kb_str_int, kb_str_bool, kb_str_str, kb_str_tuple, kb_str_list, kb_tuple_int, kb_tuple_bool, kb_tuple_str, kb_tuple_tuple, kb_tuple_list, kb_list_int, kb_list_bool, kb_list_str, kb_list_tuple, kb_list_list, sz_0, sz_1, sz_2, sz_3, sz_4, sz_5, sz_6, sz_7, sz_8, sz_9, sz_10, sz_11, sz_12, sz_13, sz_14, sz_15, sz_16, ix_1_0, ix_2_0, ix_2_1, ix_3_0, ix_3_1, ix_3_2, ix_4_0, ix_4_1, ix_4_2, ix_4_3, ix_5_0, ix_5_1, ix_5_2, ix_5_3, ix_5_4, ix_6_0, ix_6_1, ix_6_2, ix_6_3, ix_6_4, ix_6_5, ix_7_0, ix_7_1, ix_7_2, ix_7_3, ix_7_4, ix_7_5, ix_7_6, sI_0, sI_1, sI_48271, sI_69621, atI]
        refine go 9 (by decide) (by decide) fun r S6 r0 r1 b6 k6 => ?_
        have h := body _ S6 (mn r r0).1 (mn r r0).2 b6 k6
        simp [sNext, sIf, sBreak, sCont, sNever, sExpr, sRet, sRetO, sRetN, sSet, sAsg, gNm, gsNil, gsCons, gT, eD, eV, eBox, eNm, eC, eOp, eUn, aNil, aCons, eTup, eLst, eCB, bV, bAnd, bOr, bNot, eAnd, eOr, eNot, eIf, eChain, eCall, eFld, sFldS, sFldA, eMeth, eMake, bYes, fSub, fLt, fLe, fGt, fGe, fDiv, fMod, fPow, fNeg, fAdd, fMul, fIsN, fNotN, Yi.isNon, fEq, fNe, fIn, fInS, fIx, intR, oNo, oPart, fSl, eSl, eRev, sAppO, sExtO, sAug, oIx, oIn, oEq, sPar, sPar3, sSetIx, eDGet, eDIn, eDGet2, sDPutS, eDPop1, eDPop2, eDNewK, eDNewT, oDGet, oDIn, eBM, mApp, mExt, mPopAt, mIdx, cellL, iEv, iR1, iR2, iC, fLen, oLen, fMax, fMin, fAll, fAny, fSum, fSortI, fList, fTuple, fInt, fStr, fIsi, tyD, isLstD, isStrD, isDD, lstD, seqD, stD, eCallF, nAt, iSt, mJoin, mSplit, fAddI, sStar, iEnS, eSortSet, fSet, eLenSet, insAt, lkp, putD, ok_some, ok_none, ok_bind, ok_map, eq_int, eq_bl, sAsg, kb_NoneType_int, kb_NoneType_bool, kb_NoneType_str, kb_NoneType_tuple, kb_NoneType_list, kb_bool_int, kb_bool_bool, kb_bool_str, kb_bool_tuple, kb_bool_list, kb_int_int, kb_int_bool, kb_int_str, kb_int_tuple, kb_int_list, kb_str_int, kb_str_bool, kb_str_str, kb_str_tuple, kb_str_list, kb_tuple_int, kb_tuple_bool, kb_tuple_str, kb_tuple_tuple, kb_tuple_list, kb_list_int, kb_list_bool, kb_list_str, kb_list_tuple, kb_list_list, sz_0, sz_1, sz_2, sz_3, sz_4, sz_5, sz_6, sz_7, sz_8, sz_9, sz_10, sz_11, sz_12, sz_13, sz_14, sz_15, sz_16, ix_1_0, ix_2_0, ix_2_1, ix_3_0, ix_3_1, ix_3_2, ix_4_0, ix_4_1, ix_4_2, ix_4_3, ix_5_0, ix_5_1, ix_5_2, ix_5_3, ix_5_4, ix_6_0, ix_6_1, ix_6_2, ix_6_3, ix_6_4, ix_6_5, ix_7_0, ix_7_1, ix_7_2, ix_7_3, ix_7_4, ix_7_5, ix_7_6, sI_0, sI_1, sI_48271, sI_69621] at h ⊢
        exact h
      · simp [sNext, sIf, sBreak, sCont, sNever, sExpr, sRet, sRetO, sRetN, sSet, sAsg, gNm, gsNil, gsCons, gT, eD, eV, eBox, eNm, eC, eOp, eUn, aNil, aCons, eTup, eLst, eCB, bV, bAnd, bOr, bNot, eAnd, eOr, eNot, eIf, eChain, eCall, eFld, sFldS, sFldA, eMeth, eMake, bYes, fSub, fLt, fLe, fGt, fGe, fDiv, fMod, fPow, fNeg, fAdd, fMul, fIsN, fNotN, Yi.isNon, fEq, fNe, fIn, fInS, fIx, intR, oNo, oPart, fSl, eSl, eRev, sAppO, sExtO, sAug, oIx, oIn, oEq, sPar, sPar3, sSetIx, eDGet, eDIn, eDGet2, sDPutS, eDPop1, eDPop2, eDNewK, eDNewT, oDGet, oDIn, eBM, mApp, mExt, mPopAt, mIdx, cellL, iEv, iR1, iR2, iC, fLen, oLen, fMax, fMin, fAll, fAny, fSum, fSortI, fList, fTuple, fInt, fStr, fIsi, tyD, isLstD, isStrD, isDD, lstD, seqD, stD, eCallF, nAt, iSt, mJoin, mSplit, fAddI, sStar, iEnS, eSortSet, fSet, eLenSet, insAt, lkp, putD, ok_some, ok_none, ok_bind, ok_map, eq_int, eq_bl, sAsg, kb_NoneType_int, kb_NoneType_bool, kb_NoneType_str, kb_NoneType_tuple, kb_NoneType_list, kb_bool_int, kb_bool_bool, kb_bool_str, kb_bool_tuple, kb_bool_list, kb_int_int, kb_int_bool, kb_int_str, kb_int_tuple, kb_int_list, kb_str_int, kb_str_bool, kb_str_str, kb_str_tuple, kb_str_list, kb_tuple_int, kb_tuple_bool, kb_tuple_str, kb_tuple_tuple, kb_tuple_list, kb_list_int, kb_list_bool, kb_list_str, kb_list_tuple, kb_list_list, sz_0, sz_1, sz_2, sz_3, sz_4, sz_5, sz_6, sz_7, sz_8, sz_9, sz_10, sz_11, sz_12, sz_13, sz_14, sz_15, sz_16, ix_1_0, ix_2_0, ix_2_1, ix_3_0, ix_3_1, ix_3_2, ix_4_0, ix_4_1, ix_4_2, ix_4_3, ix_5_0, ix_5_1, ix_5_2, ix_5_3, ix_5_4, ix_6_0, ix_6_1, ix_6_2, ix_6_3, ix_6_4, ix_6_5, ix_7_0, ix_7_1, ix_7_2, ix_7_3, ix_7_4, ix_7_5, ix_7_6, sI_0, sI_1, sI_48271, sI_69621, atI]
        refine go 40 (by decide) (by decide) fun r S6 r0 r1 b6 k6 => ?_
        have h := body _ S6 (mn r r0).1 (mn r r0).2 b6 k6
        simp [sNext, sIf, sBreak, sCont, sNever, sExpr, sRet, sRetO, sRetN, sSet, sAsg, gNm, gsNil, gsCons, gT, eD, eV, eBox, eNm, eC, eOp, eUn, aNil, aCons, eTup, eLst, eCB, bV, bAnd, bOr, bNot, eAnd, eOr, eNot, eIf, eChain, eCall, eFld, sFldS, sFldA, eMeth, eMake, bYes, fSub, fLt, fLe, fGt, fGe, fDiv, fMod, fPow, fNeg, fAdd, fMul, fIsN, fNotN, Yi.isNon, fEq, fNe, fIn, fInS, fIx, intR, oNo, oPart, fSl, eSl, eRev, sAppO, sExtO, sAug, oIx, oIn, oEq, sPar, sPar3, sSetIx, eDGet, eDIn, eDGet2, sDPutS, eDPop1, eDPop2, eDNewK, eDNewT, oDGet, oDIn, eBM, mApp, mExt, mPopAt, mIdx, cellL, iEv, iR1, iR2, iC, fLen, oLen, fMax, fMin, fAll, fAny, fSum, fSortI, fList, fTuple, fInt, fStr, fIsi, tyD, isLstD, isStrD, isDD, lstD, seqD, stD, eCallF, nAt, iSt, mJoin, mSplit, fAddI, sStar, iEnS, eSortSet, fSet, eLenSet, insAt, lkp, putD, ok_some, ok_none, ok_bind, ok_map, eq_int, eq_bl, sAsg, kb_NoneType_int, kb_NoneType_bool, kb_NoneType_str, kb_NoneType_tuple, kb_NoneType_list, kb_bool_int, kb_bool_bool, kb_bool_str, kb_bool_tuple, kb_bool_list, kb_int_int, kb_int_bool, kb_int_str, kb_int_tuple, kb_int_list, kb_str_int, kb_str_bool, kb_str_str, kb_str_tuple, kb_str_list, kb_tuple_int, kb_tuple_bool, kb_tuple_str, kb_tuple_tuple, kb_tuple_list, kb_list_int, kb_list_bool, kb_list_str, kb_list_tuple, kb_list_list, sz_0, sz_1, sz_2, sz_3, sz_4, sz_5, sz_6, sz_7, sz_8, sz_9, sz_10, sz_11, sz_12, sz_13, sz_14, sz_15, sz_16, ix_1_0, ix_2_0, ix_2_1, ix_3_0, ix_3_1, ix_3_2, ix_4_0, ix_4_1, ix_4_2, ix_4_3, ix_5_0, ix_5_1, ix_5_2, ix_5_3, ix_5_4, ix_6_0, ix_6_1, ix_6_2, ix_6_3, ix_6_4, ix_6_5, ix_7_0, ix_7_1, ix_7_2, ix_7_3, ix_7_4, ix_7_5, ix_7_6, sI_0, sI_1, sI_48271, sI_69621] at h ⊢
        exact h
    · rintro ⟨f, ρ, S4⟩ ⟨rfl, ns, b, x, rfl, l, li, g, t, tb, bb0, bb, b4, k4⟩
      simp [sNext, sIf, sBreak, sCont, sNever, sExpr, sRet, sRetO, sRetN, sSet, sAsg, gNm, gsNil, gsCons, gT, eD, eV, eBox, eNm, eC, eOp, eUn, aNil, aCons, eTup, eLst, eCB, bV, bAnd, bOr, bNot, eAnd, eOr, eNot, eIf, eChain, eCall, eFld, sFldS, sFldA, eMeth, eMake, bYes, fSub, fLt, fLe, fGt, fGe, fDiv, fMod, fPow, fNeg, fAdd, fMul, fIsN, fNotN, Yi.isNon, fEq, fNe, fIn, fInS, fIx, intR, oNo, oPart, fSl, eSl, eRev, sAppO, sExtO, sAug, oIx, oIn, oEq, sPar, sPar3, sSetIx, eDGet, eDIn, eDGet2, sDPutS, eDPop1, eDPop2, eDNewK, eDNewT, oDGet, oDIn, eBM, mApp, mExt, mPopAt, mIdx, cellL, iEv, iR1, iR2, iC, fLen, oLen, fMax, fMin, fAll, fAny, fSum, fSortI, fList, fTuple, fInt, fStr, fIsi, tyD, isLstD, isStrD, isDD, lstD, seqD, stD, eCallF, nAt, iSt, mJoin, mSplit, fAddI, sStar, iEnS, eSortSet, fSet, eLenSet, insAt, lkp, putD, ok_some, ok_none, ok_bind, ok_map, eq_int, eq_bl, sAsg, kb_NoneType_int, kb_NoneType_bool, kb_NoneType_str, kb_NoneType_tuple, kb_NoneType_list, kb_bool_int, kb_bool_bool, kb_bool_str, kb_bool_tuple, kb_bool_list, kb_int_int, kb_int_bool, kb_int_str, kb_int_tuple, kb_int_list, kb_str_int, kb_str_bool, kb_str_str, kb_str_tuple, kb_str_list, kb_tuple_int, kb_tuple_bool, kb_tuple_str, kb_tuple_tuple, kb_tuple_list, kb_list_int, kb_list_bool, kb_list_str, kb_list_tuple, kb_list_list, sz_0, sz_1, sz_2, sz_3, sz_4, sz_5, sz_6, sz_7, sz_8, sz_9, sz_10, sz_11, sz_12, sz_13, sz_14, sz_15, sz_16, ix_1_0, ix_2_0, ix_2_1, ix_3_0, ix_3_1, ix_3_2, ix_4_0, ix_4_1, ix_4_2, ix_4_3, ix_5_0, ix_5_1, ix_5_2, ix_5_3, ix_5_4, ix_6_0, ix_6_1, ix_6_2, ix_6_3, ix_6_4, ix_6_5, ix_7_0, ix_7_1, ix_7_2, ix_7_3, ix_7_4, ix_7_5, ix_7_6, sI_0, sI_1, sI_48271, sI_69621]
      simp only [rng_len, Nat.zero_add] at l
      exact hQ ns S4 (by omega) g t b4 k4
  rcases (by omega : y = 0 ∨ y = 1) with rfl | rfl
  · simp [sNext, sIf, sBreak, sCont, sNever, sExpr, sRet, sRetO, sRetN, sSet, sAsg, gNm, gsNil, gsCons, gT, eD, eV, eBox, eNm, eC, eOp, eUn, aNil, aCons, eTup, eLst, eCB, bV, bAnd, bOr, bNot, eAnd, eOr, eNot, eIf, eChain, eCall, eFld, sFldS, sFldA, eMeth, eMake, bYes, fSub, fLt, fLe, fGt, fGe, fDiv, fMod, fPow, fNeg, fAdd, fMul, fIsN, fNotN, Yi.isNon, fEq, fNe, fIn, fInS, fIx, intR, oNo, oPart, fSl, eSl, eRev, sAppO, sExtO, sAug, oIx, oIn, oEq, sPar, sPar3, sSetIx, eDGet, eDIn, eDGet2, sDPutS, eDPop1, eDPop2, eDNewK, eDNewT, oDGet, oDIn, eBM, mApp, mExt, mPopAt, mIdx, cellL, iEv, iR1, iR2, iC, fLen, oLen, fMax, fMin, fAll, fAny, fSum, fSortI, fList, fTuple, fInt, fStr, fIsi, tyD, isLstD, isStrD, isDD, lstD, seqD, stD, eCallF, nAt, iSt, mJoin, mSplit, fAddI, sStar, iEnS, eSortSet, fSet, eLenSet, insAt, lkp, putD, ok_some, ok_none, ok_bind, ok_map, eq_int, eq_bl, sAsg, kb_NoneType_int, kb_NoneType_bool, kb_NoneType_str, kb_NoneType_tuple, kb_NoneType_list, kb_bool_int, kb_bool_bool, kb_bool_str, kb_bool_tuple, kb_bool_list, kb_int_int, kb_int_bool, kb_int_str, kb_int_tuple, kb_int_list, kb_str_int, kb_str_bool, kb_str_str, kb_str_tuple, kb_str_list, kb_tuple_int, kb_tuple_bool, kb_tuple_str, kb_tuple_tuple, kb_tuple_list, kb_list_int, kb_list_bool, kb_list_str, kb_list_tuple, kb_list_list, sz_0, sz_1, sz_2, sz_3, sz_4, sz_5, sz_6, sz_7, sz_8, sz_9, sz_10, sz_11, sz_12, sz_13, sz_14, sz_15, sz_16, ix_1_0, ix_2_0, ix_2_1, ix_3_0, ix_3_1, ix_3_2, ix_4_0, ix_4_1, ix_4_2, ix_4_3, ix_5_0, ix_5_1, ix_5_2, ix_5_3, ix_5_4, ix_6_0, ix_6_1, ix_6_2, ix_6_3, ix_6_4, ix_6_5, ix_7_0, ix_7_1, ix_7_2, ix_7_3, ix_7_4, ix_7_5, ix_7_6, sI_0, sI_1, sI_48271, sI_69621, atI]
    exact rest 2 (by decide) (by decide)
  · simp [sNext, sIf, sBreak, sCont, sNever, sExpr, sRet, sRetO, sRetN, sSet, sAsg, gNm, gsNil, gsCons, gT, eD, eV, eBox, eNm, eC, eOp, eUn, aNil, aCons, eTup, eLst, eCB, bV, bAnd, bOr, bNot, eAnd, eOr, eNot, eIf, eChain, eCall, eFld, sFldS, sFldA, eMeth, eMake, bYes, fSub, fLt, fLe, fGt, fGe, fDiv, fMod, fPow, fNeg, fAdd, fMul, fIsN, fNotN, Yi.isNon, fEq, fNe, fIn, fInS, fIx, intR, oNo, oPart, fSl, eSl, eRev, sAppO, sExtO, sAug, oIx, oIn, oEq, sPar, sPar3, sSetIx, eDGet, eDIn, eDGet2, sDPutS, eDPop1, eDPop2, eDNewK, eDNewT, oDGet, oDIn, eBM, mApp, mExt, mPopAt, mIdx, cellL, iEv, iR1, iR2, iC, fLen, oLen, fMax, fMin, fAll, fAny, fSum, fSortI, fList, fTuple, fInt, fStr, fIsi, tyD, isLstD, isStrD, isDD, lstD, seqD, stD, eCallF, nAt, iSt, mJoin, mSplit, fAddI, sStar, iEnS, eSortSet, fSet, eLenSet, insAt, lkp, putD, ok_some, ok_none, ok_bind, ok_map, eq_int, eq_bl, sAsg, kb_NoneType_int, kb_NoneType_bool, kb_NoneType_str, kb_NoneType_tuple, kb_NoneType_list, kb_bool_int, kb_bool_bool, kb_bool_str, kb_bool_tuple, kb_bool_list, kb_int_int, kb_int_bool, kb_int_str, kb_int_tuple, kb_int_list, kb_str_int, kb_str_bool, kb_str_str, kb_str_tuple, kb_str_list, kb_tuple_int, kb_tuple_bool, kb_tuple_str, kb_tuple_tuple, kb_tuple_list, kb_list_int, kb_list_bool, kb_list_str, kb_list_tuple, kb_list_list, sz_0, sz_1, sz_2, sz_3, sz_4, sz_5, sz_6, sz_7, sz_8, sz_9, sz_10, sz_11, sz_12, sz_13, sz_14, sz_15, sz_16, ix_1_0, ix_2_0, ix_2_1, ix_3_0, ix_3_1, ix_3_2, ix_4_0, ix_4_1, ix_4_2, ix_4_3, ix_5_0, ix_5_1, ix_5_2, ix_5_3, ix_5_4, ix_6_0, ix_6_1, ix_6_2, ix_6_3, ix_6_4, ix_6_5, ix_7_0, ix_7_1, ix_7_2, ix_7_3, ix_7_4, ix_7_5, ix_7_6, sI_0, sI_1, sI_48271, sI_69621, atI]
    exact rest 8 (by decide) (by decide)
end Wk
namespace Wk
open PySem L2 Yi
theorem isn {i lo hi : Int} {S : Sto} (h : lo ≤ i ∧ i ≤ hi) : d_is_number [.int i, .int lo, .int hi] S = some (.d (.bl true), S) := by rw [is_number_ok, decide_eq_true h.1, decide_eq_true h.2]; rfl
theorem stretch_ok {p : Int × Int} {S : Sto} (h : 0 ≤ p.1 ∧ p.1 ≤ 23 ∧ 0 ≤ p.2 ∧ p.2 ≤ 23 ∧ p.1 ≠ p.2) : d_is_stretch [pD p] S = some (.d (.bl true), S) := by
  refine ok.get (den_ok rfl ?_)
  have a := isn (S := S) (i := p.1) (lo := 0) (hi := 23) ⟨h.1, h.2.1⟩
  have b := isn (S := S) (i := p.2) (lo := 0) (hi := 23) ⟨h.2.2.1, h.2.2.2.1⟩
  simp [m_is_stretch, pD, sNext, sIf, sBreak, sCont, sNever, sExpr, sRet, sRetO, sRetN, sSet, sAsg, gNm, gsNil, gsCons, gT, eD, eV, eBox, eNm, eC, eOp, eUn, aNil, aCons, eTup, eLst, eCB, bV, bAnd, bOr, bNot, eAnd, eOr, eNot, eIf, eChain, eCall, eFld, sFldS, sFldA, eMeth, eMake, bYes, fSub, fLt, fLe, fGt, fGe, fDiv, fMod, fPow, fNeg, fAdd, fMul, fIsN, fNotN, Yi.isNon, fEq, fNe, fIn, fInS, fIx, intR, oNo, oPart, fSl, eSl, eRev, sAppO, sExtO, sAug, oIx, oIn, oEq, sPar, sPar3, sSetIx, eDGet, eDIn, eDGet2, sDPutS, eDPop1, eDPop2, eDNewK, eDNewT, oDGet, oDIn, eBM, mApp, mExt, mPopAt, mIdx, cellL, iEv, iR1, iR2, iC, fLen, oLen, fMax, fMin, fAll, fAny, fSum, fSortI, fList, fTuple, fInt, fStr, fIsi, tyD, isLstD, isStrD, isDD, lstD, seqD, stD, eCallF, nAt, iSt, mJoin, mSplit, fAddI, sStar, iEnS, eSortSet, fSet, eLenSet, insAt, lkp, putD, ok_some, ok_none, ok_bind, ok_map, eq_int, eq_bl, sAsg, kb_NoneType_int, kb_NoneType_bool, kb_NoneType_str, kb_NoneType_tuple, kb_NoneType_list, kb_bool_int, kb_bool_bool, kb_bool_str, kb_bool_tuple, kb_bool_list, kb_int_int, kb_int_bool, kb_int_str, kb_int_tuple, kb_int_list, kb_str_int, kb_str_bool, kb_str_str, kb_str_tuple, kb_str_list, kb_tuple_int, kb_tuple_bool, kb_tuple_str, kb_tuple_tuple, kb_tuple_list, kb_list_int, kb_list_bool, kb_list_str, kb_list_tuple, kb_list_list, sz_0, sz_1, sz_2, sz_3, sz_4, sz_5, sz_6, sz_7, sz_8, sz_9, sz_10, sz_11, sz_12, sz_13, sz_14, sz_15, sz_16, ix_1_0, ix_2_0, ix_2_1, ix_3_0, ix_3_1, ix_3_2, ix_4_0, ix_4_1, ix_4_2, ix_4_3, ix_5_0, ix_5_1, ix_5_2, ix_5_3, ix_5_4, ix_6_0, ix_6_1, ix_6_2, ix_6_3, ix_6_4, ix_6_5, ix_7_0, ix_7_1, ix_7_2, ix_7_3, ix_7_4, ix_7_5, ix_7_6, sI_0, sI_1, sI_48271, sI_69621, atI, a, b, eq_int, h.2.2.2.2]
theorem gathered_ok {p : Int × Int} {S : Sto} (h : 0 ≤ p.1 ∧ p.1 ≤ 7 ∧ 1 ≤ p.2 ∧ p.2 ≤ 12) : d_is_gathered [pD p] S = some (.d (.bl true), S) := by
  refine ok.get (den_ok rfl ?_)
  have a := isn (S := S) (i := p.1) (lo := 0) (hi := 7) ⟨h.1, h.2.1⟩
  have b := isn (S := S) (i := p.2) (lo := 1) (hi := 12) h.2.2
  simp [m_is_gathered, pD, sNext, sIf, sBreak, sCont, sNever, sExpr, sRet, sRetO, sRetN, sSet, sAsg, gNm, gsNil, gsCons, gT, eD, eV, eBox, eNm, eC, eOp, eUn, aNil, aCons, eTup, eLst, eCB, bV, bAnd, bOr, bNot, eAnd, eOr, eNot, eIf, eChain, eCall, eFld, sFldS, sFldA, eMeth, eMake, bYes, fSub, fLt, fLe, fGt, fGe, fDiv, fMod, fPow, fNeg, fAdd, fMul, fIsN, fNotN, Yi.isNon, fEq, fNe, fIn, fInS, fIx, intR, oNo, oPart, fSl, eSl, eRev, sAppO, sExtO, sAug, oIx, oIn, oEq, sPar, sPar3, sSetIx, eDGet, eDIn, eDGet2, sDPutS, eDPop1, eDPop2, eDNewK, eDNewT, oDGet, oDIn, eBM, mApp, mExt, mPopAt, mIdx, cellL, iEv, iR1, iR2, iC, fLen, oLen, fMax, fMin, fAll, fAny, fSum, fSortI, fList, fTuple, fInt, fStr, fIsi, tyD, isLstD, isStrD, isDD, lstD, seqD, stD, eCallF, nAt, iSt, mJoin, mSplit, fAddI, sStar, iEnS, eSortSet, fSet, eLenSet, insAt, lkp, putD, ok_some, ok_none, ok_bind, ok_map, eq_int, eq_bl, sAsg, kb_NoneType_int, kb_NoneType_bool, kb_NoneType_str, kb_NoneType_tuple, kb_NoneType_list, kb_bool_int, kb_bool_bool, kb_bool_str, kb_bool_tuple, kb_bool_list, kb_int_int, kb_int_bool, kb_int_str, kb_int_tuple, kb_int_list, kb_str_int, kb_str_bool, kb_str_str, kb_str_tuple, kb_str_list, kb_tuple_int, kb_tuple_bool, kb_tuple_str, kb_tuple_tuple, kb_tuple_list, kb_list_int, kb_list_bool, kb_list_str, kb_list_tuple, kb_list_list, sz_0, sz_1, sz_2, sz_3, sz_4, sz_5, sz_6, sz_7, sz_8, sz_9, sz_10, sz_11, sz_12, sz_13, sz_14, sz_15, sz_16, ix_1_0, ix_2_0, ix_2_1, ix_3_0, ix_3_1, ix_3_2, ix_4_0, ix_4_1, ix_4_2, ix_4_3, ix_5_0, ix_5_1, ix_5_2, ix_5_3, ix_5_4, ix_6_0, ix_6_1, ix_6_2, ix_6_3, ix_6_4, ix_6_5, ix_7_0, ix_7_1, ix_7_2, ix_7_3, ix_7_4, ix_7_5, ix_7_6, sI_0, sI_1, sI_48271, sI_69621, atI, a, b]
theorem bls_true {α : Type} : ∀ l : List α, blsD (l.map fun _ => D.bl true) = some (l.map fun _ => true)
  | [] => rfl
  | _ :: r => by simp [blsD, bls_true r]
theorem pairs_ok {ps : List (Int × Int)} {most : Int} {j : Nat} {f : Den} {S : Sto} (hl : (ps.length : Int) ≤ most) (h9 : most ≤ 100) (hj : fns_are_pairs_is_good j = some f) (hf : ∀ p ∈ ps, f [pD p] S = some (.d (.bl true), S)) :
    d_are_pairs [.tup (ps.map pD), .int most, .fn j] S = some (.d (.bl true), S) := by
  refine ok.get (den_ok rfl (seq_ok ?_))
  have z : szOk ps.length = true := by simp [szOk]; omega
  have n1 : ¬ (most < ps.length) := by omega
  simp [sNext, sIf, sBreak, sCont, sNever, sExpr, sRet, sRetO, sRetN, sSet, sAsg, gNm, gsNil, gsCons, gT, eD, eV, eBox, eNm, eC, eOp, eUn, aNil, aCons, eTup, eLst, eCB, bV, bAnd, bOr, bNot, eAnd, eOr, eNot, eIf, eChain, eCall, eFld, sFldS, sFldA, eMeth, eMake, bYes, fSub, fLt, fLe, fGt, fGe, fDiv, fMod, fPow, fNeg, fAdd, fMul, fIsN, fNotN, Yi.isNon, fEq, fNe, fIn, fInS, fIx, intR, oNo, oPart, fSl, eSl, eRev, sAppO, sExtO, sAug, oIx, oIn, oEq, sPar, sPar3, sSetIx, eDGet, eDIn, eDGet2, sDPutS, eDPop1, eDPop2, eDNewK, eDNewT, oDGet, oDIn, eBM, mApp, mExt, mPopAt, mIdx, cellL, iEv, iR1, iR2, iC, fLen, oLen, fMax, fMin, fAll, fAny, fSum, fSortI, fList, fTuple, fInt, fStr, fIsi, tyD, isLstD, isStrD, isDD, lstD, seqD, stD, eCallF, nAt, iSt, mJoin, mSplit, fAddI, sStar, iEnS, eSortSet, fSet, eLenSet, insAt, lkp, putD, ok_some, ok_none, ok_bind, ok_map, eq_int, eq_bl, sAsg, kb_NoneType_int, kb_NoneType_bool, kb_NoneType_str, kb_NoneType_tuple, kb_NoneType_list, kb_bool_int, kb_bool_bool, kb_bool_str, kb_bool_tuple, kb_bool_list, kb_int_int, kb_int_bool, kb_int_str, kb_int_tuple, kb_int_list, kb_str_int, kb_str_bool, kb_str_str, kb_str_tuple, kb_str_list, kb_tuple_int, kb_tuple_bool, kb_tuple_str, kb_tuple_tuple, kb_tuple_list, kb_list_int, kb_list_bool, kb_list_str, kb_list_tuple, kb_list_list, sz_0, sz_1, sz_2, sz_3, sz_4, sz_5, sz_6, sz_7, sz_8, sz_9, sz_10, sz_11, sz_12, sz_13, sz_14, sz_15, sz_16, ix_1_0, ix_2_0, ix_2_1, ix_3_0, ix_3_1, ix_3_2, ix_4_0, ix_4_1, ix_4_2, ix_4_3, ix_5_0, ix_5_1, ix_5_2, ix_5_3, ix_5_4, ix_6_0, ix_6_1, ix_6_2, ix_6_3, ix_6_4, ix_6_5, ix_7_0, ix_7_1, ix_7_2, ix_7_3, ix_7_4, ix_7_5, ix_7_6, sI_0, sI_1, sI_48271, sI_69621, n1]
  refine lc_ok ?_
  simp [sNext, sIf, sBreak, sCont, sNever, sExpr, sRet, sRetO, sRetN, sSet, sAsg, gNm, gsNil, gsCons, gT, eD, eV, eBox, eNm, eC, eOp, eUn, aNil, aCons, eTup, eLst, eCB, bV, bAnd, bOr, bNot, eAnd, eOr, eNot, eIf, eChain, eCall, eFld, sFldS, sFldA, eMeth, eMake, bYes, fSub, fLt, fLe, fGt, fGe, fDiv, fMod, fPow, fNeg, fAdd, fMul, fIsN, fNotN, Yi.isNon, fEq, fNe, fIn, fInS, fIx, intR, oNo, oPart, fSl, eSl, eRev, sAppO, sExtO, sAug, oIx, oIn, oEq, sPar, sPar3, sSetIx, eDGet, eDIn, eDGet2, sDPutS, eDPop1, eDPop2, eDNewK, eDNewT, oDGet, oDIn, eBM, mApp, mExt, mPopAt, mIdx, cellL, iEv, iR1, iR2, iC, fLen, oLen, fMax, fMin, fAll, fAny, fSum, fSortI, fList, fTuple, fInt, fStr, fIsi, tyD, isLstD, isStrD, isDD, lstD, seqD, stD, eCallF, nAt, iSt, mJoin, mSplit, fAddI, sStar, iEnS, eSortSet, fSet, eLenSet, insAt, lkp, putD, ok_some, ok_none, ok_bind, ok_map, eq_int, eq_bl, sAsg, kb_NoneType_int, kb_NoneType_bool, kb_NoneType_str, kb_NoneType_tuple, kb_NoneType_list, kb_bool_int, kb_bool_bool, kb_bool_str, kb_bool_tuple, kb_bool_list, kb_int_int, kb_int_bool, kb_int_str, kb_int_tuple, kb_int_list, kb_str_int, kb_str_bool, kb_str_str, kb_str_tuple, kb_str_list, kb_tuple_int, kb_tuple_bool, kb_tuple_str, kb_tuple_tuple, kb_tuple_list, kb_list_int, kb_list_bool, kb_list_str, kb_list_tuple, kb_list_list, sz_0, sz_1, sz_2, sz_3, sz_4, sz_5, sz_6, sz_7, sz_8, sz_9, sz_10, sz_11, sz_12, sz_13, sz_14, sz_15, sz_16, ix_1_0, ix_2_0, ix_2_1, ix_3_0, ix_3_1, ix_3_2, ix_4_0, ix_4_1, ix_4_2, ix_4_3, ix_5_0, ix_5_1, ix_5_2, ix_5_3, ix_5_4, ix_6_0, ix_6_1, ix_6_2, ix_6_3, ix_6_4, ix_6_5, ix_7_0, ix_7_1, ix_7_2, ix_7_3, ix_7_4, ix_7_5, ix_7_6, sI_0, sI_1, sI_48271, sI_69621, wipeS]
  rw [compL_map (fun _ => .bl true) _ [] (by simp; omega) ?_]
  · simp [sNext, sIf, sBreak, sCont, sNever, sExpr, sRet, sRetO, sRetN, sSet, sAsg, gNm, gsNil, gsCons, gT, eD, eV, eBox, eNm, eC, eOp, eUn, aNil, aCons, eTup, eLst, eCB, bV, bAnd, bOr, bNot, eAnd, eOr, eNot, eIf, eChain, eCall, eFld, sFldS, sFldA, eMeth, eMake, bYes, fSub, fLt, fLe, fGt, fGe, fDiv, fMod, fPow, fNeg, fAdd, fMul, fIsN, fNotN, Yi.isNon, fEq, fNe, fIn, fInS, fIx, intR, oNo, oPart, fSl, eSl, eRev, sAppO, sExtO, sAug, oIx, oIn, oEq, sPar, sPar3, sSetIx, eDGet, eDIn, eDGet2, sDPutS, eDPop1, eDPop2, eDNewK, eDNewT, oDGet, oDIn, eBM, mApp, mExt, mPopAt, mIdx, cellL, iEv, iR1, iR2, iC, fLen, oLen, fMax, fMin, fAll, fAny, fSum, fSortI, fList, fTuple, fInt, fStr, fIsi, tyD, isLstD, isStrD, isDD, lstD, seqD, stD, eCallF, nAt, iSt, mJoin, mSplit, fAddI, sStar, iEnS, eSortSet, fSet, eLenSet, insAt, lkp, putD, ok_some, ok_none, ok_bind, ok_map, eq_int, eq_bl, sAsg, kb_NoneType_int, kb_NoneType_bool, kb_NoneType_str, kb_NoneType_tuple, kb_NoneType_list, kb_bool_int, kb_bool_bool, kb_bool_str, kb_bool_tuple, kb_bool_list, kb_int_int, kb_int_bool, kb_int_str, kb_int_tuple, kb_int_list, kb_str_int, kb_str_bool, kb_str_str, kb_str_tuple, kb_str_list, kb_tuple_int, kb_tuple_bool, kb_tuple_str, kb_tuple_tuple, kb_tuple_list, kb_list_int, kb_list_bool, kb_list_str, kb_list_tuple, kb_list_list, sz_0, sz_1, sz_2, sz_3, sz_4, sz_5, sz_6, sz_7, sz_8, sz_9, sz_10, sz_11, sz_12, sz_13, sz_14, sz_15, sz_16, ix_1_0, ix_2_0, ix_2_1, ix_3_0, ix_3_1, ix_3_2, ix_4_0, ix_4_1, ix_4_2, ix_4_3, ix_5_0, ix_5_1, ix_5_2, ix_5_3, ix_5_4, ix_6_0, ix_6_1, ix_6_2, ix_6_3, ix_6_4, ix_6_5, ix_7_0, ix_7_1, ix_7_2, ix_7_3, ix_7_4, ix_7_5, ix_7_6, sI_0, sI_1, sI_48271, sI_69621, bls_true, Function.comp_def]
  · intro d hd
    obtain ⟨p, hp, rfl⟩ := List.mem_map.mp hd
    refine ⟨_, rfl, rfl, ?_⟩
    have q := hf p hp
    refine ok.get ?_
    unfold pD at q ⊢
    simp [sNext, sIf, sBreak, sCont, sNever, sExpr, sRet, sRetO, sRetN, sSet, sAsg, gNm, gsNil, gsCons, gT, eD, eV, eBox, eNm, eC, eOp, eUn, aNil, aCons, eTup, eLst, eCB, bV, bAnd, bOr, bNot, eAnd, eOr, eNot, eIf, eChain, eCall, eFld, sFldS, sFldA, eMeth, eMake, bYes, fSub, fLt, fLe, fGt, fGe, fDiv, fMod, fPow, fNeg, fAdd, fMul, fIsN, fNotN, Yi.isNon, fEq, fNe, fIn, fInS, fIx, intR, oNo, oPart, fSl, eSl, eRev, sAppO, sExtO, sAug, oIx, oIn, oEq, sPar, sPar3, sSetIx, eDGet, eDIn, eDGet2, sDPutS, eDPop1, eDPop2, eDNewK, eDNewT, oDGet, oDIn, eBM, mApp, mExt, mPopAt, mIdx, cellL, iEv, iR1, iR2, iC, fLen, oLen, fMax, fMin, fAll, fAny, fSum, fSortI, fList, fTuple, fInt, fStr, fIsi, tyD, isLstD, isStrD, isDD, lstD, seqD, stD, eCallF, nAt, iSt, mJoin, mSplit, fAddI, sStar, iEnS, eSortSet, fSet, eLenSet, insAt, lkp, putD, ok_some, ok_none, ok_bind, ok_map, eq_int, eq_bl, sAsg, kb_NoneType_int, kb_NoneType_bool, kb_NoneType_str, kb_NoneType_tuple, kb_NoneType_list, kb_bool_int, kb_bool_bool, kb_bool_str, kb_bool_tuple, kb_bool_list, kb_int_int, kb_int_bool, kb_int_str, kb_int_tuple, kb_int_list, kb_str_int, kb_str_bool, kb_str_str, kb_str_tuple, kb_str_list, kb_tuple_int, kb_tuple_bool, kb_tuple_str, kb_tuple_tuple, kb_tuple_list, kb_list_int, kb_list_bool, kb_list_str, kb_list_tuple, kb_list_list, sz_0, sz_1, sz_2, sz_3, sz_4, sz_5, sz_6, sz_7, sz_8, sz_9, sz_10, sz_11, sz_12, sz_13, sz_14, sz_15, sz_16, ix_1_0, ix_2_0, ix_2_1, ix_3_0, ix_3_1, ix_3_2, ix_4_0, ix_4_1, ix_4_2, ix_4_3, ix_5_0, ix_5_1, ix_5_2, ix_5_3, ix_5_4, ix_6_0, ix_6_1, ix_6_2, ix_6_3, ix_6_4, ix_6_5, ix_7_0, ix_7_1, ix_7_2, ix_7_3, ix_7_4, ix_7_5, ix_7_6, sI_0, sI_1, sI_48271, sI_69621, hj, q, eq_int]
theorem firsts (gs : List (Int × Int)) {ρ : Slt} {S : Sto} (hl : gs.length ≤ 100) (h9 : 9 < ρ.length) : compL (gNm 9) bYes (eOp fIx (eNm 9) (eC (.int 0))) ρ (gs.map pD) [] S = some ((gs.map (·.1)).map .int, S) := by
  rw [compL_map (fun d => match d with | .tup (x :: _) => x | _ => .non) _ [] (by simp; omega) ?_]
  · simp [pD, Function.comp_def]
  · intro d hd
    obtain ⟨p, hp, rfl⟩ := List.mem_map.mp hd
    refine ⟨_, rfl, rfl, ok.get ?_⟩
    simp [sNext, sIf, sBreak, sCont, sNever, sExpr, sRet, sRetO, sRetN, sSet, sAsg, gNm, gsNil, gsCons, gT, eD, eV, eBox, eNm, eC, eOp, eUn, aNil, aCons, eTup, eLst, eCB, bV, bAnd, bOr, bNot, eAnd, eOr, eNot, eIf, eChain, eCall, eFld, sFldS, sFldA, eMeth, eMake, bYes, fSub, fLt, fLe, fGt, fGe, fDiv, fMod, fPow, fNeg, fAdd, fMul, fIsN, fNotN, Yi.isNon, fEq, fNe, fIn, fInS, fIx, intR, oNo, oPart, fSl, eSl, eRev, sAppO, sExtO, sAug, oIx, oIn, oEq, sPar, sPar3, sSetIx, eDGet, eDIn, eDGet2, sDPutS, eDPop1, eDPop2, eDNewK, eDNewT, oDGet, oDIn, eBM, mApp, mExt, mPopAt, mIdx, cellL, iEv, iR1, iR2, iC, fLen, oLen, fMax, fMin, fAll, fAny, fSum, fSortI, fList, fTuple, fInt, fStr, fIsi, tyD, isLstD, isStrD, isDD, lstD, seqD, stD, eCallF, nAt, iSt, mJoin, mSplit, fAddI, sStar, iEnS, eSortSet, fSet, eLenSet, insAt, lkp, putD, ok_some, ok_none, ok_bind, ok_map, eq_int, eq_bl, sAsg, kb_NoneType_int, kb_NoneType_bool, kb_NoneType_str, kb_NoneType_tuple, kb_NoneType_list, kb_bool_int, kb_bool_bool, kb_bool_str, kb_bool_tuple, kb_bool_list, kb_int_int, kb_int_bool, kb_int_str, kb_int_tuple, kb_int_list, kb_str_int, kb_str_bool, kb_str_str, kb_str_tuple, kb_str_list, kb_tuple_int, kb_tuple_bool, kb_tuple_str, kb_tuple_tuple, kb_tuple_list, kb_list_int, kb_list_bool, kb_list_str, kb_list_tuple, kb_list_list, sz_0, sz_1, sz_2, sz_3, sz_4, sz_5, sz_6, sz_7, sz_8, sz_9, sz_10, sz_11, sz_12, sz_13, sz_14, sz_15, sz_16, ix_1_0, ix_2_0, ix_2_1, ix_3_0, ix_3_1, ix_3_2, ix_4_0, ix_4_1, ix_4_2, ix_4_3, ix_5_0, ix_5_1, ix_5_2, ix_5_3, ix_5_4, ix_6_0, ix_6_1, ix_6_2, ix_6_3, ix_6_4, ix_6_5, ix_7_0, ix_7_1, ix_7_2, ix_7_3, ix_7_4, ix_7_5, ix_7_6, sI_0, sI_1, sI_48271, sI_69621, pD, atI, List.getElem?_set_self h9]
theorem bad_part_ok {r : Rl} {m : Nat} {S : Sto} (h : r.Good m) (m0 : 0 < m) (m6 : m ≤ 6) : d_bad_part [rD r, .int m] S = some (.d .non, S) := by
  refine ok.get (den_ok rfl (seq_ok ?_))
  simp [sNext, sIf, sBreak, sCont, sNever, sExpr, sRet, sRetO, sRetN, sSet, sAsg, gNm, gsNil, gsCons, gT, eD, eV, eBox, eNm, eC, eOp, eUn, aNil, aCons, eTup, eLst, eCB, bV, bAnd, bOr, bNot, eAnd, eOr, eNot, eIf, eChain, eCall, eFld, sFldS, sFldA, eMeth, eMake, bYes, fSub, fLt, fLe, fGt, fGe, fDiv, fMod, fPow, fNeg, fAdd, fMul, fIsN, fNotN, Yi.isNon, fEq, fNe, fIn, fInS, fIx, intR, oNo, oPart, fSl, eSl, eRev, sAppO, sExtO, sAug, oIx, oIn, oEq, sPar, sPar3, sSetIx, eDGet, eDIn, eDGet2, sDPutS, eDPop1, eDPop2, eDNewK, eDNewT, oDGet, oDIn, eBM, mApp, mExt, mPopAt, mIdx, cellL, iEv, iR1, iR2, iC, fLen, oLen, fMax, fMin, fAll, fAny, fSum, fSortI, fList, fTuple, fInt, fStr, fIsi, tyD, isLstD, isStrD, isDD, lstD, seqD, stD, eCallF, nAt, iSt, mJoin, mSplit, fAddI, sStar, iEnS, eSortSet, fSet, eLenSet, insAt, lkp, putD, ok_some, ok_none, ok_bind, ok_map, eq_int, eq_bl, sAsg, kb_NoneType_int, kb_NoneType_bool, kb_NoneType_str, kb_NoneType_tuple, kb_NoneType_list, kb_bool_int, kb_bool_bool, kb_bool_str, kb_bool_tuple, kb_bool_list, kb_int_int, kb_int_bool, kb_int_str, kb_int_tuple, kb_int_list, kb_str_int, kb_str_bool, kb_str_str, kb_str_tuple, kb_str_list, kb_tuple_int, kb_tuple_bool, kb_tuple_str, kb_tuple_tuple, kb_tuple_list, kb_list_int, kb_list_bool, kb_list_str, kb_list_tuple, kb_list_list, sz_0, sz_1, sz_2, sz_3, sz_4, sz_5, sz_6, sz_7, sz_8, sz_9, sz_10, sz_11, sz_12, sz_13, sz_14, sz_15, sz_16, ix_1_0, ix_2_0, ix_2_1, ix_3_0, ix_3_1, ix_3_2, ix_4_0, ix_4_1, ix_4_2, ix_4_3, ix_5_0, ix_5_1, ix_5_2, ix_5_3, ix_5_4, ix_6_0, ix_6_1, ix_6_2, ix_6_3, ix_6_4, ix_6_5, ix_7_0, ix_7_1, ix_7_2, ix_7_3, ix_7_4, ix_7_5, ix_7_6, sI_0, sI_1, sI_48271, sI_69621, rD]
  refine seq_ok ?_
  simp [sNext, sIf, sBreak, sCont, sNever, sExpr, sRet, sRetO, sRetN, sSet, sAsg, gNm, gsNil, gsCons, gT, eD, eV, eBox, eNm, eC, eOp, eUn, aNil, aCons, eTup, eLst, eCB, bV, bAnd, bOr, bNot, eAnd, eOr, eNot, eIf, eChain, eCall, eFld, sFldS, sFldA, eMeth, eMake, bYes, fSub, fLt, fLe, fGt, fGe, fDiv, fMod, fPow, fNeg, fAdd, fMul, fIsN, fNotN, Yi.isNon, fEq, fNe, fIn, fInS, fIx, intR, oNo, oPart, fSl, eSl, eRev, sAppO, sExtO, sAug, oIx, oIn, oEq, sPar, sPar3, sSetIx, eDGet, eDIn, eDGet2, sDPutS, eDPop1, eDPop2, eDNewK, eDNewT, oDGet, oDIn, eBM, mApp, mExt, mPopAt, mIdx, cellL, iEv, iR1, iR2, iC, fLen, oLen, fMax, fMin, fAll, fAny, fSum, fSortI, fList, fTuple, fInt, fStr, fIsi, tyD, isLstD, isStrD, isDD, lstD, seqD, stD, eCallF, nAt, iSt, mJoin, mSplit, fAddI, sStar, iEnS, eSortSet, fSet, eLenSet, insAt, lkp, putD, ok_some, ok_none, ok_bind, ok_map, eq_int, eq_bl, sAsg, kb_NoneType_int, kb_NoneType_bool, kb_NoneType_str, kb_NoneType_tuple, kb_NoneType_list, kb_bool_int, kb_bool_bool, kb_bool_str, kb_bool_tuple, kb_bool_list, kb_int_int, kb_int_bool, kb_int_str, kb_int_tuple, kb_int_list, kb_str_int, kb_str_bool, kb_str_str, kb_str_tuple, kb_str_list, kb_tuple_int, kb_tuple_bool, kb_tuple_str, kb_tuple_tuple, kb_tuple_list, kb_list_int, kb_list_bool, kb_list_str, kb_list_tuple, kb_list_list, sz_0, sz_1, sz_2, sz_3, sz_4, sz_5, sz_6, sz_7, sz_8, sz_9, sz_10, sz_11, sz_12, sz_13, sz_14, sz_15, sz_16, ix_1_0, ix_2_0, ix_2_1, ix_3_0, ix_3_1, ix_3_2, ix_4_0, ix_4_1, ix_4_2, ix_4_3, ix_5_0, ix_5_1, ix_5_2, ix_5_3, ix_5_4, ix_6_0, ix_6_1, ix_6_2, ix_6_3, ix_6_4, ix_6_5, ix_7_0, ix_7_1, ix_7_2, ix_7_3, ix_7_4, ix_7_5, ix_7_6, sI_0, sI_1, sI_48271, sI_69621]
  refine seq_ok ?_
  have p1 := pairs_ok (most := 4) (j := 0) (f := d_is_gathered) (S := S) (by have := h.gl; omega) (by decide) rfl fun p hp => gathered_ok (h.gk p hp)
  have p2 := pairs_ok (most := 3) (j := 1) (f := d_is_stretch) (S := S) (by have := h.hl; omega) (by decide) rfl fun p hp => stretch_ok (h.hh p hp)
  simp [sNext, sIf, sBreak, sCont, sNever, sExpr, sRet, sRetO, sRetN, sSet, sAsg, gNm, gsNil, gsCons, gT, eD, eV, eBox, eNm, eC, eOp, eUn, aNil, aCons, eTup, eLst, eCB, bV, bAnd, bOr, bNot, eAnd, eOr, eNot, eIf, eChain, eCall, eFld, sFldS, sFldA, eMeth, eMake, bYes, fSub, fLt, fLe, fGt, fGe, fDiv, fMod, fPow, fNeg, fAdd, fMul, fIsN, fNotN, Yi.isNon, fEq, fNe, fIn, fInS, fIx, intR, oNo, oPart, fSl, eSl, eRev, sAppO, sExtO, sAug, oIx, oIn, oEq, sPar, sPar3, sSetIx, eDGet, eDIn, eDGet2, sDPutS, eDPop1, eDPop2, eDNewK, eDNewT, oDGet, oDIn, eBM, mApp, mExt, mPopAt, mIdx, cellL, iEv, iR1, iR2, iC, fLen, oLen, fMax, fMin, fAll, fAny, fSum, fSortI, fList, fTuple, fInt, fStr, fIsi, tyD, isLstD, isStrD, isDD, lstD, seqD, stD, eCallF, nAt, iSt, mJoin, mSplit, fAddI, sStar, iEnS, eSortSet, fSet, eLenSet, insAt, lkp, putD, ok_some, ok_none, ok_bind, ok_map, eq_int, eq_bl, sAsg, kb_NoneType_int, kb_NoneType_bool, kb_NoneType_str, kb_NoneType_tuple, kb_NoneType_list, kb_bool_int, kb_bool_bool, kb_bool_str, kb_bool_tuple, kb_bool_list, kb_int_int, kb_int_bool, kb_int_str, kb_int_tuple, kb_int_list, kb_str_int, kb_str_bool, kb_str_str, kb_str_tuple, kb_str_list, kb_tuple_int, kb_tuple_bool, kb_tuple_str, kb_tuple_tuple, kb_tuple_list, kb_list_int, kb_list_bool, kb_list_str, kb_list_tuple, kb_list_list, sz_0, sz_1, sz_2, sz_3, sz_4, sz_5, sz_6, sz_7, sz_8, sz_9, sz_10, sz_11, sz_12, sz_13, sz_14, sz_15, sz_16, ix_1_0, ix_2_0, ix_2_1, ix_3_0, ix_3_1, ix_3_2, ix_4_0, ix_4_1, ix_4_2, ix_4_3, ix_5_0, ix_5_1, ix_5_2, ix_5_3, ix_5_4, ix_6_0, ix_6_1, ix_6_2, ix_6_3, ix_6_4, ix_6_5, ix_7_0, ix_7_1, ix_7_2, ix_7_3, ix_7_4, ix_7_5, ix_7_6, sI_0, sI_1, sI_48271, sI_69621, p1, ok_ite]
  refine lc_ok ?_
  simp [sNext, sIf, sBreak, sCont, sNever, sExpr, sRet, sRetO, sRetN, sSet, sAsg, gNm, gsNil, gsCons, gT, eD, eV, eBox, eNm, eC, eOp, eUn, aNil, aCons, eTup, eLst, eCB, bV, bAnd, bOr, bNot, eAnd, eOr, eNot, eIf, eChain, eCall, eFld, sFldS, sFldA, eMeth, eMake, bYes, fSub, fLt, fLe, fGt, fGe, fDiv, fMod, fPow, fNeg, fAdd, fMul, fIsN, fNotN, Yi.isNon, fEq, fNe, fIn, fInS, fIx, intR, oNo, oPart, fSl, eSl, eRev, sAppO, sExtO, sAug, oIx, oIn, oEq, sPar, sPar3, sSetIx, eDGet, eDIn, eDGet2, sDPutS, eDPop1, eDPop2, eDNewK, eDNewT, oDGet, oDIn, eBM, mApp, mExt, mPopAt, mIdx, cellL, iEv, iR1, iR2, iC, fLen, oLen, fMax, fMin, fAll, fAny, fSum, fSortI, fList, fTuple, fInt, fStr, fIsi, tyD, isLstD, isStrD, isDD, lstD, seqD, stD, eCallF, nAt, iSt, mJoin, mSplit, fAddI, sStar, iEnS, eSortSet, fSet, eLenSet, insAt, lkp, putD, ok_some, ok_none, ok_bind, ok_map, eq_int, eq_bl, sAsg, kb_NoneType_int, kb_NoneType_bool, kb_NoneType_str, kb_NoneType_tuple, kb_NoneType_list, kb_bool_int, kb_bool_bool, kb_bool_str, kb_bool_tuple, kb_bool_list, kb_int_int, kb_int_bool, kb_int_str, kb_int_tuple, kb_int_list, kb_str_int, kb_str_bool, kb_str_str, kb_str_tuple, kb_str_list, kb_tuple_int, kb_tuple_bool, kb_tuple_str, kb_tuple_tuple, kb_tuple_list, kb_list_int, kb_list_bool, kb_list_str, kb_list_tuple, kb_list_list, sz_0, sz_1, sz_2, sz_3, sz_4, sz_5, sz_6, sz_7, sz_8, sz_9, sz_10, sz_11, sz_12, sz_13, sz_14, sz_15, sz_16, ix_1_0, ix_2_0, ix_2_1, ix_3_0, ix_3_1, ix_3_2, ix_4_0, ix_4_1, ix_4_2, ix_4_3, ix_5_0, ix_5_1, ix_5_2, ix_5_3, ix_5_4, ix_6_0, ix_6_1, ix_6_2, ix_6_3, ix_6_4, ix_6_5, ix_7_0, ix_7_1, ix_7_2, ix_7_3, ix_7_4, ix_7_5, ix_7_6, sI_0, sI_1, sI_48271, sI_69621, wipeS]
  rw [firsts r.gs (by have := h.gl; omega) (by simp)]
  simp [sNext, sIf, sBreak, sCont, sNever, sExpr, sRet, sRetO, sRetN, sSet, sAsg, gNm, gsNil, gsCons, gT, eD, eV, eBox, eNm, eC, eOp, eUn, aNil, aCons, eTup, eLst, eCB, bV, bAnd, bOr, bNot, eAnd, eOr, eNot, eIf, eChain, eCall, eFld, sFldS, sFldA, eMeth, eMake, bYes, fSub, fLt, fLe, fGt, fGe, fDiv, fMod, fPow, fNeg, fAdd, fMul, fIsN, fNotN, Yi.isNon, fEq, fNe, fIn, fInS, fIx, intR, oNo, oPart, fSl, eSl, eRev, sAppO, sExtO, sAug, oIx, oIn, oEq, sPar, sPar3, sSetIx, eDGet, eDIn, eDGet2, sDPutS, eDPop1, eDPop2, eDNewK, eDNewT, oDGet, oDIn, eBM, mApp, mExt, mPopAt, mIdx, cellL, iEv, iR1, iR2, iC, fLen, oLen, fMax, fMin, fAll, fAny, fSum, fSortI, fList, fTuple, fInt, fStr, fIsi, tyD, isLstD, isStrD, isDD, lstD, seqD, stD, eCallF, nAt, iSt, mJoin, mSplit, fAddI, sStar, iEnS, eSortSet, fSet, eLenSet, insAt, lkp, putD, ok_some, ok_none, ok_bind, ok_map, eq_int, eq_bl, sAsg, kb_NoneType_int, kb_NoneType_bool, kb_NoneType_str, kb_NoneType_tuple, kb_NoneType_list, kb_bool_int, kb_bool_bool, kb_bool_str, kb_bool_tuple, kb_bool_list, kb_int_int, kb_int_bool, kb_int_str, kb_int_tuple, kb_int_list, kb_str_int, kb_str_bool, kb_str_str, kb_str_tuple, kb_str_list, kb_tuple_int, kb_tuple_bool, kb_tuple_str, kb_tuple_tuple, kb_tuple_list, kb_list_int, kb_list_bool, kb_list_str, kb_list_tuple, kb_list_list, sz_0, sz_1, sz_2, sz_3, sz_4, sz_5, sz_6, sz_7, sz_8, sz_9, sz_10, sz_11, sz_12, sz_13, sz_14, sz_15, sz_16, ix_1_0, ix_2_0, ix_2_1, ix_3_0, ix_3_1, ix_3_2, ix_4_0, ix_4_1, ix_4_2, ix_4_3, ix_5_0, ix_5_1, ix_5_2, ix_5_3, ix_5_4, ix_6_0, ix_6_1, ix_6_2, ix_6_3, ix_6_4, ix_6_5, ix_7_0, ix_7_1, ix_7_2, ix_7_3, ix_7_4, ix_7_5, ix_7_6, sI_0, sI_1, sI_48271, sI_69621]
  have p3 := isn (S := S) (i := r.least) (lo := 0) (hi := 4) ⟨h.l0, h.l4⟩
  refine seq_ok ?_
  simp [sNext, sIf, sBreak, sCont, sNever, sExpr, sRet, sRetO, sRetN, sSet, sAsg, gNm, gsNil, gsCons, gT, eD, eV, eBox, eNm, eC, eOp, eUn, aNil, aCons, eTup, eLst, eCB, bV, bAnd, bOr, bNot, eAnd, eOr, eNot, eIf, eChain, eCall, eFld, sFldS, sFldA, eMeth, eMake, bYes, fSub, fLt, fLe, fGt, fGe, fDiv, fMod, fPow, fNeg, fAdd, fMul, fIsN, fNotN, Yi.isNon, fEq, fNe, fIn, fInS, fIx, intR, oNo, oPart, fSl, eSl, eRev, sAppO, sExtO, sAug, oIx, oIn, oEq, sPar, sPar3, sSetIx, eDGet, eDIn, eDGet2, sDPutS, eDPop1, eDPop2, eDNewK, eDNewT, oDGet, oDIn, eBM, mApp, mExt, mPopAt, mIdx, cellL, iEv, iR1, iR2, iC, fLen, oLen, fMax, fMin, fAll, fAny, fSum, fSortI, fList, fTuple, fInt, fStr, fIsi, tyD, isLstD, isStrD, isDD, lstD, seqD, stD, eCallF, nAt, iSt, mJoin, mSplit, fAddI, sStar, iEnS, eSortSet, fSet, eLenSet, insAt, lkp, putD, ok_some, ok_none, ok_bind, ok_map, eq_int, eq_bl, sAsg, kb_NoneType_int, kb_NoneType_bool, kb_NoneType_str, kb_NoneType_tuple, kb_NoneType_list, kb_bool_int, kb_bool_bool, kb_bool_str, kb_bool_tuple, kb_bool_list, kb_int_int, kb_int_bool, kb_int_str, kb_int_tuple, kb_int_list, kb_str_int, kb_str_bool, kb_str_str, kb_str_tuple, kb_str_list, kb_tuple_int, kb_tuple_bool, kb_tuple_str, kb_tuple_tuple, kb_tuple_list, kb_list_int, kb_list_bool, kb_list_str, kb_list_tuple, kb_list_list, sz_0, sz_1, sz_2, sz_3, sz_4, sz_5, sz_6, sz_7, sz_8, sz_9, sz_10, sz_11, sz_12, sz_13, sz_14, sz_15, sz_16, ix_1_0, ix_2_0, ix_2_1, ix_3_0, ix_3_1, ix_3_2, ix_4_0, ix_4_1, ix_4_2, ix_4_3, ix_5_0, ix_5_1, ix_5_2, ix_5_3, ix_5_4, ix_6_0, ix_6_1, ix_6_2, ix_6_3, ix_6_4, ix_6_5, ix_7_0, ix_7_1, ix_7_2, ix_7_3, ix_7_4, ix_7_5, ix_7_6, sI_0, sI_1, sI_48271, sI_69621, p2, p3]
  have gl := h.gl
  have sk : setI (r.gs.map (·.1)) = r.gs.map (·.1) := setI_self h.gr
  have ek : eqD (.fl ((r.gs.map (·.1)).map .int)) (.fl ((r.gs.map (·.1)).map .int)) S = some true := eqD_same (p := .list ((r.gs.map (·.1)).map .int)) (by simp only [shp]; exact ⟨_, rfl, shps_map fun a _ => by simp only [shp]⟩) (by simp only [shp]; exact ⟨_, rfl, shps_map fun a _ => by simp only [shp]⟩)
  have ik : intsD ((r.gs.map (·.1)).map .int) = some (r.gs.map (·.1)) := intsD_map _
  have l63 : r.gs.length ≤ 63 := by omega
  simp only [List.map_map] at ek ik
  refine seq_ok ?_
  have tail : ∃ ρ', sSeq (sAppO 3 (eOr (eOp fIsN (eNm 8) (eC .non)) (eCall d_is_number (aCons (eNm 8) (aCons (eC (.int 0)) (aCons (eOp fSub (eNm 1) (eC (.int 1))) aNil))) [])))
    (sFrz 3 (sRet (eIf (bV (eOp (fIn false) (eC (.bl false)) (eNm 3))) (eBM isLstD mIdx (eNm 3) (aCons (eC (.bl false)) aNil)) (eC .non))))
      [some (.d (rD r)), some (.d (.int m)), some (.d (.fl ((r.gs.map (·.1)).map .int))), some (.own (.lst [.bl true, .bl true, .bl true, .bl true])), some (.d (.tup (r.hs.map pD))), some (.d (.int r.least)), some (.d (.tup (r.gs.map pD))), some (.d (oD r.wait)), some (.d (oD r.fur)), none] S = some (.rt (.d .non), ρ', S) := by
    have q : ok (sSeq (sAppO 3 (eOr (eOp fIsN (eNm 8) (eC .non)) (eCall d_is_number (aCons (eNm 8) (aCons (eC (.int 0)) (aCons (eOp fSub (eNm 1) (eC (.int 1))) aNil))) [])))
      (sFrz 3 (sRet (eIf (bV (eOp (fIn false) (eC (.bl false)) (eNm 3))) (eBM isLstD mIdx (eNm 3) (aCons (eC (.bl false)) aNil)) (eC .non))))
      [some (.d (rD r)), some (.d (.int m)), some (.d (.fl ((r.gs.map (·.1)).map .int))), some (.own (.lst [.bl true, .bl true, .bl true, .bl true])), some (.d (.tup (r.hs.map pD))), some (.d (.int r.least)), some (.d (.tup (r.gs.map pD))), some (.d (oD r.wait)), some (.d (oD r.fur)), none] S) fun p => p.1 = .rt (.d .non) ∧ p.2.2 = S := by
      refine seq_ok ?_
      cases hf : r.fur with
      | none => simp [sFrz, sBox, sNext, sIf, sBreak, sCont, sNever, sExpr, sRet, sRetO, sRetN, sSet, sAsg, gNm, gsNil, gsCons, gT, eD, eV, eBox, eNm, eC, eOp, eUn, aNil, aCons, eTup, eLst, eCB, bV, bAnd, bOr, bNot, eAnd, eOr, eNot, eIf, eChain, eCall, eFld, sFldS, sFldA, eMeth, eMake, bYes, fSub, fLt, fLe, fGt, fGe, fDiv, fMod, fPow, fNeg, fAdd, fMul, fIsN, fNotN, Yi.isNon, fEq, fNe, fIn, fInS, fIx, intR, oNo, oPart, fSl, eSl, eRev, sAppO, sExtO, sAug, oIx, oIn, oEq, sPar, sPar3, sSetIx, eDGet, eDIn, eDGet2, sDPutS, eDPop1, eDPop2, eDNewK, eDNewT, oDGet, oDIn, eBM, mApp, mExt, mPopAt, mIdx, cellL, iEv, iR1, iR2, iC, fLen, oLen, fMax, fMin, fAll, fAny, fSum, fSortI, fList, fTuple, fInt, fStr, fIsi, tyD, isLstD, isStrD, isDD, lstD, seqD, stD, eCallF, nAt, iSt, mJoin, mSplit, fAddI, sStar, iEnS, eSortSet, fSet, eLenSet, insAt, lkp, putD, ok_some, ok_none, ok_bind, ok_map, eq_int, eq_bl, sAsg, kb_NoneType_int, kb_NoneType_bool, kb_NoneType_str, kb_NoneType_tuple, kb_NoneType_list, kb_bool_int, kb_bool_bool, kb_bool_str, kb_bool_tuple, kb_bool_list, kb_int_int, kb_int_bool, kb_int_str, kb_int_tuple, kb_int_list, kb_str_int, kb_str_bool, kb_str_str, kb_str_tuple, kb_str_list, kb_tuple_int, kb_tuple_bool, kb_tuple_str, kb_tuple_tuple, kb_tuple_list, kb_list_int, kb_list_bool, kb_list_str, kb_list_tuple, kb_list_list, sz_0, sz_1, sz_2, sz_3, sz_4, sz_5, sz_6, sz_7, sz_8, sz_9, sz_10, sz_11, sz_12, sz_13, sz_14, sz_15, sz_16, ix_1_0, ix_2_0, ix_2_1, ix_3_0, ix_3_1, ix_3_2, ix_4_0, ix_4_1, ix_4_2, ix_4_3, ix_5_0, ix_5_1, ix_5_2, ix_5_3, ix_5_4, ix_6_0, ix_6_1, ix_6_2, ix_6_3, ix_6_4, ix_6_5, ix_7_0, ix_7_1, ix_7_2, ix_7_3, ix_7_4, ix_7_5, ix_7_6, sI_0, sI_1, sI_48271, sI_69621, oD, inF, eqF, flatD]
      | some f =>
        have p4 := isn (S := S) (i := f) (lo := 0) (hi := (m : Int) - 1) ⟨(h.f f hf).1, by have := (h.f f hf).2; omega⟩
        simp [sFrz, sBox, sNext, sIf, sBreak, sCont, sNever, sExpr, sRet, sRetO, sRetN, sSet, sAsg, gNm, gsNil, gsCons, gT, eD, eV, eBox, eNm, eC, eOp, eUn, aNil, aCons, eTup, eLst, eCB, bV, bAnd, bOr, bNot, eAnd, eOr, eNot, eIf, eChain, eCall, eFld, sFldS, sFldA, eMeth, eMake, bYes, fSub, fLt, fLe, fGt, fGe, fDiv, fMod, fPow, fNeg, fAdd, fMul, fIsN, fNotN, Yi.isNon, fEq, fNe, fIn, fInS, fIx, intR, oNo, oPart, fSl, eSl, eRev, sAppO, sExtO, sAug, oIx, oIn, oEq, sPar, sPar3, sSetIx, eDGet, eDIn, eDGet2, sDPutS, eDPop1, eDPop2, eDNewK, eDNewT, oDGet, oDIn, eBM, mApp, mExt, mPopAt, mIdx, cellL, iEv, iR1, iR2, iC, fLen, oLen, fMax, fMin, fAll, fAny, fSum, fSortI, fList, fTuple, fInt, fStr, fIsi, tyD, isLstD, isStrD, isDD, lstD, seqD, stD, eCallF, nAt, iSt, mJoin, mSplit, fAddI, sStar, iEnS, eSortSet, fSet, eLenSet, insAt, lkp, putD, ok_some, ok_none, ok_bind, ok_map, eq_int, eq_bl, sAsg, kb_NoneType_int, kb_NoneType_bool, kb_NoneType_str, kb_NoneType_tuple, kb_NoneType_list, kb_bool_int, kb_bool_bool, kb_bool_str, kb_bool_tuple, kb_bool_list, kb_int_int, kb_int_bool, kb_int_str, kb_int_tuple, kb_int_list, kb_str_int, kb_str_bool, kb_str_str, kb_str_tuple, kb_str_list, kb_tuple_int, kb_tuple_bool, kb_tuple_str, kb_tuple_tuple, kb_tuple_list, kb_list_int, kb_list_bool, kb_list_str, kb_list_tuple, kb_list_list, sz_0, sz_1, sz_2, sz_3, sz_4, sz_5, sz_6, sz_7, sz_8, sz_9, sz_10, sz_11, sz_12, sz_13, sz_14, sz_15, sz_16, ix_1_0, ix_2_0, ix_2_1, ix_3_0, ix_3_1, ix_3_2, ix_4_0, ix_4_1, ix_4_2, ix_4_3, ix_5_0, ix_5_1, ix_5_2, ix_5_3, ix_5_4, ix_6_0, ix_6_1, ix_6_2, ix_6_3, ix_6_4, ix_6_5, ix_7_0, ix_7_1, ix_7_2, ix_7_3, ix_7_4, ix_7_5, ix_7_6, sI_0, sI_1, sI_48271, sI_69621, oD, p4, inF, eqF, flatD]
    obtain ⟨⟨f, ρ', S'⟩, e, e1, e2⟩ := q
    dsimp only at e1 e2
    subst e1 e2
    exact ⟨ρ', e⟩
  obtain ⟨ρt, te⟩ := tail
  cases hw : r.wait with
  | none =>
    simp [sNext, sIf, sBreak, sCont, sNever, sExpr, sRet, sRetO, sRetN, sSet, sAsg, gNm, gsNil, gsCons, gT, eD, eV, eBox, eNm, eC, eOp, eUn, aNil, aCons, eTup, eLst, eCB, bV, bAnd, bOr, bNot, eAnd, eOr, eNot, eIf, eChain, eCall, eFld, sFldS, sFldA, eMeth, eMake, bYes, fSub, fLt, fLe, fGt, fGe, fDiv, fMod, fPow, fNeg, fAdd, fMul, fIsN, fNotN, Yi.isNon, fEq, fNe, fIn, fInS, fIx, intR, oNo, oPart, fSl, eSl, eRev, sAppO, sExtO, sAug, oIx, oIn, oEq, sPar, sPar3, sSetIx, eDGet, eDIn, eDGet2, sDPutS, eDPop1, eDPop2, eDNewK, eDNewT, oDGet, oDIn, eBM, mApp, mExt, mPopAt, mIdx, cellL, iEv, iR1, iR2, iC, fLen, oLen, fMax, fMin, fAll, fAny, fSum, fSortI, fList, fTuple, fInt, fStr, fIsi, tyD, isLstD, isStrD, isDD, lstD, seqD, stD, eCallF, nAt, iSt, mJoin, mSplit, fAddI, sStar, iEnS, eSortSet, fSet, eLenSet, insAt, lkp, putD, ok_some, ok_none, ok_bind, ok_map, eq_int, eq_bl, sAsg, kb_NoneType_int, kb_NoneType_bool, kb_NoneType_str, kb_NoneType_tuple, kb_NoneType_list, kb_bool_int, kb_bool_bool, kb_bool_str, kb_bool_tuple, kb_bool_list, kb_int_int, kb_int_bool, kb_int_str, kb_int_tuple, kb_int_list, kb_str_int, kb_str_bool, kb_str_str, kb_str_tuple, kb_str_list, kb_tuple_int, kb_tuple_bool, kb_tuple_str, kb_tuple_tuple, kb_tuple_list, kb_list_int, kb_list_bool, kb_list_str, kb_list_tuple, kb_list_list, sz_0, sz_1, sz_2, sz_3, sz_4, sz_5, sz_6, sz_7, sz_8, sz_9, sz_10, sz_11, sz_12, sz_13, sz_14, sz_15, sz_16, ix_1_0, ix_2_0, ix_2_1, ix_3_0, ix_3_1, ix_3_2, ix_4_0, ix_4_1, ix_4_2, ix_4_3, ix_5_0, ix_5_1, ix_5_2, ix_5_3, ix_5_4, ix_6_0, ix_6_1, ix_6_2, ix_6_3, ix_6_4, ix_6_5, ix_7_0, ix_7_1, ix_7_2, ix_7_3, ix_7_4, ix_7_5, ix_7_6, sI_0, sI_1, sI_48271, sI_69621, oD, ik, sk, ek, l63, List.map_map]
    exact ⟨(.rt (.d .non), ρt, S), by simpa [rD, hw, oD, fSub, List.map_map] using te, by simp⟩
  | some w =>
    have p4 := isn (S := S) (i := w) (lo := 1) (hi := 24) (h.w w hw)
    simp [sNext, sIf, sBreak, sCont, sNever, sExpr, sRet, sRetO, sRetN, sSet, sAsg, gNm, gsNil, gsCons, gT, eD, eV, eBox, eNm, eC, eOp, eUn, aNil, aCons, eTup, eLst, eCB, bV, bAnd, bOr, bNot, eAnd, eOr, eNot, eIf, eChain, eCall, eFld, sFldS, sFldA, eMeth, eMake, bYes, fSub, fLt, fLe, fGt, fGe, fDiv, fMod, fPow, fNeg, fAdd, fMul, fIsN, fNotN, Yi.isNon, fEq, fNe, fIn, fInS, fIx, intR, oNo, oPart, fSl, eSl, eRev, sAppO, sExtO, sAug, oIx, oIn, oEq, sPar, sPar3, sSetIx, eDGet, eDIn, eDGet2, sDPutS, eDPop1, eDPop2, eDNewK, eDNewT, oDGet, oDIn, eBM, mApp, mExt, mPopAt, mIdx, cellL, iEv, iR1, iR2, iC, fLen, oLen, fMax, fMin, fAll, fAny, fSum, fSortI, fList, fTuple, fInt, fStr, fIsi, tyD, isLstD, isStrD, isDD, lstD, seqD, stD, eCallF, nAt, iSt, mJoin, mSplit, fAddI, sStar, iEnS, eSortSet, fSet, eLenSet, insAt, lkp, putD, ok_some, ok_none, ok_bind, ok_map, eq_int, eq_bl, sAsg, kb_NoneType_int, kb_NoneType_bool, kb_NoneType_str, kb_NoneType_tuple, kb_NoneType_list, kb_bool_int, kb_bool_bool, kb_bool_str, kb_bool_tuple, kb_bool_list, kb_int_int, kb_int_bool, kb_int_str, kb_int_tuple, kb_int_list, kb_str_int, kb_str_bool, kb_str_str, kb_str_tuple, kb_str_list, kb_tuple_int, kb_tuple_bool, kb_tuple_str, kb_tuple_tuple, kb_tuple_list, kb_list_int, kb_list_bool, kb_list_str, kb_list_tuple, kb_list_list, sz_0, sz_1, sz_2, sz_3, sz_4, sz_5, sz_6, sz_7, sz_8, sz_9, sz_10, sz_11, sz_12, sz_13, sz_14, sz_15, sz_16, ix_1_0, ix_2_0, ix_2_1, ix_3_0, ix_3_1, ix_3_2, ix_4_0, ix_4_1, ix_4_2, ix_4_3, ix_5_0, ix_5_1, ix_5_2, ix_5_3, ix_5_4, ix_6_0, ix_6_1, ix_6_2, ix_6_3, ix_6_4, ix_6_5, ix_7_0, ix_7_1, ix_7_2, ix_7_3, ix_7_4, ix_7_5, ix_7_6, sI_0, sI_1, sI_48271, sI_69621, oD, ik, sk, ek, p4, l63, List.map_map]
    exact ⟨(.rt (.d .non), ρt, S), by simpa [rD, hw, oD, fSub, List.map_map] using te, by simp⟩
theorem enum_get {ds : List D} {j i : Nat} {d : D} (h : (enumL j ds)[i]? = some d) : ∃ x, ds[i]? = some x ∧ d = .tup [.int ((j + i : Nat) : Int), x] := by
  rw [enumL_get] at h
  obtain ⟨x, h1, rfl⟩ := Option.map_eq_some_iff.mp h
  exact ⟨x, h1, rfl⟩
theorem shp_oD (o : Option Int) (n : Nat) (S : Sto) : ∃ p, shp n (oD o) p S := by
  cases o with
  | none => exact ⟨.none, by simp only [oD, shp]⟩
  | some i => exact ⟨.int i, by simp only [oD, shp]⟩
theorem need_rules_ok {rs : List Rl} {S : Sto} (h : GoodRs rs) : d_need_rules [.tup (rs.map rD)] S = some (.d .non, S) := by
  refine ok.get (den_ok rfl (seq_ok ?_))
  have l1 := h.l1
  have l6 := h.l6
  have ne : eqD (.tup (rs.map rD)) (.tup []) S = some false := by
    have pp : ∀ ps : List (Int × Int), shps 9 (ps.map pD) (ps.map fun p => PyData.tuple [.int p.1, .int p.2]) S := fun ps => shps_map fun p _ => by
      simp only [pD, shp, shps]
      exact ⟨_, rfl, _, _, rfl, rfl, _, _, rfl, rfl, rfl⟩
    obtain ⟨ps, hp⟩ : ∃ ps, shps 11 (rs.map rD) ps S := by
      refine ⟨_, shps_map (g := fun r : Rl => PyData.tuple [.tuple (r.hs.map fun p => PyData.tuple [.int p.1, .int p.2]), .int r.least, .tuple (r.gs.map fun p => PyData.tuple [.int p.1, .int p.2]), (shp_oD r.wait 10 S).choose, (shp_oD r.fur 10 S).choose]) fun r _ => ?_⟩
      simp only [rD, shp, shps]
      exact ⟨_, rfl, _, _, rfl, ⟨_, rfl, pp r.hs⟩, _, _, rfl, rfl, _, _, rfl, ⟨_, rfl, pp r.gs⟩, _, _, rfl, (shp_oD r.wait 10 S).choose_spec, _, _, rfl, (shp_oD r.fur 10 S).choose_spec, rfl⟩
    rw [shp_eq (p := .tuple ps) (q := .tuple []) (by simp only [shp]; exact ⟨_, rfl, hp⟩) (by simp only [shp]; exact ⟨_, rfl, by simp only [shps]⟩)]
    cases rs with
    | nil => simp at l1
    | cons r t =>
      simp only [List.map_cons, shps] at hp
      obtain ⟨p, q, rfl, _, _⟩ := hp
      simp [PyData.eqv, PyData.eqvAll]
  simp [sNext, sIf, sBreak, sCont, sNever, sExpr, sRet, sRetO, sRetN, sSet, sAsg, gNm, gsNil, gsCons, gT, eD, eV, eBox, eNm, eC, eOp, eUn, aNil, aCons, eTup, eLst, eCB, bV, bAnd, bOr, bNot, eAnd, eOr, eNot, eIf, eChain, eCall, eFld, sFldS, sFldA, eMeth, eMake, bYes, fSub, fLt, fLe, fGt, fGe, fDiv, fMod, fPow, fNeg, fAdd, fMul, fIsN, fNotN, Yi.isNon, fEq, fNe, fIn, fInS, fIx, intR, oNo, oPart, fSl, eSl, eRev, sAppO, sExtO, sAug, oIx, oIn, oEq, sPar, sPar3, sSetIx, eDGet, eDIn, eDGet2, sDPutS, eDPop1, eDPop2, eDNewK, eDNewT, oDGet, oDIn, eBM, mApp, mExt, mPopAt, mIdx, cellL, iEv, iR1, iR2, iC, fLen, oLen, fMax, fMin, fAll, fAny, fSum, fSortI, fList, fTuple, fInt, fStr, fIsi, tyD, isLstD, isStrD, isDD, lstD, seqD, stD, eCallF, nAt, iSt, mJoin, mSplit, fAddI, sStar, iEnS, eSortSet, fSet, eLenSet, insAt, lkp, putD, ok_some, ok_none, ok_bind, ok_map, eq_int, eq_bl, sAsg, kb_NoneType_int, kb_NoneType_bool, kb_NoneType_str, kb_NoneType_tuple, kb_NoneType_list, kb_bool_int, kb_bool_bool, kb_bool_str, kb_bool_tuple, kb_bool_list, kb_int_int, kb_int_bool, kb_int_str, kb_int_tuple, kb_int_list, kb_str_int, kb_str_bool, kb_str_str, kb_str_tuple, kb_str_list, kb_tuple_int, kb_tuple_bool, kb_tuple_str, kb_tuple_tuple, kb_tuple_list, kb_list_int, kb_list_bool, kb_list_str, kb_list_tuple, kb_list_list, sz_0, sz_1, sz_2, sz_3, sz_4, sz_5, sz_6, sz_7, sz_8, sz_9, sz_10, sz_11, sz_12, sz_13, sz_14, sz_15, sz_16, ix_1_0, ix_2_0, ix_2_1, ix_3_0, ix_3_1, ix_3_2, ix_4_0, ix_4_1, ix_4_2, ix_4_3, ix_5_0, ix_5_1, ix_5_2, ix_5_3, ix_5_4, ix_6_0, ix_6_1, ix_6_2, ix_6_3, ix_6_4, ix_6_5, ix_7_0, ix_7_1, ix_7_2, ix_7_3, ix_7_4, ix_7_5, ix_7_6, sI_0, sI_1, sI_48271, sI_69621, ne]
  refine for_ok ?_
  simp [sNext, sIf, sBreak, sCont, sNever, sExpr, sRet, sRetO, sRetN, sSet, sAsg, gNm, gsNil, gsCons, gT, eD, eV, eBox, eNm, eC, eOp, eUn, aNil, aCons, eTup, eLst, eCB, bV, bAnd, bOr, bNot, eAnd, eOr, eNot, eIf, eChain, eCall, eFld, sFldS, sFldA, eMeth, eMake, bYes, fSub, fLt, fLe, fGt, fGe, fDiv, fMod, fPow, fNeg, fAdd, fMul, fIsN, fNotN, Yi.isNon, fEq, fNe, fIn, fInS, fIx, intR, oNo, oPart, fSl, eSl, eRev, sAppO, sExtO, sAug, oIx, oIn, oEq, sPar, sPar3, sSetIx, eDGet, eDIn, eDGet2, sDPutS, eDPop1, eDPop2, eDNewK, eDNewT, oDGet, oDIn, eBM, mApp, mExt, mPopAt, mIdx, cellL, iEv, iR1, iR2, iC, fLen, oLen, fMax, fMin, fAll, fAny, fSum, fSortI, fList, fTuple, fInt, fStr, fIsi, tyD, isLstD, isStrD, isDD, lstD, seqD, stD, eCallF, nAt, iSt, mJoin, mSplit, fAddI, sStar, iEnS, eSortSet, fSet, eLenSet, insAt, lkp, putD, ok_some, ok_none, ok_bind, ok_map, eq_int, eq_bl, sAsg, kb_NoneType_int, kb_NoneType_bool, kb_NoneType_str, kb_NoneType_tuple, kb_NoneType_list, kb_bool_int, kb_bool_bool, kb_bool_str, kb_bool_tuple, kb_bool_list, kb_int_int, kb_int_bool, kb_int_str, kb_int_tuple, kb_int_list, kb_str_int, kb_str_bool, kb_str_str, kb_str_tuple, kb_str_list, kb_tuple_int, kb_tuple_bool, kb_tuple_str, kb_tuple_tuple, kb_tuple_list, kb_list_int, kb_list_bool, kb_list_str, kb_list_tuple, kb_list_list, sz_0, sz_1, sz_2, sz_3, sz_4, sz_5, sz_6, sz_7, sz_8, sz_9, sz_10, sz_11, sz_12, sz_13, sz_14, sz_15, sz_16, ix_1_0, ix_2_0, ix_2_1, ix_3_0, ix_3_1, ix_3_2, ix_4_0, ix_4_1, ix_4_2, ix_4_3, ix_5_0, ix_5_1, ix_5_2, ix_5_3, ix_5_4, ix_6_0, ix_6_1, ix_6_2, ix_6_3, ix_6_4, ix_6_5, ix_7_0, ix_7_1, ix_7_2, ix_7_3, ix_7_4, ix_7_5, ix_7_6, sI_0, sI_1, sI_48271, sI_69621]
  refine (forL_ok (fun i ρ S2 => S2 = S ∧ ∃ a b c, ρ = [some (.d (.tup (rs.map rD))), a, b, c]) (enumL 0 (rs.map rD)) 0 ⟨rfl, none, none, none, rfl⟩ ?_).mono ?_
  · rintro i d hd ρ S2 ⟨rfl, a, b, c, rfl⟩
    obtain ⟨x, hx, rfl⟩ := enum_get hd
    rw [List.getElem?_map] at hx
    obtain ⟨r, hr, rfl⟩ := Option.map_eq_some_iff.mp hx
    have hi := (List.getElem?_eq_some_iff.mp hr).1
    have z : szOk rs.length = true := by simp [szOk]; omega
    have bp := bad_part_ok (S := S2) (h.g r (List.mem_of_getElem? hr)) (by omega) l6
    have n6 : ¬ (6 : Int) ≤ i := by omega
    simp [sNext, sIf, sBreak, sCont, sNever, sExpr, sRet, sRetO, sRetN, sSet, sAsg, gNm, gsNil, gsCons, gT, eD, eV, eBox, eNm, eC, eOp, eUn, aNil, aCons, eTup, eLst, eCB, bV, bAnd, bOr, bNot, eAnd, eOr, eNot, eIf, eChain, eCall, eFld, sFldS, sFldA, eMeth, eMake, bYes, fSub, fLt, fLe, fGt, fGe, fDiv, fMod, fPow, fNeg, fAdd, fMul, fIsN, fNotN, Yi.isNon, fEq, fNe, fIn, fInS, fIx, intR, oNo, oPart, fSl, eSl, eRev, sAppO, sExtO, sAug, oIx, oIn, oEq, sPar, sPar3, sSetIx, eDGet, eDIn, eDGet2, sDPutS, eDPop1, eDPop2, eDNewK, eDNewT, oDGet, oDIn, eBM, mApp, mExt, mPopAt, mIdx, cellL, iEv, iR1, iR2, iC, fLen, oLen, fMax, fMin, fAll, fAny, fSum, fSortI, fList, fTuple, fInt, fStr, fIsi, tyD, isLstD, isStrD, isDD, lstD, seqD, stD, eCallF, nAt, iSt, mJoin, mSplit, fAddI, sStar, iEnS, eSortSet, fSet, eLenSet, insAt, lkp, putD, ok_some, ok_none, ok_bind, ok_map, eq_int, eq_bl, sAsg, kb_NoneType_int, kb_NoneType_bool, kb_NoneType_str, kb_NoneType_tuple, kb_NoneType_list, kb_bool_int, kb_bool_bool, kb_bool_str, kb_bool_tuple, kb_bool_list, kb_int_int, kb_int_bool, kb_int_str, kb_int_tuple, kb_int_list, kb_str_int, kb_str_bool, kb_str_str, kb_str_tuple, kb_str_list, kb_tuple_int, kb_tuple_bool, kb_tuple_str, kb_tuple_tuple, kb_tuple_list, kb_list_int, kb_list_bool, kb_list_str, kb_list_tuple, kb_list_list, sz_0, sz_1, sz_2, sz_3, sz_4, sz_5, sz_6, sz_7, sz_8, sz_9, sz_10, sz_11, sz_12, sz_13, sz_14, sz_15, sz_16, ix_1_0, ix_2_0, ix_2_1, ix_3_0, ix_3_1, ix_3_2, ix_4_0, ix_4_1, ix_4_2, ix_4_3, ix_5_0, ix_5_1, ix_5_2, ix_5_3, ix_5_4, ix_6_0, ix_6_1, ix_6_2, ix_6_3, ix_6_4, ix_6_5, ix_7_0, ix_7_1, ix_7_2, ix_7_3, ix_7_4, ix_7_5, ix_7_6, sI_0, sI_1, sI_48271, sI_69621, m_need_rules_1, z]
    refine seq_ok ?_
    simp [sNext, sIf, sBreak, sCont, sNever, sExpr, sRet, sRetO, sRetN, sSet, sAsg, gNm, gsNil, gsCons, gT, eD, eV, eBox, eNm, eC, eOp, eUn, aNil, aCons, eTup, eLst, eCB, bV, bAnd, bOr, bNot, eAnd, eOr, eNot, eIf, eChain, eCall, eFld, sFldS, sFldA, eMeth, eMake, bYes, fSub, fLt, fLe, fGt, fGe, fDiv, fMod, fPow, fNeg, fAdd, fMul, fIsN, fNotN, Yi.isNon, fEq, fNe, fIn, fInS, fIx, intR, oNo, oPart, fSl, eSl, eRev, sAppO, sExtO, sAug, oIx, oIn, oEq, sPar, sPar3, sSetIx, eDGet, eDIn, eDGet2, sDPutS, eDPop1, eDPop2, eDNewK, eDNewT, oDGet, oDIn, eBM, mApp, mExt, mPopAt, mIdx, cellL, iEv, iR1, iR2, iC, fLen, oLen, fMax, fMin, fAll, fAny, fSum, fSortI, fList, fTuple, fInt, fStr, fIsi, tyD, isLstD, isStrD, isDD, lstD, seqD, stD, eCallF, nAt, iSt, mJoin, mSplit, fAddI, sStar, iEnS, eSortSet, fSet, eLenSet, insAt, lkp, putD, ok_some, ok_none, ok_bind, ok_map, eq_int, eq_bl, sAsg, kb_NoneType_int, kb_NoneType_bool, kb_NoneType_str, kb_NoneType_tuple, kb_NoneType_list, kb_bool_int, kb_bool_bool, kb_bool_str, kb_bool_tuple, kb_bool_list, kb_int_int, kb_int_bool, kb_int_str, kb_int_tuple, kb_int_list, kb_str_int, kb_str_bool, kb_str_str, kb_str_tuple, kb_str_list, kb_tuple_int, kb_tuple_bool, kb_tuple_str, kb_tuple_tuple, kb_tuple_list, kb_list_int, kb_list_bool, kb_list_str, kb_list_tuple, kb_list_list, sz_0, sz_1, sz_2, sz_3, sz_4, sz_5, sz_6, sz_7, sz_8, sz_9, sz_10, sz_11, sz_12, sz_13, sz_14, sz_15, sz_16, ix_1_0, ix_2_0, ix_2_1, ix_3_0, ix_3_1, ix_3_2, ix_4_0, ix_4_1, ix_4_2, ix_4_3, ix_5_0, ix_5_1, ix_5_2, ix_5_3, ix_5_4, ix_6_0, ix_6_1, ix_6_2, ix_6_3, ix_6_4, ix_6_5, ix_7_0, ix_7_1, ix_7_2, ix_7_3, ix_7_4, ix_7_5, ix_7_6, sI_0, sI_1, sI_48271, sI_69621, z, bp, n6, ok_ite]
  · rintro ⟨f, ρ, S2⟩ ⟨rfl, rfl, a, b, c, rfl⟩
    simp
end Wk
namespace Wk
open PySem L2 Yi
def InvQ (S : Sto) (rs : D) (n : Nat) (ns : List Nt) (i : Nat) (ρ : Slt) (S2 : Sto) : Prop := S2 = S ∧ ∃ (lo : Int) (a b c d e f g : Option VV), ρ = [some (.d rs), some (.d (.ref n)), some (.d (.int lo)), a, b, c, d, e, f, g] ∧ Turn lo (ns.drop i)
theorem need_notices_ok {rs : List Rl} {ns : List Nt} {n : Nat} {S : Sto} (h : GoodRs rs) (hn : S[n]? = some (.lst (ns.map nD))) (hl : ns.length ≤ 30) (hg : ∀ x ∈ ns, x.Good rs.length) (ht : Turn 0 ns) :
    d_need_notices [.tup (rs.map rD), .ref n] S = some (.d .non, S) := by
  refine ok.get (den_ok rfl (seq_ok ?_))
  have l1 := h.l1
  have l6 := h.l6
  simp [sNext, sIf, sBreak, sCont, sNever, sExpr, sRet, sRetO, sRetN, sSet, sAsg, gNm, gsNil, gsCons, gT, eD, eV, eBox, eNm, eC, eOp, eUn, aNil, aCons, eTup, eLst, eCB, bV, bAnd, bOr, bNot, eAnd, eOr, eNot, eIf, eChain, eCall, eFld, sFldS, sFldA, eMeth, eMake, bYes, fSub, fLt, fLe, fGt, fGe, fDiv, fMod, fPow, fNeg, fAdd, fMul, fIsN, fNotN, Yi.isNon, fEq, fNe, fIn, fInS, fIx, intR, oNo, oPart, fSl, eSl, eRev, sAppO, sExtO, sAug, oIx, oIn, oEq, sPar, sPar3, sSetIx, eDGet, eDIn, eDGet2, sDPutS, eDPop1, eDPop2, eDNewK, eDNewT, oDGet, oDIn, eBM, mApp, mExt, mPopAt, mIdx, cellL, iEv, iR1, iR2, iC, fLen, oLen, fMax, fMin, fAll, fAny, fSum, fSortI, fList, fTuple, fInt, fStr, fIsi, tyD, isLstD, isStrD, isDD, lstD, seqD, stD, eCallF, nAt, iSt, mJoin, mSplit, fAddI, sStar, iEnS, eSortSet, fSet, eLenSet, insAt, lkp, putD, ok_some, ok_none, ok_bind, ok_map, eq_int, eq_bl, sAsg, kb_NoneType_int, kb_NoneType_bool, kb_NoneType_str, kb_NoneType_tuple, kb_NoneType_list, kb_bool_int, kb_bool_bool, kb_bool_str, kb_bool_tuple, kb_bool_list, kb_int_int, kb_int_bool, kb_int_str, kb_int_tuple, kb_int_list, kb_str_int, kb_str_bool, kb_str_str, kb_str_tuple, kb_str_list, kb_tuple_int, kb_tuple_bool, kb_tuple_str, kb_tuple_tuple, kb_tuple_list, kb_list_int, kb_list_bool, kb_list_str, kb_list_tuple, kb_list_list, sz_0, sz_1, sz_2, sz_3, sz_4, sz_5, sz_6, sz_7, sz_8, sz_9, sz_10, sz_11, sz_12, sz_13, sz_14, sz_15, sz_16, ix_1_0, ix_2_0, ix_2_1, ix_3_0, ix_3_1, ix_3_2, ix_4_0, ix_4_1, ix_4_2, ix_4_3, ix_5_0, ix_5_1, ix_5_2, ix_5_3, ix_5_4, ix_6_0, ix_6_1, ix_6_2, ix_6_3, ix_6_4, ix_6_5, ix_7_0, ix_7_1, ix_7_2, ix_7_3, ix_7_4, ix_7_5, ix_7_6, sI_0, sI_1, sI_48271, sI_69621]
  refine sforC_ok (n := n) (S1 := S) (ds := ns.map nD) (by simp [iC, eD, eNm, hn]) (InvQ S (.tup (rs.map rD)) n ns) ⟨rfl, 0, none, none, none, none, none, none, none, rfl, ht⟩ (fun i ρ S2 ⟨e, _⟩ => by rw [e]; exact hn) ?_ ?_
  · rintro i d hd ρ S2 ⟨rfl, lo, a, b, c, d', e, f, g, rfl, t⟩
    rw [List.getElem?_map] at hd
    obtain ⟨x, hx, rfl⟩ := Option.map_eq_some_iff.mp hd
    have hi := (List.getElem?_eq_some_iff.mp hx).1
    have ed : ns.drop i = x :: ns.drop (i + 1) := by
      rw [List.drop_eq_getElem_cons hi]
      congr 1
      exact (List.getElem?_eq_some_iff.mp hx).2
    rw [ed] at t
    obtain ⟨t1, t2, t3⟩ := t
    have gx := hg x (List.mem_of_getElem? hx)
    have z : szOk rs.length = true := by simp [szOk]; omega
    have n30 : ¬ (30 : Int) ≤ i := by omega
    have p1 := isn (S := S2) (i := x.person) (lo := 0) (hi := (rs.length : Int) - 1) ⟨gx.p0, by have := gx.p1; omega⟩
    have p2 := isn (S := S2) (i := x.rank) (lo := 0) (hi := 3) ⟨gx.r0, gx.r1⟩
    have p3 := isn (S := S2) (i := x.kind) (lo := 0) (hi := 7) ⟨gx.k0, gx.k1⟩
    have p4 := isn (S := S2) (i := x.born) (lo := lo) (hi := 300) ⟨t1, t2⟩
    simp [sNext, sIf, sBreak, sCont, sNever, sExpr, sRet, sRetO, sRetN, sSet, sAsg, gNm, gsNil, gsCons, gT, eD, eV, eBox, eNm, eC, eOp, eUn, aNil, aCons, eTup, eLst, eCB, bV, bAnd, bOr, bNot, eAnd, eOr, eNot, eIf, eChain, eCall, eFld, sFldS, sFldA, eMeth, eMake, bYes, fSub, fLt, fLe, fGt, fGe, fDiv, fMod, fPow, fNeg, fAdd, fMul, fIsN, fNotN, Yi.isNon, fEq, fNe, fIn, fInS, fIx, intR, oNo, oPart, fSl, eSl, eRev, sAppO, sExtO, sAug, oIx, oIn, oEq, sPar, sPar3, sSetIx, eDGet, eDIn, eDGet2, sDPutS, eDPop1, eDPop2, eDNewK, eDNewT, oDGet, oDIn, eBM, mApp, mExt, mPopAt, mIdx, cellL, iEv, iR1, iR2, iC, fLen, oLen, fMax, fMin, fAll, fAny, fSum, fSortI, fList, fTuple, fInt, fStr, fIsi, tyD, isLstD, isStrD, isDD, lstD, seqD, stD, eCallF, nAt, iSt, mJoin, mSplit, fAddI, sStar, iEnS, eSortSet, fSet, eLenSet, insAt, lkp, putD, ok_some, ok_none, ok_bind, ok_map, eq_int, eq_bl, sAsg, kb_NoneType_int, kb_NoneType_bool, kb_NoneType_str, kb_NoneType_tuple, kb_NoneType_list, kb_bool_int, kb_bool_bool, kb_bool_str, kb_bool_tuple, kb_bool_list, kb_int_int, kb_int_bool, kb_int_str, kb_int_tuple, kb_int_list, kb_str_int, kb_str_bool, kb_str_str, kb_str_tuple, kb_str_list, kb_tuple_int, kb_tuple_bool, kb_tuple_str, kb_tuple_tuple, kb_tuple_list, kb_list_int, kb_list_bool, kb_list_str, kb_list_tuple, kb_list_list, sz_0, sz_1, sz_2, sz_3, sz_4, sz_5, sz_6, sz_7, sz_8, sz_9, sz_10, sz_11, sz_12, sz_13, sz_14, sz_15, sz_16, ix_1_0, ix_2_0, ix_2_1, ix_3_0, ix_3_1, ix_3_2, ix_4_0, ix_4_1, ix_4_2, ix_4_3, ix_5_0, ix_5_1, ix_5_2, ix_5_3, ix_5_4, ix_6_0, ix_6_1, ix_6_2, ix_6_3, ix_6_4, ix_6_5, ix_7_0, ix_7_1, ix_7_2, ix_7_3, ix_7_4, ix_7_5, ix_7_6, sI_0, sI_1, sI_48271, sI_69621, mkE, m_need_notices_1, nD]
    refine seq_ok ?_
    simp [sNext, sIf, sBreak, sCont, sNever, sExpr, sRet, sRetO, sRetN, sSet, sAsg, gNm, gsNil, gsCons, gT, eD, eV, eBox, eNm, eC, eOp, eUn, aNil, aCons, eTup, eLst, eCB, bV, bAnd, bOr, bNot, eAnd, eOr, eNot, eIf, eChain, eCall, eFld, sFldS, sFldA, eMeth, eMake, bYes, fSub, fLt, fLe, fGt, fGe, fDiv, fMod, fPow, fNeg, fAdd, fMul, fIsN, fNotN, Yi.isNon, fEq, fNe, fIn, fInS, fIx, intR, oNo, oPart, fSl, eSl, eRev, sAppO, sExtO, sAug, oIx, oIn, oEq, sPar, sPar3, sSetIx, eDGet, eDIn, eDGet2, sDPutS, eDPop1, eDPop2, eDNewK, eDNewT, oDGet, oDIn, eBM, mApp, mExt, mPopAt, mIdx, cellL, iEv, iR1, iR2, iC, fLen, oLen, fMax, fMin, fAll, fAny, fSum, fSortI, fList, fTuple, fInt, fStr, fIsi, tyD, isLstD, isStrD, isDD, lstD, seqD, stD, eCallF, nAt, iSt, mJoin, mSplit, fAddI, sStar, iEnS, eSortSet, fSet, eLenSet, insAt, lkp, putD, ok_some, ok_none, ok_bind, ok_map, eq_int, eq_bl, sAsg, kb_NoneType_int, kb_NoneType_bool, kb_NoneType_str, kb_NoneType_tuple, kb_NoneType_list, kb_bool_int, kb_bool_bool, kb_bool_str, kb_bool_tuple, kb_bool_list, kb_int_int, kb_int_bool, kb_int_str, kb_int_tuple, kb_int_list, kb_str_int, kb_str_bool, kb_str_str, kb_str_tuple, kb_str_list, kb_tuple_int, kb_tuple_bool, kb_tuple_str, kb_tuple_tuple, kb_tuple_list, kb_list_int, kb_list_bool, kb_list_str, kb_list_tuple, kb_list_list, sz_0, sz_1, sz_2, sz_3, sz_4, sz_5, sz_6, sz_7, sz_8, sz_9, sz_10, sz_11, sz_12, sz_13, sz_14, sz_15, sz_16, ix_1_0, ix_2_0, ix_2_1, ix_3_0, ix_3_1, ix_3_2, ix_4_0, ix_4_1, ix_4_2, ix_4_3, ix_5_0, ix_5_1, ix_5_2, ix_5_3, ix_5_4, ix_6_0, ix_6_1, ix_6_2, ix_6_3, ix_6_4, ix_6_5, ix_7_0, ix_7_1, ix_7_2, ix_7_3, ix_7_4, ix_7_5, ix_7_6, sI_0, sI_1, sI_48271, sI_69621, n30]
    refine seq_ok ?_
    simp [sNext, sIf, sBreak, sCont, sNever, sExpr, sRet, sRetO, sRetN, sSet, sAsg, gNm, gsNil, gsCons, gT, eD, eV, eBox, eNm, eC, eOp, eUn, aNil, aCons, eTup, eLst, eCB, bV, bAnd, bOr, bNot, eAnd, eOr, eNot, eIf, eChain, eCall, eFld, sFldS, sFldA, eMeth, eMake, bYes, fSub, fLt, fLe, fGt, fGe, fDiv, fMod, fPow, fNeg, fAdd, fMul, fIsN, fNotN, Yi.isNon, fEq, fNe, fIn, fInS, fIx, intR, oNo, oPart, fSl, eSl, eRev, sAppO, sExtO, sAug, oIx, oIn, oEq, sPar, sPar3, sSetIx, eDGet, eDIn, eDGet2, sDPutS, eDPop1, eDPop2, eDNewK, eDNewT, oDGet, oDIn, eBM, mApp, mExt, mPopAt, mIdx, cellL, iEv, iR1, iR2, iC, fLen, oLen, fMax, fMin, fAll, fAny, fSum, fSortI, fList, fTuple, fInt, fStr, fIsi, tyD, isLstD, isStrD, isDD, lstD, seqD, stD, eCallF, nAt, iSt, mJoin, mSplit, fAddI, sStar, iEnS, eSortSet, fSet, eLenSet, insAt, lkp, putD, ok_some, ok_none, ok_bind, ok_map, eq_int, eq_bl, sAsg, kb_NoneType_int, kb_NoneType_bool, kb_NoneType_str, kb_NoneType_tuple, kb_NoneType_list, kb_bool_int, kb_bool_bool, kb_bool_str, kb_bool_tuple, kb_bool_list, kb_int_int, kb_int_bool, kb_int_str, kb_int_tuple, kb_int_list, kb_str_int, kb_str_bool, kb_str_str, kb_str_tuple, kb_str_list, kb_tuple_int, kb_tuple_bool, kb_tuple_str, kb_tuple_tuple, kb_tuple_list, kb_list_int, kb_list_bool, kb_list_str, kb_list_tuple, kb_list_list, sz_0, sz_1, sz_2, sz_3, sz_4, sz_5, sz_6, sz_7, sz_8, sz_9, sz_10, sz_11, sz_12, sz_13, sz_14, sz_15, sz_16, ix_1_0, ix_2_0, ix_2_1, ix_3_0, ix_3_1, ix_3_2, ix_4_0, ix_4_1, ix_4_2, ix_4_3, ix_5_0, ix_5_1, ix_5_2, ix_5_3, ix_5_4, ix_6_0, ix_6_1, ix_6_2, ix_6_3, ix_6_4, ix_6_5, ix_7_0, ix_7_1, ix_7_2, ix_7_3, ix_7_4, ix_7_5, ix_7_6, sI_0, sI_1, sI_48271, sI_69621]
    refine seq_ok ?_
    simp [sNext, sIf, sBreak, sCont, sNever, sExpr, sRet, sRetO, sRetN, sSet, sAsg, gNm, gsNil, gsCons, gT, eD, eV, eBox, eNm, eC, eOp, eUn, aNil, aCons, eTup, eLst, eCB, bV, bAnd, bOr, bNot, eAnd, eOr, eNot, eIf, eChain, eCall, eFld, sFldS, sFldA, eMeth, eMake, bYes, fSub, fLt, fLe, fGt, fGe, fDiv, fMod, fPow, fNeg, fAdd, fMul, fIsN, fNotN, Yi.isNon, fEq, fNe, fIn, fInS, fIx, intR, oNo, oPart, fSl, eSl, eRev, sAppO, sExtO, sAug, oIx, oIn, oEq, sPar, sPar3, sSetIx, eDGet, eDIn, eDGet2, sDPutS, eDPop1, eDPop2, eDNewK, eDNewT, oDGet, oDIn, eBM, mApp, mExt, mPopAt, mIdx, cellL, iEv, iR1, iR2, iC, fLen, oLen, fMax, fMin, fAll, fAny, fSum, fSortI, fList, fTuple, fInt, fStr, fIsi, tyD, isLstD, isStrD, isDD, lstD, seqD, stD, eCallF, nAt, iSt, mJoin, mSplit, fAddI, sStar, iEnS, eSortSet, fSet, eLenSet, insAt, lkp, putD, ok_some, ok_none, ok_bind, ok_map, eq_int, eq_bl, sAsg, kb_NoneType_int, kb_NoneType_bool, kb_NoneType_str, kb_NoneType_tuple, kb_NoneType_list, kb_bool_int, kb_bool_bool, kb_bool_str, kb_bool_tuple, kb_bool_list, kb_int_int, kb_int_bool, kb_int_str, kb_int_tuple, kb_int_list, kb_str_int, kb_str_bool, kb_str_str, kb_str_tuple, kb_str_list, kb_tuple_int, kb_tuple_bool, kb_tuple_str, kb_tuple_tuple, kb_tuple_list, kb_list_int, kb_list_bool, kb_list_str, kb_list_tuple, kb_list_list, sz_0, sz_1, sz_2, sz_3, sz_4, sz_5, sz_6, sz_7, sz_8, sz_9, sz_10, sz_11, sz_12, sz_13, sz_14, sz_15, sz_16, ix_1_0, ix_2_0, ix_2_1, ix_3_0, ix_3_1, ix_3_2, ix_4_0, ix_4_1, ix_4_2, ix_4_3, ix_5_0, ix_5_1, ix_5_2, ix_5_3, ix_5_4, ix_6_0, ix_6_1, ix_6_2, ix_6_3, ix_6_4, ix_6_5, ix_7_0, ix_7_1, ix_7_2, ix_7_3, ix_7_4, ix_7_5, ix_7_6, sI_0, sI_1, sI_48271, sI_69621, z, p1, p2]
    refine seq_ok ?_
    simp [sNext, sIf, sBreak, sCont, sNever, sExpr, sRet, sRetO, sRetN, sSet, sAsg, gNm, gsNil, gsCons, gT, eD, eV, eBox, eNm, eC, eOp, eUn, aNil, aCons, eTup, eLst, eCB, bV, bAnd, bOr, bNot, eAnd, eOr, eNot, eIf, eChain, eCall, eFld, sFldS, sFldA, eMeth, eMake, bYes, fSub, fLt, fLe, fGt, fGe, fDiv, fMod, fPow, fNeg, fAdd, fMul, fIsN, fNotN, Yi.isNon, fEq, fNe, fIn, fInS, fIx, intR, oNo, oPart, fSl, eSl, eRev, sAppO, sExtO, sAug, oIx, oIn, oEq, sPar, sPar3, sSetIx, eDGet, eDIn, eDGet2, sDPutS, eDPop1, eDPop2, eDNewK, eDNewT, oDGet, oDIn, eBM, mApp, mExt, mPopAt, mIdx, cellL, iEv, iR1, iR2, iC, fLen, oLen, fMax, fMin, fAll, fAny, fSum, fSortI, fList, fTuple, fInt, fStr, fIsi, tyD, isLstD, isStrD, isDD, lstD, seqD, stD, eCallF, nAt, iSt, mJoin, mSplit, fAddI, sStar, iEnS, eSortSet, fSet, eLenSet, insAt, lkp, putD, ok_some, ok_none, ok_bind, ok_map, eq_int, eq_bl, sAsg, kb_NoneType_int, kb_NoneType_bool, kb_NoneType_str, kb_NoneType_tuple, kb_NoneType_list, kb_bool_int, kb_bool_bool, kb_bool_str, kb_bool_tuple, kb_bool_list, kb_int_int, kb_int_bool, kb_int_str, kb_int_tuple, kb_int_list, kb_str_int, kb_str_bool, kb_str_str, kb_str_tuple, kb_str_list, kb_tuple_int, kb_tuple_bool, kb_tuple_str, kb_tuple_tuple, kb_tuple_list, kb_list_int, kb_list_bool, kb_list_str, kb_list_tuple, kb_list_list, sz_0, sz_1, sz_2, sz_3, sz_4, sz_5, sz_6, sz_7, sz_8, sz_9, sz_10, sz_11, sz_12, sz_13, sz_14, sz_15, sz_16, ix_1_0, ix_2_0, ix_2_1, ix_3_0, ix_3_1, ix_3_2, ix_4_0, ix_4_1, ix_4_2, ix_4_3, ix_5_0, ix_5_1, ix_5_2, ix_5_3, ix_5_4, ix_6_0, ix_6_1, ix_6_2, ix_6_3, ix_6_4, ix_6_5, ix_7_0, ix_7_1, ix_7_2, ix_7_3, ix_7_4, ix_7_5, ix_7_6, sI_0, sI_1, sI_48271, sI_69621, p3, p4]
    exact ⟨rfl, x.born, _, _, _, _, _, _, _, rfl, t3⟩
  · rintro ρ' S' ⟨rfl, _⟩
    simp
end Wk
namespace Wk
open PySem L2 Yi
mutual
def alk : Nat → D → D → Sto → Prop
  | 0, _, _, _ => False
  | n + 1, x, y, S => (x = .non ∧ y = .non) ∨ (∃ i, x = .int i ∧ y = .int i) ∨ (∃ z, x = .str z ∧ y = .str z ∧ PyData.canLay0 (.str z) = true) ∨
    (∃ ds es, x = .tup ds ∧ y = .tup es ∧ ds.length ≤ 1000 ∧ alks n ds es S) ∨ ∃ ds es, lstD x S = some ds ∧ lstD y S = some es ∧ ds.length ≤ 1000 ∧ alks n ds es S
def alks : Nat → List D → List D → Sto → Prop
  | _, [], es, _ => es = []
  | n, d :: ds, es, S => ∃ e r, es = e :: r ∧ alk n d e S ∧ alks n ds r S
end
theorem alks_len : ∀ {n : Nat} {ds es : List D} {S : Sto}, alks n ds es S → es.length = ds.length
  | n, [], es, S, h => by simp only [alks] at h; subst h; rfl
  | n, d :: ds, es, S, h => by
    simp only [alks] at h
    obtain ⟨e, r, rfl, _, h⟩ := h
    simp [alks_len h]
theorem alks_get : ∀ {n : Nat} {ds es : List D} {S : Sto}, alks n ds es S → ∀ (i : Nat) (d : D), ds[i]? = some d → ∃ e, es[i]? = some e ∧ alk n d e S
  | n, [], es, S, h, i, d, hd => by simp at hd
  | n, d :: ds, es, S, h, i, x, hd => by
    simp only [alks] at h
    obtain ⟨e, r, rfl, h1, h⟩ := h
    cases i with
    | zero => cases hd; exact ⟨e, rfl, h1⟩
    | succ i => exact alks_get h i x (by simpa using hd)
theorem lst_ty {x : D} {S : Sto} {ds : List D} (h : lstD x S = some ds) : tyD x S = some "list" ∧ seqD x S = some ds ∧ (∀ j : Int, fIx x (.int j) S = (atI ds j).map .d) ∧ (szOk ds.length = true → fLen [x] S = some (.d (.int ds.length))) ∧ ∀ z, x ≠ .str z := by
  cases x with
  | fl es => cases h; exact ⟨rfl, rfl, fun j => rfl, fun z => by simp [fLen, seqD, lstD, z], fun z q => by cases q⟩
  | ref n =>
    simp only [lstD] at h
    split at h
    · rename_i q
      cases h
      refine ⟨by simp only [tyD]; rw [q], by simp only [seqD, lstD]; rw [q], fun j => by simp only [fIx, seqD, lstD]; rw [q]; rfl, fun z => by simp [fLen, seqD, lstD, q, z], fun z q => by cases q⟩
    · cases h
  | _ => cases h
theorem alike_loop {fr : Den} {x y : D} {ds es : List D} {S : Sto} (ix : ∀ j : Int, fIx x (.int j) S = (atI ds j).map .d) (iy : ∀ j : Int, fIx y (.int j) S = (atI es j).map .d)
    (le : es.length = ds.length) (h : ∀ (i : Nat) (d : D), ds[i]? = some d → ∃ e, es[i]? = some e ∧ fr [d, e] S = some (.d (.bl true), S)) (i : Nat) (hi : i < ds.length) (a : Option VV) :
    ok (gNm 2 (.int (0 + (i : Int))) [some (.d x), some (.d y), a]) fun ρ1 => ok (m_law_alike_1 fr ρ1 S) fun p => p.1 = .nx ∧ p.2.2 = S ∧ ∃ a, p.2.1 = [some (.d x), some (.d y), a] := by
  obtain ⟨e, h1, h2⟩ := h i ds[i] (List.getElem?_eq_getElem hi)
  have a1 : atI ds (i : Int) = some ds[i] := by simp [atI, ixn hi]
  have a2 : atI es (i : Int) = some e := by simp [atI, ixn (show i < es.length by omega), h1]
  simp [gNm, ok_some, m_law_alike_1, sIf, bNot, bV, eCall, aCons, aNil, eOp, eNm, eD, ok_bind, ok_map, ix, iy, a1, a2, h2, sNext]
theorem alike_seq {fr : Den} {T : String} {bt bl : Bool} {x y : D} {ds es : List D} {S : Sto} (k1 : kitB T "bool" = some false) (k2 : kitB T "int" = some false) (k3 : kitB T "str" = some false) (k4 : kitB T "tuple" = some bt) (k5 : kitB T "list" = some bl)
    (tx : tyD x S = some T) (ty : tyD y S = some T) (nn : Yi.isNon y = false)
    (lx : fLen [x] S = some (.d (.int ds.length))) (ly : fLen [y] S = some (.d (.int es.length))) (ix : ∀ j : Int, fIx x (.int j) S = (atI ds j).map .d) (iy : ∀ j : Int, fIx y (.int j) S = (atI es j).map .d)
    (l1 : ds.length ≤ 1000) (le : es.length = ds.length) (h : ∀ (i : Nat) (d : D), ds[i]? = some d → ∃ e, es[i]? = some e ∧ fr [d, e] S = some (.d (.bl true), S)) : ok (m_law_alike fr [some (.d x), some (.d y), none] S) fun p => p.1 = .rt (.d (.bl true)) ∧ p.2.2 = S := by
  have sm : smallR (ds.length : Int) = true := smR (by omega) (by omega)
  unfold m_law_alike
  refine seq_ok ?_
  simp only [sIf, bV, eOp, eD, eNm, eC, fIsN, nn, ok_bind, ok_map, ok_some, Option.bind_some, Option.map_some, List.getElem?_cons_succ, List.getElem?_cons_zero, Bool.false_eq_true, if_false, sNext]
  refine ⟨trivial, seq_ok ?_⟩
  simp only [sIf, bV, eCB, aCons, aNil, fIsi, ty, k1, eD, eNm, eC, ok_bind, ok_map, ok_some, Option.bind_some, Option.map_some, List.getElem?_cons_succ, List.getElem?_cons_zero, Bool.false_eq_true, if_false, sNext]
  refine ⟨trivial, seq_ok ?_⟩
  simp only [sIf, bV, eCB, aCons, aNil, fIsi, ty, k2, eD, eNm, eC, ok_bind, ok_map, ok_some, Option.bind_some, Option.map_some, List.getElem?_cons_succ, List.getElem?_cons_zero, Bool.false_eq_true, if_false, sNext]
  refine ⟨trivial, seq_ok ?_⟩
  simp only [sIf, bV, eCB, aCons, aNil, fIsi, ty, k3, eD, eNm, eC, ok_bind, ok_map, ok_some, Option.bind_some, Option.map_some, List.getElem?_cons_succ, List.getElem?_cons_zero, Bool.false_eq_true, if_false, sNext]
  refine ⟨trivial, seq_ok ?_⟩
  simp only [sIf, bOr, bV, eOp, fNe, eq_bl, eCB, aCons, aNil, fIsi, tx, ty, k4, k5, eD, eNm, eC, ok_bind, ok_map, ok_some, Option.bind_some, Option.map_some, List.getElem?_cons_succ, List.getElem?_cons_zero, beq_self_eq_true, Bool.not_true, Bool.false_eq_true, if_false, sNext]
  refine ⟨trivial, seq_ok ?_⟩
  simp only [sIf, bV, eOp, fNe, eq_int, eCB, aCons, aNil, lx, ly, le, eD, eNm, eC, ok_bind, ok_map, ok_some, Option.bind_some, Option.map_some, List.getElem?_cons_succ, List.getElem?_cons_zero, beq_self_eq_true, Bool.not_true, Bool.false_eq_true, if_false, sNext]
  refine ⟨trivial, seq_ok (for_ok ?_)⟩
  have ei : iR1 (aCons (eCB fLen (aCons (eNm 1) aNil)) aNil) [some (.d x), some (.d y), none] S = some (rngL 0 ds.length, S) := by
    refine iR1_eq ?_ (by omega)
    simp only [eCB, aCons, aNil, ly, le, eD, eNm, Option.bind_some, Option.map_some, List.getElem?_cons_succ, List.getElem?_cons_zero]
  rw [ok_eq ei]
  refine (forL_ok (fun i ρ S2 => S2 = S ∧ ∃ a, ρ = [some (.d x), some (.d y), a]) (rngL 0 ds.length) 0 ⟨rfl, none, rfl⟩ ?_).mono ?_
  · rintro i d hd ρ S2 ⟨rfl, a, rfl⟩
    obtain ⟨hi, rfl⟩ := rng_get hd
    exact alike_loop ix iy le h i hi a
  · rintro ⟨f, ρ, S2⟩ ⟨e, e2, a, e3⟩
    dsimp only at e e2 e3
    subst e e2 e3
    exact ⟨rfl, ⟨(.rt (.d (.bl true)), _, S2), rfl, rfl, rfl⟩⟩
theorem alike_ok : ∀ (n : Nat) {x y : D} {S : Sto}, alk n x y S → dr_law_alike n [x, y] S = some (.d (.bl true), S)
  | 0, x, y, S, h => by simp only [alk] at h
  | n + 1, x, y, S, h => by
    have ih : ∀ {ds es : List D}, alks n ds es S → ∀ (i : Nat) (d : D), ds[i]? = some d → ∃ e, es[i]? = some e ∧ dr_law_alike n [d, e] S = some (.d (.bl true), S) := fun hs i d hd => by
      obtain ⟨e, h1, h2⟩ := alks_get hs i d hd
      exact ⟨e, h1, alike_ok n h2⟩
    unfold dr_law_alike
    refine ok.get (den_ok rfl ?_)
    have done : ok (m_law_alike (dr_law_alike n) [some (.d x), some (.d y), none] S) (fun p => p.1 = .rt (.d (.bl true)) ∧ p.2.2 = S) → ok (m_law_alike (dr_law_alike n) ([x, y].map (fun d => some (VV.d d)) ++ List.replicate (3 - [x, y].length) none) S) fun p => match p.1 with
        | .nx => (VV.d .non, p.2.2) = (.d (.bl true), S)
        | .rt v => (v, p.2.2) = (.d (.bl true), S)
        | _ => False := fun q => q.mono fun ⟨f, ρ, S'⟩ ⟨e1, e2⟩ => by
      dsimp only at e1 e2
      subst e1 e2
      rfl
    refine done ?_
    simp only [alk] at h
    rcases h with ⟨rfl, rfl⟩ | ⟨i, rfl, rfl⟩ | ⟨z, rfl, rfl, hz⟩ | ⟨ds, es, rfl, rfl, l1, hs⟩ | ⟨ds, es, hx, hy, l1, hs⟩
    · simp [m_law_alike, sSeq, sFrz, sBox, sNext, sIf, sBreak, sCont, sNever, sExpr, sRet, sRetO, sRetN, sSet, sAsg, gNm, gsNil, gsCons, gT, eD, eV, eBox, eNm, eC, eOp, eUn, aNil, aCons, eTup, eLst, eCB, bV, bAnd, bOr, bNot, eAnd, eOr, eNot, eIf, eChain, eCall, eFld, sFldS, sFldA, eMeth, eMake, bYes, fSub, fLt, fLe, fGt, fGe, fDiv, fMod, fPow, fNeg, fAdd, fMul, fIsN, fNotN, Yi.isNon, fEq, fNe, fIn, fInS, fIx, intR, oNo, oPart, fSl, eSl, eRev, sAppO, sExtO, sAug, oIx, oIn, oEq, sPar, sPar3, sSetIx, eDGet, eDIn, eDGet2, sDPutS, eDPop1, eDPop2, eDNewK, eDNewT, oDGet, oDIn, eBM, mApp, mExt, mPopAt, mIdx, cellL, iEv, iR1, iR2, iC, fLen, oLen, fMax, fMin, fAll, fAny, fSum, fSortI, fList, fTuple, fInt, fStr, fIsi, tyD, isLstD, isStrD, isDD, lstD, seqD, stD, eCallF, nAt, iSt, mJoin, mSplit, fAddI, sStar, iEnS, eSortSet, fSet, eLenSet, insAt, lkp, putD, ok_some, ok_none, ok_bind, ok_map, eq_int, eq_bl, sAsg, kb_NoneType_int, kb_NoneType_bool, kb_NoneType_str, kb_NoneType_tuple, kb_NoneType_list, kb_bool_int, kb_bool_bool, kb_bool_str, kb_bool_tuple, kb_bool_list, kb_int_int, kb_int_bool, kb_int_str, kb_int_tuple, kb_int_list, kb_str_int, kb_str_bool, kb_str_str, kb_str_tuple, kb_str_list, kb_tuple_int, kb_tuple_bool, kb_tuple_str, kb_tuple_tuple, kb_tuple_list, kb_list_int, kb_list_bool, kb_list_str, kb_list_tuple, kb_list_list, sz_0, sz_1, sz_2, sz_3, sz_4, sz_5, sz_6, sz_7, sz_8, sz_9, sz_10, sz_11, sz_12, sz_13, sz_14, sz_15, sz_16, ix_1_0, ix_2_0, ix_2_1, ix_3_0, ix_3_1, ix_3_2, ix_4_0, ix_4_1, ix_4_2, ix_4_3, ix_5_0, ix_5_1, ix_5_2, ix_5_3, ix_5_4, ix_6_0, ix_6_1, ix_6_2, ix_6_3, ix_6_4, ix_6_5, ix_7_0, ix_7_1, ix_7_2, ix_7_3, ix_7_4, ix_7_5, ix_7_6, sI_0, sI_1, sI_48271, sI_69621]
    · simp [m_law_alike, sSeq, sFrz, sBox, sNext, sIf, sBreak, sCont, sNever, sExpr, sRet, sRetO, sRetN, sSet, sAsg, gNm, gsNil, gsCons, gT, eD, eV, eBox, eNm, eC, eOp, eUn, aNil, aCons, eTup, eLst, eCB, bV, bAnd, bOr, bNot, eAnd, eOr, eNot, eIf, eChain, eCall, eFld, sFldS, sFldA, eMeth, eMake, bYes, fSub, fLt, fLe, fGt, fGe, fDiv, fMod, fPow, fNeg, fAdd, fMul, fIsN, fNotN, Yi.isNon, fEq, fNe, fIn, fInS, fIx, intR, oNo, oPart, fSl, eSl, eRev, sAppO, sExtO, sAug, oIx, oIn, oEq, sPar, sPar3, sSetIx, eDGet, eDIn, eDGet2, sDPutS, eDPop1, eDPop2, eDNewK, eDNewT, oDGet, oDIn, eBM, mApp, mExt, mPopAt, mIdx, cellL, iEv, iR1, iR2, iC, fLen, oLen, fMax, fMin, fAll, fAny, fSum, fSortI, fList, fTuple, fInt, fStr, fIsi, tyD, isLstD, isStrD, isDD, lstD, seqD, stD, eCallF, nAt, iSt, mJoin, mSplit, fAddI, sStar, iEnS, eSortSet, fSet, eLenSet, insAt, lkp, putD, ok_some, ok_none, ok_bind, ok_map, eq_int, eq_bl, sAsg, kb_NoneType_int, kb_NoneType_bool, kb_NoneType_str, kb_NoneType_tuple, kb_NoneType_list, kb_bool_int, kb_bool_bool, kb_bool_str, kb_bool_tuple, kb_bool_list, kb_int_int, kb_int_bool, kb_int_str, kb_int_tuple, kb_int_list, kb_str_int, kb_str_bool, kb_str_str, kb_str_tuple, kb_str_list, kb_tuple_int, kb_tuple_bool, kb_tuple_str, kb_tuple_tuple, kb_tuple_list, kb_list_int, kb_list_bool, kb_list_str, kb_list_tuple, kb_list_list, sz_0, sz_1, sz_2, sz_3, sz_4, sz_5, sz_6, sz_7, sz_8, sz_9, sz_10, sz_11, sz_12, sz_13, sz_14, sz_15, sz_16, ix_1_0, ix_2_0, ix_2_1, ix_3_0, ix_3_1, ix_3_2, ix_4_0, ix_4_1, ix_4_2, ix_4_3, ix_5_0, ix_5_1, ix_5_2, ix_5_3, ix_5_4, ix_6_0, ix_6_1, ix_6_2, ix_6_3, ix_6_4, ix_6_5, ix_7_0, ix_7_1, ix_7_2, ix_7_3, ix_7_4, ix_7_5, ix_7_6, sI_0, sI_1, sI_48271, sI_69621]
    · simp [m_law_alike, sSeq, sFrz, sBox, sNext, sIf, sBreak, sCont, sNever, sExpr, sRet, sRetO, sRetN, sSet, sAsg, gNm, gsNil, gsCons, gT, eD, eV, eBox, eNm, eC, eOp, eUn, aNil, aCons, eTup, eLst, eCB, bV, bAnd, bOr, bNot, eAnd, eOr, eNot, eIf, eChain, eCall, eFld, sFldS, sFldA, eMeth, eMake, bYes, fSub, fLt, fLe, fGt, fGe, fDiv, fMod, fPow, fNeg, fAdd, fMul, fIsN, fNotN, Yi.isNon, fEq, fNe, fIn, fInS, fIx, intR, oNo, oPart, fSl, eSl, eRev, sAppO, sExtO, sAug, oIx, oIn, oEq, sPar, sPar3, sSetIx, eDGet, eDIn, eDGet2, sDPutS, eDPop1, eDPop2, eDNewK, eDNewT, oDGet, oDIn, eBM, mApp, mExt, mPopAt, mIdx, cellL, iEv, iR1, iR2, iC, fLen, oLen, fMax, fMin, fAll, fAny, fSum, fSortI, fList, fTuple, fInt, fStr, fIsi, tyD, isLstD, isStrD, isDD, lstD, seqD, stD, eCallF, nAt, iSt, mJoin, mSplit, fAddI, sStar, iEnS, eSortSet, fSet, eLenSet, insAt, lkp, putD, ok_some, ok_none, ok_bind, ok_map, eq_int, eq_bl, sAsg, kb_NoneType_int, kb_NoneType_bool, kb_NoneType_str, kb_NoneType_tuple, kb_NoneType_list, kb_bool_int, kb_bool_bool, kb_bool_str, kb_bool_tuple, kb_bool_list, kb_int_int, kb_int_bool, kb_int_str, kb_int_tuple, kb_int_list, kb_str_int, kb_str_bool, kb_str_str, kb_str_tuple, kb_str_list, kb_tuple_int, kb_tuple_bool, kb_tuple_str, kb_tuple_tuple, kb_tuple_list, kb_list_int, kb_list_bool, kb_list_str, kb_list_tuple, kb_list_list, sz_0, sz_1, sz_2, sz_3, sz_4, sz_5, sz_6, sz_7, sz_8, sz_9, sz_10, sz_11, sz_12, sz_13, sz_14, sz_15, sz_16, ix_1_0, ix_2_0, ix_2_1, ix_3_0, ix_3_1, ix_3_2, ix_4_0, ix_4_1, ix_4_2, ix_4_3, ix_5_0, ix_5_1, ix_5_2, ix_5_3, ix_5_4, ix_6_0, ix_6_1, ix_6_2, ix_6_3, ix_6_4, ix_6_5, ix_7_0, ix_7_1, ix_7_2, ix_7_3, ix_7_4, ix_7_5, ix_7_6, sI_0, sI_1, sI_48271, sI_69621, eq_str hz hz]
    · have z1 : szOk ds.length = true := by simp [szOk]; omega
      exact alike_seq kb_tuple_bool kb_tuple_int kb_tuple_str kb_tuple_tuple kb_tuple_list rfl rfl rfl rfl rfl (fun _ => rfl) (fun _ => rfl) l1 (alks_len hs) (ih hs)
    · have z1 : szOk ds.length = true := by simp [szOk]; omega
      obtain ⟨x1, x2, x3, x4, _⟩ := lst_ty hx
      obtain ⟨y1, y2, y3, y4, _⟩ := lst_ty hy
      have ln := alks_len hs
      exact alike_seq kb_list_bool kb_list_int kb_list_str kb_list_tuple kb_list_list x1 y1 (by cases y with | non => cases hy | _ => rfl) (x4 z1) (y4 (by rw [ln]; exact z1)) x3 y3 l1 ln (ih hs)
end Wk
namespace Wk
open PySem L2 Yi TL
/-! ### words -/
def num (i : Int) : Str := Str.ofString (toString i)
def ow : Option Int → Str
  | none => "-"
  | some i => num i
theorem num_tl {n : Nat} : tl (num n) = numL n := tl_num n
theorem num_len {i : Int} (h0 : 0 ≤ i) (h1 : i ≤ 999) : (num i).length ≤ 3 := by
  obtain ⟨n, rfl⟩ : ∃ n : Nat, i = n := ⟨i.toNat, by omega⟩
  have e : (num n).length = (tl (num n)).length := by simp [Str.length]
  rw [e, num_tl]
  exact numL_len (by decide) (by omega)
theorem num_str {i : Int} {S : Sto} (h0 : 0 ≤ i) (h1 : i ≤ 999) : fStr [.int i] S = some (.d (.str (num i))) := by
  have e : i.natAbs < 2 ^ 100 := by omega
  unfold fStr
  exact if_pos e
def rowsR (r : Rl) : List (List Str) := [("person" : Str), num r.least, ow r.wait, ow r.fur] :: (r.hs.map (fun p => [("hush" : Str), num p.1, num p.2]) ++ r.gs.map (fun p => [("gather" : Str), num p.1, num p.2]))
def rowN (n : Nt) : List Str := [("notice" : Str), num n.person, num n.rank, num n.kind, num n.born]
def allR (rs : List Rl) (ns : List Nt) : List (List Str) := rs.flatMap rowsR ++ ns.map rowN
def line (ws : List Str) : Str := Txt.join " " ws
def txt (rs : List Rl) (ns : List Nt) : Str := Txt.join "\n" ((allR rs ns).map line)
theorem line2 (a b c : Str) : line [a, b, c] = a ++ " " ++ (b ++ " " ++ c) := join_eq _ _
theorem line3 (a b c d : Str) : line [a, b, c, d] = a ++ " " ++ (b ++ " " ++ (c ++ " " ++ d)) := join_eq _ _
theorem line4 (a b c d e : Str) : line [a, b, c, d, e] = a ++ " " ++ (b ++ " " ++ (c ++ " " ++ (d ++ " " ++ e))) := join_eq _ _
theorem sapp (a b c : Str) : a ++ b ++ c = a ++ (b ++ c) := ext_tl (by simp only [tl_append, List.append_assoc])
theorem add_ok {a b : EM} {ρ : Slt} {S : Sto} {x y : Str} (ha : a ρ S = some (.d (.str x), S)) (hb : b ρ S = some (.d (.str y), S)) (h : x.length + y.length ≤ 1000000) : eOp fAdd a b ρ S = some (.d (.str (x ++ y)), S) := by
  have z : szOk (x.length + y.length) = true := by simp [szOk, h]
  refine ok.get ?_
  simp [sNext, sIf, sBreak, sCont, sNever, sExpr, sRet, sRetO, sRetN, sSet, sAsg, gNm, gsNil, gsCons, gT, eD, eV, eBox, eNm, eC, eOp, eUn, aNil, aCons, eTup, eLst, eCB, bV, bAnd, bOr, bNot, eAnd, eOr, eNot, eIf, eChain, eCall, eFld, sFldS, sFldA, eMeth, eMake, bYes, fSub, fLt, fLe, fGt, fGe, fDiv, fMod, fPow, fNeg, fAdd, fMul, fIsN, fNotN, Yi.isNon, fEq, fNe, fIn, fInS, fIx, intR, oNo, oPart, fSl, eSl, eRev, sAppO, sExtO, sAug, oIx, oIn, oEq, sPar, sPar3, sSetIx, eDGet, eDIn, eDGet2, sDPutS, eDPop1, eDPop2, eDNewK, eDNewT, oDGet, oDIn, eBM, mApp, mExt, mPopAt, mIdx, cellL, iEv, iR1, iR2, iC, fLen, oLen, fMax, fMin, fAll, fAny, fSum, fSortI, fList, fTuple, fInt, fStr, fIsi, tyD, isLstD, isStrD, isDD, lstD, seqD, stD, eCallF, nAt, iSt, mJoin, mSplit, fAddI, sStar, iEnS, eSortSet, fSet, eLenSet, insAt, lkp, putD, ok_some, ok_none, ok_bind, ok_map, eq_int, eq_bl, sAsg, kb_NoneType_int, kb_NoneType_bool, kb_NoneType_str, kb_NoneType_tuple, kb_NoneType_list, kb_bool_int, kb_bool_bool, kb_bool_str, kb_bool_tuple, kb_bool_list, kb_int_int, kb_int_bool, kb_int_str, kb_int_tuple, kb_int_list, kb_str_int, kb_str_bool, kb_str_str, kb_str_tuple, kb_str_list, kb_tuple_int, kb_tuple_bool, kb_tuple_str, kb_tuple_tuple, kb_tuple_list, kb_list_int, kb_list_bool, kb_list_str, kb_list_tuple, kb_list_list, sz_0, sz_1, sz_2, sz_3, sz_4, sz_5, sz_6, sz_7, sz_8, sz_9, sz_10, sz_11, sz_12, sz_13, sz_14, sz_15, sz_16, ix_1_0, ix_2_0, ix_2_1, ix_3_0, ix_3_1, ix_3_2, ix_4_0, ix_4_1, ix_4_2, ix_4_3, ix_5_0, ix_5_1, ix_5_2, ix_5_3, ix_5_4, ix_6_0, ix_6_1, ix_6_2, ix_6_3, ix_6_4, ix_6_5, ix_7_0, ix_7_1, ix_7_2, ix_7_3, ix_7_4, ix_7_5, ix_7_6, sI_0, sI_1, sI_48271, sI_69621, ha, hb, z]
theorem str_ok {a : EM} {ρ : Slt} {S : Sto} {i : Int} (ha : a ρ S = some (.d (.int i), S)) (h0 : 0 ≤ i) (h1 : i ≤ 999) : eCB fStr (aCons a aNil) ρ S = some (.d (.str (num i)), S) := by
  have e := num_str (S := S) h0 h1
  refine ok.get ?_
  simp [sNext, sIf, sBreak, sCont, sNever, sExpr, sRet, sRetO, sRetN, sSet, sAsg, gNm, gsNil, gsCons, gT, eD, eV, eBox, eNm, eC, eOp, eUn, aNil, aCons, eTup, eLst, eCB, bV, bAnd, bOr, bNot, eAnd, eOr, eNot, eIf, eChain, eCall, eFld, sFldS, sFldA, eMeth, eMake, bYes, fSub, fLt, fLe, fGt, fGe, fDiv, fMod, fPow, fNeg, fAdd, fMul, fIsN, fNotN, Yi.isNon, fEq, fNe, fIn, fInS, fIx, intR, oNo, oPart, fSl, eSl, eRev, sAppO, sExtO, sAug, oIx, oIn, oEq, sPar, sPar3, sSetIx, eDGet, eDIn, eDGet2, sDPutS, eDPop1, eDPop2, eDNewK, eDNewT, oDGet, oDIn, eBM, mApp, mExt, mPopAt, mIdx, cellL, iEv, iR1, iR2, iC, fLen, oLen, fMax, fMin, fAll, fAny, fSum, fSortI, fList, fTuple, fInt, fIsi, tyD, isLstD, isStrD, isDD, lstD, seqD, stD, eCallF, nAt, iSt, mJoin, mSplit, fAddI, sStar, iEnS, eSortSet, fSet, eLenSet, insAt, lkp, putD, ok_some, ok_none, ok_bind, ok_map, eq_int, eq_bl, sAsg, kb_NoneType_int, kb_NoneType_bool, kb_NoneType_str, kb_NoneType_tuple, kb_NoneType_list, kb_bool_int, kb_bool_bool, kb_bool_str, kb_bool_tuple, kb_bool_list, kb_int_int, kb_int_bool, kb_int_str, kb_int_tuple, kb_int_list, kb_str_int, kb_str_bool, kb_str_str, kb_str_tuple, kb_str_list, kb_tuple_int, kb_tuple_bool, kb_tuple_str, kb_tuple_tuple, kb_tuple_list, kb_list_int, kb_list_bool, kb_list_str, kb_list_tuple, kb_list_list, sz_0, sz_1, sz_2, sz_3, sz_4, sz_5, sz_6, sz_7, sz_8, sz_9, sz_10, sz_11, sz_12, sz_13, sz_14, sz_15, sz_16, ix_1_0, ix_2_0, ix_2_1, ix_3_0, ix_3_1, ix_3_2, ix_4_0, ix_4_1, ix_4_2, ix_4_3, ix_5_0, ix_5_1, ix_5_2, ix_5_3, ix_5_4, ix_6_0, ix_6_1, ix_6_2, ix_6_3, ix_6_4, ix_6_5, ix_7_0, ix_7_1, ix_7_2, ix_7_3, ix_7_4, ix_7_5, ix_7_6, sI_0, sI_1, sI_48271, sI_69621, ha, e]
theorem slen (a b : Str) : (a ++ b).length = a.length + b.length := Str.length_append a b
theorem ow_len {o : Option Int} (h : ∀ i, o = some i → 0 ≤ i ∧ i ≤ 999) : (ow o).length ≤ 3 := by
  cases o with
  | none => show ("-" : Str).length ≤ 3; decide
  | some i => exact num_len (h i rfl).1 (h i rfl).2
theorem hush_sp : ("hush " : Str) = "hush" ++ " " := by decide +kernel
theorem gather_sp : ("gather " : Str) = "gather" ++ " " := by decide +kernel
theorem person_sp : ("person " : Str) = "person" ++ " " := by decide +kernel
theorem notice_sp : ("notice " : Str) = "notice" ++ " " := by decide +kernel
theorem l_hush : ("hush " : Str).length = 5 := by decide +kernel
theorem l_gather : ("gather " : Str).length = 7 := by decide +kernel
theorem l_person : ("person " : Str).length = 7 := by decide +kernel
theorem l_notice : ("notice " : Str).length = 7 := by decide +kernel
theorem l_sp : (" " : Str).length = 1 := by decide +kernel
theorem l_nl : ("\n" : Str).length = 1 := by decide +kernel
end Wk
namespace Wk
open PySem L2 Yi TL
theorem strsM (l : List Str) : (l.map D.str) = l.map .str := rfl
theorem some_ok {w f : Option Int} {ρ : Slt} {S : Sto} (h9 : 9 < ρ.length) (hw : ∀ i, w = some i → 0 ≤ i ∧ i ≤ 999) (hf : ∀ i, f = some i → 0 ≤ i ∧ i ≤ 999) :
    compL (gNm 9) bYes (eIf (bV (eOp fIsN (eNm 9) (eC .non))) (eC (.str "-")) (eCB fStr (aCons (eNm 9) aNil))) ρ [oD w, oD f] [] S = some ([.str (ow w), .str (ow f)], S) := by
  have one : ∀ o : Option Int, (∀ i, o = some i → 0 ≤ i ∧ i ≤ 999) → eD (eIf (bV (eOp fIsN (eNm 9) (eC .non))) (eC (.str "-")) (eCB fStr (aCons (eNm 9) aNil))) (ρ.set 9 (some (.d (oD o)))) S = some (.str (ow o), S) := fun o ho => by
    have g : (ρ.set 9 (some (.d (oD o))))[9]? = some (some (.d (oD o))) := List.getElem?_set_self h9
    refine ok.get ?_
    cases o with
    | none => simp [sNext, sIf, sBreak, sCont, sNever, sExpr, sRet, sRetO, sRetN, sSet, sAsg, gNm, gsNil, gsCons, gT, eD, eV, eBox, eNm, eC, eOp, eUn, aNil, aCons, eTup, eLst, eCB, bV, bAnd, bOr, bNot, eAnd, eOr, eNot, eIf, eChain, eCall, eFld, sFldS, sFldA, eMeth, eMake, bYes, fSub, fLt, fLe, fGt, fGe, fDiv, fMod, fPow, fNeg, fAdd, fMul, fIsN, fNotN, Yi.isNon, fEq, fNe, fIn, fInS, fIx, intR, oNo, oPart, fSl, eSl, eRev, sAppO, sExtO, sAug, oIx, oIn, oEq, sPar, sPar3, sSetIx, eDGet, eDIn, eDGet2, sDPutS, eDPop1, eDPop2, eDNewK, eDNewT, oDGet, oDIn, eBM, mApp, mExt, mPopAt, mIdx, cellL, iEv, iR1, iR2, iC, fLen, oLen, fMax, fMin, fAll, fAny, fSum, fSortI, fList, fTuple, fInt, fStr, fIsi, tyD, isLstD, isStrD, isDD, lstD, seqD, stD, eCallF, nAt, iSt, mJoin, mSplit, fAddI, sStar, iEnS, eSortSet, fSet, eLenSet, insAt, lkp, putD, ok_some, ok_none, ok_bind, ok_map, eq_int, eq_bl, sAsg, kb_NoneType_int, kb_NoneType_bool, kb_NoneType_str, kb_NoneType_tuple, kb_NoneType_list, kb_bool_int, kb_bool_bool, kb_bool_str, kb_bool_tuple, kb_bool_list, kb_int_int, kb_int_bool, kb_int_str, kb_int_tuple, kb_int_list, kb_str_int, kb_str_bool, kb_str_str, kb_str_tuple, kb_str_list, kb_tuple_int, kb_tuple_bool, kb_tuple_str, kb_tuple_tuple, kb_tuple_list, kb_list_int, kb_list_bool, kb_list_str, kb_list_tuple, kb_list_list, sz_0, sz_1, sz_2, sz_3, sz_4, sz_5, sz_6, sz_7, sz_8, sz_9, sz_10, sz_11, sz_12, sz_13, sz_14, sz_15, sz_16, ix_1_0, ix_2_0, ix_2_1, ix_3_0, ix_3_1, ix_3_2, ix_4_0, ix_4_1, ix_4_2, ix_4_3, ix_5_0, ix_5_1, ix_5_2, ix_5_3, ix_5_4, ix_6_0, ix_6_1, ix_6_2, ix_6_3, ix_6_4, ix_6_5, ix_7_0, ix_7_1, ix_7_2, ix_7_3, ix_7_4, ix_7_5, ix_7_6, sI_0, sI_1, sI_48271, sI_69621, oD, ow] at g ⊢; simp [sNext, sIf, sBreak, sCont, sNever, sExpr, sRet, sRetO, sRetN, sSet, sAsg, gNm, gsNil, gsCons, gT, eD, eV, eBox, eNm, eC, eOp, eUn, aNil, aCons, eTup, eLst, eCB, bV, bAnd, bOr, bNot, eAnd, eOr, eNot, eIf, eChain, eCall, eFld, sFldS, sFldA, eMeth, eMake, bYes, fSub, fLt, fLe, fGt, fGe, fDiv, fMod, fPow, fNeg, fAdd, fMul, fIsN, fNotN, Yi.isNon, fEq, fNe, fIn, fInS, fIx, intR, oNo, oPart, fSl, eSl, eRev, sAppO, sExtO, sAug, oIx, oIn, oEq, sPar, sPar3, sSetIx, eDGet, eDIn, eDGet2, sDPutS, eDPop1, eDPop2, eDNewK, eDNewT, oDGet, oDIn, eBM, mApp, mExt, mPopAt, mIdx, cellL, iEv, iR1, iR2, iC, fLen, oLen, fMax, fMin, fAll, fAny, fSum, fSortI, fList, fTuple, fInt, fStr, fIsi, tyD, isLstD, isStrD, isDD, lstD, seqD, stD, eCallF, nAt, iSt, mJoin, mSplit, fAddI, sStar, iEnS, eSortSet, fSet, eLenSet, insAt, lkp, putD, ok_some, ok_none, ok_bind, ok_map, eq_int, eq_bl, sAsg, kb_NoneType_int, kb_NoneType_bool, kb_NoneType_str, kb_NoneType_tuple, kb_NoneType_list, kb_bool_int, kb_bool_bool, kb_bool_str, kb_bool_tuple, kb_bool_list, kb_int_int, kb_int_bool, kb_int_str, kb_int_tuple, kb_int_list, kb_str_int, kb_str_bool, kb_str_str, kb_str_tuple, kb_str_list, kb_tuple_int, kb_tuple_bool, kb_tuple_str, kb_tuple_tuple, kb_tuple_list, kb_list_int, kb_list_bool, kb_list_str, kb_list_tuple, kb_list_list, sz_0, sz_1, sz_2, sz_3, sz_4, sz_5, sz_6, sz_7, sz_8, sz_9, sz_10, sz_11, sz_12, sz_13, sz_14, sz_15, sz_16, ix_1_0, ix_2_0, ix_2_1, ix_3_0, ix_3_1, ix_3_2, ix_4_0, ix_4_1, ix_4_2, ix_4_3, ix_5_0, ix_5_1, ix_5_2, ix_5_3, ix_5_4, ix_6_0, ix_6_1, ix_6_2, ix_6_3, ix_6_4, ix_6_5, ix_7_0, ix_7_1, ix_7_2, ix_7_3, ix_7_4, ix_7_5, ix_7_6, sI_0, sI_1, sI_48271, sI_69621, g]
    | some i =>
      have e := num_str (S := S) (ho i rfl).1 (ho i rfl).2
      simp only [oD] at g
      simp [sNext, sIf, sBreak, sCont, sNever, sExpr, sRet, sRetO, sRetN, sSet, sAsg, gNm, gsNil, gsCons, gT, eD, eV, eBox, eNm, eC, eOp, eUn, aNil, aCons, eTup, eLst, eCB, bV, bAnd, bOr, bNot, eAnd, eOr, eNot, eIf, eChain, eCall, eFld, sFldS, sFldA, eMeth, eMake, bYes, fSub, fLt, fLe, fGt, fGe, fDiv, fMod, fPow, fNeg, fAdd, fMul, fIsN, fNotN, Yi.isNon, fEq, fNe, fIn, fInS, fIx, intR, oNo, oPart, fSl, eSl, eRev, sAppO, sExtO, sAug, oIx, oIn, oEq, sPar, sPar3, sSetIx, eDGet, eDIn, eDGet2, sDPutS, eDPop1, eDPop2, eDNewK, eDNewT, oDGet, oDIn, eBM, mApp, mExt, mPopAt, mIdx, cellL, iEv, iR1, iR2, iC, fLen, oLen, fMax, fMin, fAll, fAny, fSum, fSortI, fList, fTuple, fInt, fIsi, tyD, isLstD, isStrD, isDD, lstD, seqD, stD, eCallF, nAt, iSt, mJoin, mSplit, fAddI, sStar, iEnS, eSortSet, fSet, eLenSet, insAt, lkp, putD, ok_some, ok_none, ok_bind, ok_map, eq_int, eq_bl, sAsg, kb_NoneType_int, kb_NoneType_bool, kb_NoneType_str, kb_NoneType_tuple, kb_NoneType_list, kb_bool_int, kb_bool_bool, kb_bool_str, kb_bool_tuple, kb_bool_list, kb_int_int, kb_int_bool, kb_int_str, kb_int_tuple, kb_int_list, kb_str_int, kb_str_bool, kb_str_str, kb_str_tuple, kb_str_list, kb_tuple_int, kb_tuple_bool, kb_tuple_str, kb_tuple_tuple, kb_tuple_list, kb_list_int, kb_list_bool, kb_list_str, kb_list_tuple, kb_list_list, sz_0, sz_1, sz_2, sz_3, sz_4, sz_5, sz_6, sz_7, sz_8, sz_9, sz_10, sz_11, sz_12, sz_13, sz_14, sz_15, sz_16, ix_1_0, ix_2_0, ix_2_1, ix_3_0, ix_3_1, ix_3_2, ix_4_0, ix_4_1, ix_4_2, ix_4_3, ix_5_0, ix_5_1, ix_5_2, ix_5_3, ix_5_4, ix_6_0, ix_6_1, ix_6_2, ix_6_3, ix_6_4, ix_6_5, ix_7_0, ix_7_1, ix_7_2, ix_7_3, ix_7_4, ix_7_5, ix_7_6, sI_0, sI_1, sI_48271, sI_69621, oD, ow, g, e]
  have z0 : szOk ([] : List D).length = true := by decide
  have z1 : szOk (([] : List D) ++ [D.str (ow w)]).length = true := by simp [szOk]
  simp only [compL, gNm, bYes, Option.bind_some, if_true, one w hw, one f hf, z0, z1]
  rfl
theorem pairs_text {wd : Str} {i j : Nat} {ps : List (Int × Int)} {ρ : Slt} {S : Sto} (hk : wd.length ≤ 20) (hij : i ≠ j) (hi : i < ρ.length) (hj : j < ρ.length) (hl : ps.length ≤ 100) (hp : ∀ p ∈ ps, 0 ≤ p.1 ∧ p.1 ≤ 999 ∧ 0 ≤ p.2 ∧ p.2 ≤ 999) :
    compL (gT 2 (gsCons (gNm i) (gsCons (gNm j) gsNil))) bYes (eOp fAdd (eOp fAdd (eOp fAdd (eC (.str wd)) (eCB fStr (aCons (eNm i) aNil))) (eC (.str " "))) (eCB fStr (aCons (eNm j) aNil))) ρ (ps.map pD) [] S
      = some (ps.map fun p => .str (wd ++ num p.1 ++ " " ++ num p.2), S) := by
  rw [compL_map (fun d => match d with | .tup [.int a, .int b] => .str (wd ++ num a ++ " " ++ num b) | _ => .non) _ [] (by simp; omega) ?_]
  · simp [pD, Function.comp_def]
  · intro d hd
    obtain ⟨p, hm, rfl⟩ := List.mem_map.mp hd
    obtain ⟨a0, a1, b0, b1⟩ := hp p hm
    refine ⟨(ρ.set i (some (.d (.int p.1)))).set j (some (.d (.int p.2))), rfl, rfl, ?_⟩
    have gi : eNm i ((ρ.set i (some (.d (.int p.1)))).set j (some (.d (.int p.2)))) S = some (.d (.int p.1), S) := by
      unfold eNm
      rw [List.getElem?_set_ne hij.symm, List.getElem?_set_self hi]
    have gj : eNm j ((ρ.set i (some (.d (.int p.1)))).set j (some (.d (.int p.2)))) S = some (.d (.int p.2), S) := by
      unfold eNm
      rw [List.getElem?_set_self (by simpa using hj)]
    have la := num_len a0 a1
    have lb := num_len b0 b1
    refine eD_some (add_ok (add_ok (add_ok rfl (str_ok gi a0 a1) (by omega)) rfl (by rw [slen, l_sp]; omega)) (str_ok gj b0 b1) (by rw [slen, slen, l_sp]; omega))
def rowsT (r : Rl) : List Str := (rowsR r).map line
theorem rowsT_eq (r : Rl) : rowsT r = ("person " ++ num r.least ++ " " ++ ow r.wait ++ " " ++ ow r.fur) :: (r.hs.map (fun p => ("hush " : Str) ++ num p.1 ++ " " ++ num p.2) ++ r.gs.map (fun p => ("gather " : Str) ++ num p.1 ++ " " ++ num p.2)) := by
  have a : ∀ p : Int × Int, line ["hush", num p.1, num p.2] = ("hush " : Str) ++ num p.1 ++ " " ++ num p.2 := fun p => by rw [line2, hush_sp]; simp only [sapp]
  have b : ∀ p : Int × Int, line ["gather", num p.1, num p.2] = ("gather " : Str) ++ num p.1 ++ " " ++ num p.2 := fun p => by rw [line2, gather_sp]; simp only [sapp]
  have c : line ["person", num r.least, ow r.wait, ow r.fur] = "person " ++ num r.least ++ " " ++ ow r.wait ++ " " ++ ow r.fur := by rw [line3, person_sp]; simp only [sapp]
  unfold rowsT rowsR
  simp only [List.map_cons, List.map_append, List.map_map, Function.comp_def, a, b, c]
def InvT (S : Sto) (rs : List Rl) (ns : D) (i : Nat) (ρ : Slt) (S2 : Sto) : Prop := S2 = S ∧ ∃ x3 x4 x5 x6 x7 x8 x9 x10 x11 x12 x13 x14 : Option VV,
  ρ = [some (.d (.tup (rs.map rD))), some (.d ns), some (.own (.lst (((rs.take i).flatMap rowsT).map .str))), x3, x4, x5, x6, x7, x8, x9, x10, x11, x12, x13, x14]
theorem flat_len {rs : List Rl} (hg : ∀ r ∈ rs, ∃ m, r.Good m) : (rs.flatMap rowsT).length ≤ 8 * rs.length := by
  induction rs with
  | nil => simp
  | cons r t ih =>
    obtain ⟨m, g⟩ := hg r (by simp)
    have h1 := g.hl
    have h2 := g.gl
    have := ih fun r h => hg r (by simp [h])
    simp [List.flatMap_cons, rowsT, rowsR] at this ⊢
    omega
theorem take_flat {rs : List Rl} {i : Nat} {r : Rl} (h : rs[i]? = some r) : (rs.take (i + 1)).flatMap rowsT = (rs.take i).flatMap rowsT ++ rowsT r := by
  rw [List.take_add_one, h]
  simp
theorem lc_eq {i : AM} {g : TM} {c : BM} {m : EM} {vs : List Nat} {ρ : Slt} {S S1 S2 : Sto} {ds ys : List D} (hi : i ρ S = some (ds, S1)) (hc : compL g c m (wipeS ρ vs) ds [] S1 = some (ys, S2)) : eLc i g c m vs ρ S = some (.own (.lst ys), S2) := by
  unfold eLc
  rw [hi, Option.bind_some, hc]
  rfl
theorem frz_ext {i : Nat} (T ys : List D) {m : EM} {ρ : Slt} {S : Sto} (h2 : ρ[i]? = some (some (.own (.lst T)))) (hz : T.length + ys.length ≤ 1000000) (hm : m (ρ.set i (some (.d (.fl T)))) S = some (.own (.lst ys), S)) :
    sFrz i (sSet i (eOp fAdd (eNm i) m)) ρ S = some (.nx, (ρ.set i (some (.d (.fl T)))).set i (some (.own (.lst (T ++ ys)))), S) := by
  have hl : i < ρ.length := (List.getElem?_eq_some_iff.mp h2).1
  have z : szOk (T.length + ys.length) = true := by simp [szOk, hz]
  have g2 : (ρ.set i (some (.d (.fl T))))[i]? = some (some (.d (.fl T))) := List.getElem?_set_self hl
  refine ok.get ?_
  simp [sFrz, sBox, sNext, sIf, sBreak, sCont, sNever, sExpr, sRet, sRetO, sRetN, sSet, sAsg, gNm, gsNil, gsCons, gT, eD, eV, eBox, eNm, eC, eOp, eUn, aNil, aCons, eTup, eLst, eCB, bV, bAnd, bOr, bNot, eAnd, eOr, eNot, eIf, eChain, eCall, eFld, sFldS, sFldA, eMeth, eMake, bYes, fSub, fLt, fLe, fGt, fGe, fDiv, fMod, fPow, fNeg, fAdd, fMul, fIsN, fNotN, Yi.isNon, fEq, fNe, fIn, fInS, fIx, intR, oNo, oPart, fSl, eSl, eRev, sAppO, sExtO, sAug, oIx, oIn, oEq, sPar, sPar3, sSetIx, eDGet, eDIn, eDGet2, sDPutS, eDPop1, eDPop2, eDNewK, eDNewT, oDGet, oDIn, eBM, mApp, mExt, mPopAt, mIdx, cellL, iEv, iR1, iR2, iC, fLen, oLen, fMax, fMin, fAll, fAny, fSum, fSortI, fList, fTuple, fInt, fStr, fIsi, tyD, isLstD, isStrD, isDD, lstD, seqD, stD, eCallF, nAt, iSt, mJoin, mSplit, fAddI, sStar, iEnS, eSortSet, fSet, eLenSet, insAt, lkp, putD, ok_some, ok_none, ok_bind, ok_map, eq_int, eq_bl, sAsg, kb_NoneType_int, kb_NoneType_bool, kb_NoneType_str, kb_NoneType_tuple, kb_NoneType_list, kb_bool_int, kb_bool_bool, kb_bool_str, kb_bool_tuple, kb_bool_list, kb_int_int, kb_int_bool, kb_int_str, kb_int_tuple, kb_int_list, kb_str_int, kb_str_bool, kb_str_str, kb_str_tuple, kb_str_list, kb_tuple_int, kb_tuple_bool, kb_tuple_str, kb_tuple_tuple, kb_tuple_list, kb_list_int, kb_list_bool, kb_list_str, kb_list_tuple, kb_list_list, sz_0, sz_1, sz_2, sz_3, sz_4, sz_5, sz_6, sz_7, sz_8, sz_9, sz_10, sz_11, sz_12, sz_13, sz_14, sz_15, sz_16, ix_1_0, ix_2_0, ix_2_1, ix_3_0, ix_3_1, ix_3_2, ix_4_0, ix_4_1, ix_4_2, ix_4_3, ix_5_0, ix_5_1, ix_5_2, ix_5_3, ix_5_4, ix_6_0, ix_6_1, ix_6_2, ix_6_3, ix_6_4, ix_6_5, ix_7_0, ix_7_1, ix_7_2, ix_7_3, ix_7_4, ix_7_5, ix_7_6, sI_0, sI_1, sI_48271, sI_69621, h2, g2, hm, z]
def pT (wd : Str) (p : Int × Int) : D := .str (wd ++ num p.1 ++ " " ++ num p.2)
theorem pair_lc {wd : Str} {a i j : Nat} {ps : List (Int × Int)} {ρ : Slt} {S : Sto} (hk : wd.length ≤ 20) (hij : i ≠ j) (ha : ρ[a]? = some (some (.d (.tup (ps.map pD))))) (hi : i < ρ.length) (hj : j < ρ.length) (hl : ps.length ≤ 100) (hp : ∀ p ∈ ps, 0 ≤ p.1 ∧ p.1 ≤ 999 ∧ 0 ≤ p.2 ∧ p.2 ≤ 999) :
    eLc (iEv (eNm a)) (gT 2 (gsCons (gNm i) (gsCons (gNm j) gsNil))) bYes (eOp fAdd (eOp fAdd (eOp fAdd (eC (.str wd)) (eCB fStr (aCons (eNm i) aNil))) (eC (.str " "))) (eCB fStr (aCons (eNm j) aNil))) [i, j] ρ S = some (.own (.lst (ps.map (pT wd))), S) := by
  have i3 : iEv (eNm a) ρ S = some (ps.map pD, S) := by simp [iEv, eD, eNm, ha, stD]
  exact lc_eq i3 (pairs_text hk hij (by rw [wipeS_len]; exact hi) (by rw [wipeS_len]; exact hj) hl hp)
set_option maxHeartbeats 400000 in
theorem law_text_1 {rs : List Rl} {nd : D} {S : Sto} (h : GoodRs rs) (i : Nat) (r : Rl) (hr : rs[i]? = some r) (ρ : Slt) (S2 : Sto) (hp : InvT S rs nd i ρ S2) :
    ok (gT 5 (gsCons (gNm 3) (gsCons (gNm 4) (gsCons (gNm 5) (gsCons (gNm 6) (gsCons (gNm 7) gsNil))))) (rD r) ρ) fun ρ1 => ok (m_law_text_1 ρ1 S2) fun p => p.1 = .nx ∧ InvT S rs nd (i + 1) p.2.1 p.2.2 := by
  obtain ⟨rfl, x3, x4, x5, x6, x7, x8, x9, x10, x11, x12, x13, x14, rfl⟩ := hp
  have g := h.g r (List.mem_of_getElem? hr)
  have l6 := h.l6
  have hl := g.hl
  have gl := g.gl
  have lb : ((rs.take i).flatMap rowsT).length ≤ 50 := by
    have := flat_len (rs := rs.take i) fun r hr => ⟨_, h.g r (List.mem_of_mem_take hr)⟩
    have : (rs.take i).length ≤ rs.length := by simp; omega
    omega
  generalize hR : (rs.take i).flatMap rowsT = R at lb
  have hw : ∀ i, r.wait = some i → 0 ≤ i ∧ i ≤ 999 := fun i e => by have := g.w i e; omega
  have hf : ∀ i, r.fur = some i → 0 ≤ i ∧ i ≤ 999 := fun i e => by have := g.f i e; omega
  have hq : ∀ p ∈ r.hs, 0 ≤ p.1 ∧ p.1 ≤ 999 ∧ 0 ≤ p.2 ∧ p.2 ≤ 999 := fun p hp => by have := g.hh p hp; omega
  have gq : ∀ p ∈ r.gs, 0 ≤ p.1 ∧ p.1 ≤ 999 ∧ 0 ≤ p.2 ∧ p.2 ≤ 999 := fun p hp => by have := g.gk p hp; omega
  have l0 := num_len g.l0 (by have := g.l4; omega)
  have l1 := ow_len hw
  have l2 := ow_len hf
  have zR : szOk R.length = true := by simp [szOk]; omega
  simp only [rD, gT, List.length_cons, List.length_nil, if_true, gsCons, gNm, gsNil, Option.bind_some, ok_some, List.set_cons_succ, List.set_cons_zero]
  unfold m_law_text_1
  -- some
  refine seq_ok ?_
  have e1 : ∀ ρ : Slt, ρ = [some (.d (.tup (rs.map rD))), some (.d nd), some (.own (.lst (R.map .str))), some (.d (.tup (r.hs.map pD))), some (.d (.int r.least)), some (.d (.tup (r.gs.map pD))), some (.d (oD r.wait)), some (.d (oD r.fur)), x8, x9, x10, x11, x12, x13, x14] →
      eLc (iEv (eTup (aCons (eNm 6) (aCons (eNm 7) aNil)))) (gNm 9) bYes (eIf (bV (eOp fIsN (eNm 9) (eC .non))) (eC (.str "-")) (eCB fStr (aCons (eNm 9) aNil))) [9] ρ S2 = some (.own (.lst [.str (ow r.wait), .str (ow r.fur)]), S2) := fun ρ e => by
    subst e
    exact lc_eq rfl (some_ok (by simp [wipeS]) hw hf)
  simp only [sSet, eV, eD, e1 _ rfl, Option.bind_some, Option.map_some, ok_some, List.set_cons_succ, List.set_cons_zero]
  refine ⟨trivial, seq_ok ?_⟩
  -- the person's row
  have e2 : ∀ ρ : Slt, ρ[4]? = some (some (.d (.int r.least))) → ρ[8]? = some (some (.d (.fl [.str (ow r.wait), .str (ow r.fur)]))) →
      eOp fAdd (eOp fAdd (eOp fAdd (eOp fAdd (eOp fAdd (eC (.str "person ")) (eCB fStr (aCons (eNm 4) aNil))) (eC (.str " "))) (eOp fIx (eNm 8) (eC (.int 0)))) (eC (.str " "))) (eOp fIx (eNm 8) (eC (.int 1))) ρ S2 = some (.d (.str ("person " ++ num r.least ++ " " ++ ow r.wait ++ " " ++ ow r.fur)), S2) := fun ρ h4 h8 => by
    have a4 : eNm 4 ρ S2 = some (.d (.int r.least), S2) := by unfold eNm; rw [h4]
    have a80 : eOp fIx (eNm 8) (eC (.int 0)) ρ S2 = some (.d (.str (ow r.wait)), S2) := ok.get (by simp [sNext, sIf, sBreak, sCont, sNever, sExpr, sRet, sRetO, sRetN, sSet, sAsg, gNm, gsNil, gsCons, gT, eD, eV, eBox, eNm, eC, eOp, eUn, aNil, aCons, eTup, eLst, eCB, bV, bAnd, bOr, bNot, eAnd, eOr, eNot, eIf, eChain, eCall, eFld, sFldS, sFldA, eMeth, eMake, bYes, fSub, fLt, fLe, fGt, fGe, fDiv, fMod, fPow, fNeg, fAdd, fMul, fIsN, fNotN, Yi.isNon, fEq, fNe, fIn, fInS, fIx, intR, oNo, oPart, fSl, eSl, eRev, sAppO, sExtO, sAug, oIx, oIn, oEq, sPar, sPar3, sSetIx, eDGet, eDIn, eDGet2, sDPutS, eDPop1, eDPop2, eDNewK, eDNewT, oDGet, oDIn, eBM, mApp, mExt, mPopAt, mIdx, cellL, iEv, iR1, iR2, iC, fLen, oLen, fMax, fMin, fAll, fAny, fSum, fSortI, fList, fTuple, fInt, fStr, fIsi, tyD, isLstD, isStrD, isDD, lstD, seqD, stD, eCallF, nAt, iSt, mJoin, mSplit, fAddI, sStar, iEnS, eSortSet, fSet, eLenSet, insAt, lkp, putD, ok_some, ok_none, ok_bind, ok_map, eq_int, eq_bl, sAsg, kb_NoneType_int, kb_NoneType_bool, kb_NoneType_str, kb_NoneType_tuple, kb_NoneType_list, kb_bool_int, kb_bool_bool, kb_bool_str, kb_bool_tuple, kb_bool_list, kb_int_int, kb_int_bool, kb_int_str, kb_int_tuple, kb_int_list, kb_str_int, kb_str_bool, kb_str_str, kb_str_tuple, kb_str_list, kb_tuple_int, kb_tuple_bool, kb_tuple_str, kb_tuple_tuple, kb_tuple_list, kb_list_int, kb_list_bool, kb_list_str, kb_list_tuple, kb_list_list, sz_0, sz_1, sz_2, sz_3, sz_4, sz_5, sz_6, sz_7, sz_8, sz_9, sz_10, sz_11, sz_12, sz_13, sz_14, sz_15, sz_16, ix_1_0, ix_2_0, ix_2_1, ix_3_0, ix_3_1, ix_3_2, ix_4_0, ix_4_1, ix_4_2, ix_4_3, ix_5_0, ix_5_1, ix_5_2, ix_5_3, ix_5_4, ix_6_0, ix_6_1, ix_6_2, ix_6_3, ix_6_4, ix_6_5, ix_7_0, ix_7_1, ix_7_2, ix_7_3, ix_7_4, ix_7_5, ix_7_6, sI_0, sI_1, sI_48271, sI_69621, h8, atI])
    have a81 : eOp fIx (eNm 8) (eC (.int 1)) ρ S2 = some (.d (.str (ow r.fur)), S2) := ok.get (by simp [sNext, sIf, sBreak, sCont, sNever, sExpr, sRet, sRetO, sRetN, sSet, sAsg, gNm, gsNil, gsCons, gT, eD, eV, eBox, eNm, eC, eOp, eUn, aNil, aCons, eTup, eLst, eCB, bV, bAnd, bOr, bNot, eAnd, eOr, eNot, eIf, eChain, eCall, eFld, sFldS, sFldA, eMeth, eMake, bYes, fSub, fLt, fLe, fGt, fGe, fDiv, fMod, fPow, fNeg, fAdd, fMul, fIsN, fNotN, Yi.isNon, fEq, fNe, fIn, fInS, fIx, intR, oNo, oPart, fSl, eSl, eRev, sAppO, sExtO, sAug, oIx, oIn, oEq, sPar, sPar3, sSetIx, eDGet, eDIn, eDGet2, sDPutS, eDPop1, eDPop2, eDNewK, eDNewT, oDGet, oDIn, eBM, mApp, mExt, mPopAt, mIdx, cellL, iEv, iR1, iR2, iC, fLen, oLen, fMax, fMin, fAll, fAny, fSum, fSortI, fList, fTuple, fInt, fStr, fIsi, tyD, isLstD, isStrD, isDD, lstD, seqD, stD, eCallF, nAt, iSt, mJoin, mSplit, fAddI, sStar, iEnS, eSortSet, fSet, eLenSet, insAt, lkp, putD, ok_some, ok_none, ok_bind, ok_map, eq_int, eq_bl, sAsg, kb_NoneType_int, kb_NoneType_bool, kb_NoneType_str, kb_NoneType_tuple, kb_NoneType_list, kb_bool_int, kb_bool_bool, kb_bool_str, kb_bool_tuple, kb_bool_list, kb_int_int, kb_int_bool, kb_int_str, kb_int_tuple, kb_int_list, kb_str_int, kb_str_bool, kb_str_str, kb_str_tuple, kb_str_list, kb_tuple_int, kb_tuple_bool, kb_tuple_str, kb_tuple_tuple, kb_tuple_list, kb_list_int, kb_list_bool, kb_list_str, kb_list_tuple, kb_list_list, sz_0, sz_1, sz_2, sz_3, sz_4, sz_5, sz_6, sz_7, sz_8, sz_9, sz_10, sz_11, sz_12, sz_13, sz_14, sz_15, sz_16, ix_1_0, ix_2_0, ix_2_1, ix_3_0, ix_3_1, ix_3_2, ix_4_0, ix_4_1, ix_4_2, ix_4_3, ix_5_0, ix_5_1, ix_5_2, ix_5_3, ix_5_4, ix_6_0, ix_6_1, ix_6_2, ix_6_3, ix_6_4, ix_6_5, ix_7_0, ix_7_1, ix_7_2, ix_7_3, ix_7_4, ix_7_5, ix_7_6, sI_0, sI_1, sI_48271, sI_69621, h8, atI])
    refine add_ok (add_ok (add_ok (add_ok (add_ok rfl (str_ok a4 g.l0 (by have := g.l4; omega)) ?_) rfl ?_) a80 ?_) rfl ?_) a81 ?_ <;> simp only [slen, l_person, l_sp] <;> omega
  have e3 := eD_some (e2 [some (.d (.tup (rs.map rD))), some (.d nd), some (.own (.lst (R.map .str))), some (.d (.tup (r.hs.map pD))), some (.d (.int r.least)), some (.d (.tup (r.gs.map pD))), some (.d (oD r.wait)), some (.d (oD r.fur)), some (.d (.fl [.str (ow r.wait), .str (ow r.fur)])), x9, x10, x11, x12, x13, x14] rfl rfl)
  have st : ∀ (R' : List Str), ok (sAppO 2 (eOp fAdd (eOp fAdd (eOp fAdd (eOp fAdd (eOp fAdd (eC (.str "person ")) (eCB fStr (aCons (eNm 4) aNil))) (eC (.str " "))) (eOp fIx (eNm 8) (eC (.int 0)))) (eC (.str " "))) (eOp fIx (eNm 8) (eC (.int 1)))) [some (.d (.tup (rs.map rD))), some (.d nd), some (.own (.lst (R.map .str))), some (.d (.tup (r.hs.map pD))), some (.d (.int r.least)), some (.d (.tup (r.gs.map pD))), some (.d (oD r.wait)), some (.d (oD r.fur)), some (.d (.fl [.str (ow r.wait), .str (ow r.fur)])), x9, x10, x11, x12, x13, x14] S2) fun p => p = (.nx, [some (.d (.tup (rs.map rD))), some (.d nd), some (.own (.lst (R.map .str ++ [.str ("person " ++ num r.least ++ " " ++ ow r.wait ++ " " ++ ow r.fur)]))), some (.d (.tup (r.hs.map pD))), some (.d (.int r.least)), some (.d (.tup (r.gs.map pD))), some (.d (oD r.wait)), some (.d (oD r.fur)), some (.d (.fl [.str (ow r.wait), .str (ow r.fur)])), x9, x10, x11, x12, x13, x14], S2) := fun _ => by
    unfold sAppO
    rw [e3, Option.bind_some]
    simp only [List.getElem?_cons_succ, List.getElem?_cons_zero, List.length_map, zR, if_true, ok_some, List.set_cons_succ, List.set_cons_zero]
  rw [ok_eq (st []).get]
  refine ⟨rfl, seq_ok ?_⟩
  -- hushed
  generalize hP : ("person " : Str) ++ num r.least ++ " " ++ ow r.wait ++ " " ++ ow r.fur = P
  have lR : (R.map D.str ++ [D.str P]).length ≤ 60 := by simp only [List.length_append, List.length_map, List.length_cons, List.length_nil]; omega
  have h1 := frz_ext (i := 2) (R.map D.str ++ [D.str P]) (r.hs.map (pT "hush ")) (ρ := [some (.d (.tup (rs.map rD))), some (.d nd), some (.own (.lst (R.map .str ++ [D.str P]))), some (.d (.tup (r.hs.map pD))), some (.d (.int r.least)), some (.d (.tup (r.gs.map pD))), some (.d (oD r.wait)), some (.d (oD r.fur)), some (.d (.fl [.str (ow r.wait), .str (ow r.fur)])), x9, x10, x11, x12, x13, x14]) rfl (by rw [List.length_map]; omega) (pair_lc (wd := "hush ") (a := 3) (i := 11) (j := 12) (ps := r.hs) (S := S2) (by rw [l_hush]; decide) (by decide) rfl (by simp) (by simp) (by omega) hq)
  refine (ok_eq h1).mpr ?_
  refine ⟨rfl, ?_⟩
  have lQ : (R.map D.str ++ [D.str P] ++ r.hs.map (pT "hush ")).length ≤ 70 := by simp only [List.length_append, List.length_map, List.length_cons, List.length_nil]; omega
  have h2 := frz_ext (i := 2) (R.map D.str ++ [D.str P] ++ r.hs.map (pT "hush ")) (r.gs.map (pT "gather ")) (ρ := [some (.d (.tup (rs.map rD))), some (.d nd), some (.own (.lst (R.map .str ++ [D.str P] ++ r.hs.map (pT "hush ")))), some (.d (.tup (r.hs.map pD))), some (.d (.int r.least)), some (.d (.tup (r.gs.map pD))), some (.d (oD r.wait)), some (.d (oD r.fur)), some (.d (.fl [.str (ow r.wait), .str (ow r.fur)])), x9, x10, x11, x12, x13, x14]) rfl (by rw [List.length_map]; omega) (pair_lc (wd := "gather ") (a := 5) (i := 13) (j := 14) (ps := r.gs) (S := S2) (by rw [l_gather]; decide) (by decide) rfl (by simp) (by simp) (by omega) gq)
  refine (ok_eq h2).mpr ?_
  refine ⟨rfl, rfl, some (.d (.tup (r.hs.map pD))), some (.d (.int r.least)), some (.d (.tup (r.gs.map pD))), some (.d (oD r.wait)), some (.d (oD r.fur)), some (.d (.fl [.str (ow r.wait), .str (ow r.fur)])), x9, x10, x11, x12, x13, x14, ?_⟩
  rw [take_flat hr, hR, rowsT_eq, hP]
  simp only [List.map_append, List.map_cons, List.map_map, List.append_assoc, List.set_cons_succ, List.set_cons_zero, List.cons_append, List.nil_append]
  rfl
end Wk
namespace Wk
open PySem L2 Yi TL
theorem sum_le {c : Nat} : ∀ {l : List Nat}, (∀ x ∈ l, x ≤ c) → l.sum ≤ l.length * c
  | [], _ => by simp
  | x :: r, h => by
    have h1 := h x (by simp)
    have h2 := sum_le (l := r) fun y hy => h y (by simp [hy])
    simp only [List.sum_cons, List.length_cons, Nat.add_mul]
    omega
theorem mJoin_eq {x : Str} {y : D} {ys : List Str} {S : Sto} (hy : seqD y S = some (ys.map .str)) (hl : ys.length ≤ 1000) (hs : ∀ z ∈ ys, z.length ≤ 1000) (hx : x.length ≤ 10) : mJoin (.str x) [y] S = some (.d (.str (Txt.join x ys)), S) := by
  have h1 : (ys.map (·.length)).sum ≤ (ys.map (·.length)).length * 1000 := sum_le fun n hn => by
    obtain ⟨z, hz, rfl⟩ := List.mem_map.mp hn
    exact hs z hz
  rw [List.length_map] at h1
  have h2 : ys.length * x.length ≤ 1000 * 10 := Nat.mul_le_mul hl hx
  show ((seqD y S).bind fun ds => (strsD ds).bind fun ys => if (ys.map (·.length)).sum + ys.length * x.length ≤ 16000000 then some (VV.d (D.str (Txt.join x ys)), S) else none) = _
  rw [hy, Option.bind_some, strsD_map, Option.bind_some, if_pos (by omega)]
theorem join_ok {a : EM} {ρ : Slt} {S : Sto} {x : Str} {y : D} {ys : List Str} (ha : eD a ρ S = some (y, S)) (hy : seqD y S = some (ys.map .str)) (hl : ys.length ≤ 1000) (hs : ∀ z ∈ ys, z.length ≤ 1000) (hx : x.length ≤ 10) :
    eBM isStrD mJoin (eC (.str x)) (aCons a aNil) ρ S = some (.d (.str (Txt.join x ys)), S) := by
  have e := mJoin_eq (x := x) hy hl hs hx
  unfold eBM
  simp only [eD_some (show eC (.str x) ρ S = some (.d (.str x), S) from rfl), Option.bind_some, isStrD, if_true, aCons, ha, aNil, Option.map_some, e]
theorem nD_nums (n : Nt) : nD n = .tup ([n.person, n.rank, n.kind, n.born].map .int) := rfl
theorem strs_lc {ks : List Int} {a j : Nat} {ρ : Slt} {S : Sto} (ha : ρ[a]? = some (some (.d (.tup (ks.map .int))))) (hj : j < ρ.length) (hl : ks.length ≤ 100) (hk : ∀ k ∈ ks, 0 ≤ k ∧ k ≤ 999) :
    eLc (iEv (eNm a)) (gNm j) bYes (eCB fStr (aCons (eNm j) aNil)) [j] ρ S = some (.own (.lst ((ks.map num).map .str)), S) := by
  have i3 : iEv (eNm a) ρ S = some (ks.map .int, S) := by simp [iEv, eD, eNm, ha, stD]
  refine lc_eq i3 ?_
  rw [compL_map (fun d => match d with | .int k => .str (num k) | _ => .non) _ [] (by simp; omega) ?_]
  · simp [Function.comp_def]
  · intro d hd
    obtain ⟨k, hm, rfl⟩ := List.mem_map.mp hd
    refine ⟨(wipeS ρ [j]).set j (some (.d (.int k))), rfl, rfl, eD_some (str_ok ?_ (hk k hm).1 (hk k hm).2)⟩
    unfold eNm
    rw [List.getElem?_set_self (by rw [wipeS_len]; exact hj)]
theorem turn_le : ∀ {ns : List Nt} {lo : Int}, 0 ≤ lo → Turn lo ns → ∀ n ∈ ns, 0 ≤ n.born ∧ n.born ≤ 300
  | [], _, _, _, n, h => by simp at h
  | m :: r, lo, h0, t, n, h => by
    obtain ⟨a, b, c⟩ := t
    rcases List.mem_cons.mp h with q | q
    · rw [q]; omega
    · exact turn_le (by omega) c n q
structure GoodNs (ns : List Nt) (many : Nat) : Prop where
  l : ns.length ≤ 30
  g : ∀ n ∈ ns, n.Good many
  t : Turn 0 ns
theorem GoodNs.nums {ns : List Nt} {many : Nat} (h : GoodNs ns many) (hm : many ≤ 6) {n : Nt} (hn : n ∈ ns) : ∀ k ∈ [n.person, n.rank, n.kind, n.born], 0 ≤ k ∧ k ≤ 999 := by
  have g := h.g n hn
  have b := turn_le (Int.le_refl 0) h.t n hn
  have := g.p0; have := g.p1; have := g.r0; have := g.r1; have := g.k0; have := g.k1
  intro k hk
  simp at hk
  rcases hk with rfl | rfl | rfl | rfl <;> omega
def nT (n : Nt) : Str := "notice " ++ Txt.join " " ([n.person, n.rank, n.kind, n.born].map num)
theorem nT_eq (n : Nt) : nT n = line (rowN n) := by
  unfold nT rowN
  rw [line4, notice_sp]
  have e : Txt.join " " ([n.person, n.rank, n.kind, n.born].map num) = line [num n.person, num n.rank, num n.kind, num n.born] := rfl
  rw [e, line3]
theorem notices_lc {ns : List Nt} {many a i j : Nat} {ρ : Slt} {S : Sto} (h : GoodNs ns many) (hm : many ≤ 6) (ha : ρ[a]? = some (some (.d (.fl (ns.map nD))))) (hi : i < ρ.length) (hj : j < ρ.length) (hij : i ≠ j) :
    eLc (iEv (eNm a)) (gNm i) bYes (eOp fAdd (eC (.str "notice ")) (eBM isStrD mJoin (eC (.str " ")) (aCons (eLc (iEv (eNm i)) (gNm j) bYes (eCB fStr (aCons (eNm j) aNil)) [j]) aNil))) [i] ρ S = some (.own (.lst ((ns.map nT).map .str)), S) := by
  have i3 : iEv (eNm a) ρ S = some (ns.map nD, S) := by simp [iEv, eD, eNm, ha, stD]
  have l30 := h.l
  refine lc_eq i3 ?_
  rw [compL_map (fun d => match d with | .tup [.int a, .int b, .int c, .int d] => .str (nT ⟨a, b, c, d⟩) | _ => .non) _ [] (by simp; omega) ?_]
  · simp [Function.comp_def, nD]
  · intro d hd
    obtain ⟨n, hn, rfl⟩ := List.mem_map.mp hd
    refine ⟨(wipeS ρ [i]).set i (some (.d (nD n))), rfl, rfl, ?_⟩
    have nn := h.nums hm hn
    have g := strs_lc (ks := [n.person, n.rank, n.kind, n.born]) (a := i) (j := j) (S := S) (ρ := (wipeS ρ [i]).set i (some (.d (nD n)))) (by rw [List.getElem?_set_self (by rw [wipeS_len]; exact hi)]; rfl) (by rw [List.length_set, wipeS_len]; exact hj) (by simp) nn
    have g2 : eD (eLc (iEv (eNm i)) (gNm j) bYes (eCB fStr (aCons (eNm j) aNil)) [j]) ((wipeS ρ [i]).set i (some (.d (nD n)))) S = some (.fl (([n.person, n.rank, n.kind, n.born].map num).map .str), S) := by unfold eD; rw [g]; rfl
    have hs : ∀ z ∈ [n.person, n.rank, n.kind, n.born].map num, z.length ≤ 3 := fun z hz => by
      obtain ⟨k, hk, rfl⟩ := List.mem_map.mp hz
      exact num_len (nn k hk).1 (nn k hk).2
    have j1 := join_ok (x := " ") g2 rfl (by simp) (fun z hz => by have := hs z hz; omega) (by rw [l_sp]; decide)
    have lj : (Txt.join " " ([n.person, n.rank, n.kind, n.born].map num)).length ≤ 100 := by
      show (line [num n.person, num n.rank, num n.kind, num n.born]).length ≤ 100
      rw [line3]
      simp only [slen, l_sp]
      have a1 := hs (num n.person) (by simp)
      have a2 := hs (num n.rank) (by simp)
      have a3 := hs (num n.kind) (by simp)
      have a4 := hs (num n.born) (by simp)
      omega
    exact eD_some (add_ok rfl j1 (by rw [l_notice]; show 7 + (Txt.join " " ([n.person, n.rank, n.kind, n.born].map num)).length ≤ 1000000; omega))
theorem rowT_len {r : Rl} {m : Nat} (g : r.Good m) (m6 : m ≤ 6) : ∀ z ∈ rowsT r, z.length ≤ 100 := by
  have hw : ∀ i, r.wait = some i → 0 ≤ i ∧ i ≤ 999 := fun i e => by have := g.w i e; omega
  have hf : ∀ i, r.fur = some i → 0 ≤ i ∧ i ≤ 999 := fun i e => by have := g.f i e; omega
  have l0 := num_len g.l0 (by have := g.l4; omega)
  have l1 := ow_len hw
  have l2 := ow_len hf
  intro z hz
  rw [rowsT_eq] at hz
  rcases List.mem_cons.mp hz with q | q
  · rw [q]
    simp only [slen, l_person, l_sp]
    omega
  · rcases List.mem_append.mp q with q | q
    · obtain ⟨p, hp, rfl⟩ := List.mem_map.mp q
      have := g.hh p hp
      have a := num_len (i := p.1) (by omega) (by omega)
      have b := num_len (i := p.2) (by omega) (by omega)
      simp only [slen, l_hush, l_sp]
      omega
    · obtain ⟨p, hp, rfl⟩ := List.mem_map.mp q
      have := g.gk p hp
      have a := num_len (i := p.1) (by omega) (by omega)
      have b := num_len (i := p.2) (by omega) (by omega)
      simp only [slen, l_gather, l_sp]
      omega
theorem nT_len {ns : List Nt} {many : Nat} (h : GoodNs ns many) (hm : many ≤ 6) {n : Nt} (hn : n ∈ ns) : (nT n).length ≤ 100 := by
  have nn := h.nums hm hn
  have hs : ∀ k ∈ [n.person, n.rank, n.kind, n.born], (num k).length ≤ 3 := fun k hk => num_len (nn k hk).1 (nn k hk).2
  have a1 := hs n.person (by simp)
  have a2 := hs n.rank (by simp)
  have a3 := hs n.kind (by simp)
  have a4 := hs n.born (by simp)
  rw [nT_eq]
  unfold rowN
  rw [line4]
  simp only [slen, l_sp]
  have : ("notice" : Str).length = 6 := by decide +kernel
  omega
theorem txt_eq (rs : List Rl) (ns : List Nt) : txt rs ns = Txt.join "\n" (rs.flatMap rowsT ++ ns.map nT) := by
  unfold txt allR
  have e : (rs.flatMap rowsR).map line = rs.flatMap rowsT := by
    rw [List.map_flatMap]
    rfl
  have e2 : (ns.map rowN).map line = ns.map nT := by
    rw [List.map_map]
    exact List.map_congr_left fun n _ => (nT_eq n).symm
  rw [List.map_append, e, e2]
theorem law_text_ok {rs : List Rl} {ns : List Nt} {S : Sto} (h : GoodRs rs) (hn : GoodNs ns rs.length) : d_law_text [.tup (rs.map rD), .fl (ns.map nD)] S = some (.d (.str (txt rs ns)), S) := by
  have l6 := h.l6
  have l30 := hn.l
  have fl := flat_len fun r hr => ⟨_, h.g r hr⟩
  refine ok.get (den_ok rfl (seq_ok ?_))
  refine (ok_eq (show sSet 2 (eLst aNil) ([D.tup (rs.map rD), D.fl (ns.map nD)].map (fun d => some (VV.d d)) ++ List.replicate (15 - 2) none) S = some (.nx, [some (.d (.tup (rs.map rD))), some (.d (.fl (ns.map nD))), some (.own (.lst [])), none, none, none, none, none, none, none, none, none, none, none, none], S) from rfl)).mpr ?_
  refine ⟨rfl, seq_ok (for_ok ?_)⟩
  refine (ok_eq (show iEv (eNm 0) [some (.d (.tup (rs.map rD))), some (.d (.fl (ns.map nD))), some (.own (.lst [])), none, none, none, none, none, none, none, none, none, none, none, none] S = some (rs.map rD, S) from rfl)).mpr ?_
  refine (forL_ok (InvT S rs (.fl (ns.map nD))) (rs.map rD) 0 ⟨rfl, none, none, none, none, none, none, none, none, none, none, none, none, rfl⟩ ?_).mono ?_
  · intro i d hd ρ S2 hp
    rw [List.getElem?_map] at hd
    obtain ⟨r, hr, rfl⟩ := Option.map_eq_some_iff.mp hd
    rw [Nat.zero_add] at hp ⊢
    exact law_text_1 h i r hr ρ S2 hp
  · rintro ⟨f, ρ, S2⟩ ⟨e, rfl, x3, x4, x5, x6, x7, x8, x9, x10, x11, x12, x13, x14, e2⟩
    dsimp only at e e2
    subst e e2
    rw [Nat.zero_add, List.length_map, List.take_length]
    generalize hR : rs.flatMap rowsT = R at fl
    refine ⟨rfl, seq_ok ?_⟩
    have h1 := frz_ext (i := 2) (R.map D.str) ((ns.map nT).map D.str) (ρ := [some (.d (.tup (rs.map rD))), some (.d (.fl (ns.map nD))), some (.own (.lst (R.map .str))), x3, x4, x5, x6, x7, x8, x9, x10, x11, x12, x13, x14]) (S := S2) rfl (by simp only [List.length_map]; omega)
      (notices_lc (a := 1) (i := 10) (j := 9) hn l6 rfl (by simp) (by simp) (by decide))
    refine (ok_eq h1).mpr ⟨rfl, ?_⟩
    have hs : ∀ z ∈ R ++ ns.map nT, z.length ≤ 1000 := fun z hz => by
      rcases List.mem_append.mp hz with q | q
      · rw [← hR] at q
        obtain ⟨r, hr, hz⟩ := List.mem_flatMap.mp q
        have := rowT_len (h.g r hr) l6 z hz
        omega
      · obtain ⟨n, hm, rfl⟩ := List.mem_map.mp q
        have := nT_len hn l6 hm
        omega
    have j := join_ok (x := "\n") (a := eNm 2) (ρ := [some (.d (.tup (rs.map rD))), some (.d (.fl (ns.map nD))), some (.d (.fl (R.map .str ++ (ns.map nT).map .str))), x3, x4, x5, x6, x7, x8, x9, x10, x11, x12, x13, x14]) (S := S2) (y := .fl (R.map .str ++ (ns.map nT).map .str)) (ys := R ++ ns.map nT) rfl (by rw [List.map_append]; rfl) (by simp only [List.length_append, List.length_map]; omega) hs (by rw [l_nl]; decide)
    have e3 : txt rs ns = Txt.join "\n" (R ++ ns.map nT) := by rw [txt_eq, hR]
    rw [e3]
    show ok (sFrz 2 (sRet (eBM isStrD mJoin (eC (.str "\n")) (aCons (eNm 2) aNil))) [some (.d (.tup (rs.map rD))), some (.d (.fl (ns.map nD))), some (.own (.lst (R.map .str ++ (ns.map nT).map .str))), x3, x4, x5, x6, x7, x8, x9, x10, x11, x12, x13, x14] S2) _
    unfold sFrz sRet
    show ok (Option.map _ (eBM isStrD mJoin (eC (.str "\n")) (aCons (eNm 2) aNil) [some (.d (.tup (rs.map rD))), some (.d (.fl (ns.map nD))), some (.d (.fl (R.map .str ++ (ns.map nT).map .str))), x3, x4, x5, x6, x7, x8, x9, x10, x11, x12, x13, x14] S2)) _
    rw [j]
    exact ⟨_, rfl, rfl⟩
end Wk
namespace Wk
open PySem L2 Yi TL
theorem word_of_ok {o : Option Int} {S : Sto} (h : ∀ i, o = some i → 0 ≤ i ∧ i ≤ 999) : d_word_of [oD o] S = some (.d (.str (ow o)), S) := by
  refine ok.get (den_ok rfl ?_)
  cases o with
  | none => simp [m_word_of, oD, ow, sNext, sIf, sBreak, sCont, sNever, sExpr, sRet, sRetO, sRetN, sSet, sAsg, gNm, gsNil, gsCons, gT, eD, eV, eBox, eNm, eC, eOp, eUn, aNil, aCons, eTup, eLst, eCB, bV, bAnd, bOr, bNot, eAnd, eOr, eNot, eIf, eChain, eCall, eFld, sFldS, sFldA, eMeth, eMake, bYes, fSub, fLt, fLe, fGt, fGe, fDiv, fMod, fPow, fNeg, fAdd, fMul, fIsN, fNotN, Yi.isNon, fEq, fNe, fIn, fInS, fIx, intR, oNo, oPart, fSl, eSl, eRev, sAppO, sExtO, sAug, oIx, oIn, oEq, sPar, sPar3, sSetIx, eDGet, eDIn, eDGet2, sDPutS, eDPop1, eDPop2, eDNewK, eDNewT, oDGet, oDIn, eBM, mApp, mExt, mPopAt, mIdx, cellL, iEv, iR1, iR2, iC, fLen, oLen, fMax, fMin, fAll, fAny, fSum, fSortI, fList, fTuple, fInt, fStr, fIsi, tyD, isLstD, isStrD, isDD, lstD, seqD, stD, eCallF, nAt, iSt, mJoin, mSplit, fAddI, sStar, iEnS, eSortSet, fSet, eLenSet, insAt, lkp, putD, ok_some, ok_none, ok_bind, ok_map, eq_int, eq_bl, sAsg, kb_NoneType_int, kb_NoneType_bool, kb_NoneType_str, kb_NoneType_tuple, kb_NoneType_list, kb_bool_int, kb_bool_bool, kb_bool_str, kb_bool_tuple, kb_bool_list, kb_int_int, kb_int_bool, kb_int_str, kb_int_tuple, kb_int_list, kb_str_int, kb_str_bool, kb_str_str, kb_str_tuple, kb_str_list, kb_tuple_int, kb_tuple_bool, kb_tuple_str, kb_tuple_tuple, kb_tuple_list, kb_list_int, kb_list_bool, kb_list_str, kb_list_tuple, kb_list_list, sz_0, sz_1, sz_2, sz_3, sz_4, sz_5, sz_6, sz_7, sz_8, sz_9, sz_10, sz_11, sz_12, sz_13, sz_14, sz_15, sz_16, ix_1_0, ix_2_0, ix_2_1, ix_3_0, ix_3_1, ix_3_2, ix_4_0, ix_4_1, ix_4_2, ix_4_3, ix_5_0, ix_5_1, ix_5_2, ix_5_3, ix_5_4, ix_6_0, ix_6_1, ix_6_2, ix_6_3, ix_6_4, ix_6_5, ix_7_0, ix_7_1, ix_7_2, ix_7_3, ix_7_4, ix_7_5, ix_7_6, sI_0, sI_1, sI_48271, sI_69621]
  | some i =>
    have e := num_str (S := S) (h i rfl).1 (h i rfl).2
    simp [m_word_of, oD, ow, sNext, sIf, sBreak, sCont, sNever, sExpr, sRet, sRetO, sRetN, sSet, sAsg, gNm, gsNil, gsCons, gT, eD, eV, eBox, eNm, eC, eOp, eUn, aNil, aCons, eTup, eLst, eCB, bV, bAnd, bOr, bNot, eAnd, eOr, eNot, eIf, eChain, eCall, eFld, sFldS, sFldA, eMeth, eMake, bYes, fSub, fLt, fLe, fGt, fGe, fDiv, fMod, fPow, fNeg, fAdd, fMul, fIsN, fNotN, Yi.isNon, fEq, fNe, fIn, fInS, fIx, intR, oNo, oPart, fSl, eSl, eRev, sAppO, sExtO, sAug, oIx, oIn, oEq, sPar, sPar3, sSetIx, eDGet, eDIn, eDGet2, sDPutS, eDPop1, eDPop2, eDNewK, eDNewT, oDGet, oDIn, eBM, mApp, mExt, mPopAt, mIdx, cellL, iEv, iR1, iR2, iC, fLen, oLen, fMax, fMin, fAll, fAny, fSum, fSortI, fList, fTuple, fInt, fIsi, tyD, isLstD, isStrD, isDD, lstD, seqD, stD, eCallF, nAt, iSt, mJoin, mSplit, fAddI, sStar, iEnS, eSortSet, fSet, eLenSet, insAt, lkp, putD, ok_some, ok_none, ok_bind, ok_map, eq_int, eq_bl, sAsg, kb_NoneType_int, kb_NoneType_bool, kb_NoneType_str, kb_NoneType_tuple, kb_NoneType_list, kb_bool_int, kb_bool_bool, kb_bool_str, kb_bool_tuple, kb_bool_list, kb_int_int, kb_int_bool, kb_int_str, kb_int_tuple, kb_int_list, kb_str_int, kb_str_bool, kb_str_str, kb_str_tuple, kb_str_list, kb_tuple_int, kb_tuple_bool, kb_tuple_str, kb_tuple_tuple, kb_tuple_list, kb_list_int, kb_list_bool, kb_list_str, kb_list_tuple, kb_list_list, sz_0, sz_1, sz_2, sz_3, sz_4, sz_5, sz_6, sz_7, sz_8, sz_9, sz_10, sz_11, sz_12, sz_13, sz_14, sz_15, sz_16, ix_1_0, ix_2_0, ix_2_1, ix_3_0, ix_3_1, ix_3_2, ix_4_0, ix_4_1, ix_4_2, ix_4_3, ix_5_0, ix_5_1, ix_5_2, ix_5_3, ix_5_4, ix_6_0, ix_6_1, ix_6_2, ix_6_3, ix_6_4, ix_6_5, ix_7_0, ix_7_1, ix_7_2, ix_7_3, ix_7_4, ix_7_5, ix_7_6, sI_0, sI_1, sI_48271, sI_69621, e]
/-- a row as the program holds it: its word, its parts -/
def rowW (q : Str × List (Option Int)) : D := .fl (.str q.1 :: q.2.map oD)
def rowL (q : Str × List (Option Int)) : Str := line (q.1 :: q.2.map ow)
def rowsO (r : Rl) : List (Str × List (Option Int)) := ("person", [some r.least, r.wait, r.fur]) :: (r.hs.map (fun p => (("hush" : Str), [some p.1, some p.2])) ++ r.gs.map (fun p => (("gather" : Str), [some p.1, some p.2])))
def rowO (n : Nt) : Str × List (Option Int) := ("notice", [some n.person, some n.rank, some n.kind, some n.born])
structure RowOk (q : Str × List (Option Int)) : Prop where
  w : q.1.length ≤ 6
  l : q.2.length ≤ 4
  n : ∀ o ∈ q.2, ∀ i, o = some i → 0 ≤ i ∧ i ≤ 999
theorem rowsO_L (r : Rl) : (rowsO r).map rowL = rowsT r := by
  unfold rowsO rowsT rowsR rowL
  simp only [List.map_cons, List.map_append, List.map_map, Function.comp_def, List.map_nil, ow]
theorem rowO_L (n : Nt) : rowL (rowO n) = nT n := by rw [nT_eq]; rfl
theorem rowsO_ok {r : Rl} {m : Nat} (g : r.Good m) (m6 : m ≤ 6) : ∀ q ∈ rowsO r, RowOk q := by
  intro q hq
  unfold rowsO at hq
  rcases List.mem_cons.mp hq with e | hq
  · subst e
    refine ⟨by show ("person" : Str).length ≤ 6; decide +kernel, by simp, fun o ho i e => ?_⟩
    subst e
    simp at ho
    rcases ho with rfl | e | e
    · have := g.l0; have := g.l4; omega
    · have := g.w i e.symm; omega
    · have := g.f i e.symm; omega
  · rcases List.mem_append.mp hq with hq | hq
    · obtain ⟨p, hp, rfl⟩ := List.mem_map.mp hq
      have := g.hh p hp
      refine ⟨by show ("hush" : Str).length ≤ 6; decide +kernel, by simp, fun o ho i e => ?_⟩
      subst e
      simp at ho
      rcases ho with rfl | rfl <;> omega
    · obtain ⟨p, hp, rfl⟩ := List.mem_map.mp hq
      have := g.gk p hp
      refine ⟨by show ("gather" : Str).length ≤ 6; decide +kernel, by simp, fun o ho i e => ?_⟩
      subst e
      simp at ho
      rcases ho with rfl | rfl <;> omega
theorem rowO_ok {ns : List Nt} {many : Nat} (h : GoodNs ns many) (hm : many ≤ 6) {n : Nt} (hn : n ∈ ns) : RowOk (rowO n) := by
  have nn := h.nums hm hn
  refine ⟨by show ("notice" : Str).length ≤ 6; decide +kernel, by simp [rowO], fun o ho i e => ?_⟩
  subst e
  simp [rowO] at ho
  exact nn i (by simpa using ho)
theorem row_ok {q : Str × List (Option Int)} {ρ : Slt} {S : Sto} (h : RowOk q) (h9 : ρ[9]? = some (some (.d (rowW q)))) (h14 : 14 < ρ.length) :
    eBM isStrD mJoin (eC (.str " ")) (aCons (eOp fAdd (eLst (aCons (eOp fIx (eNm 9) (eC (.int 0))) aNil)) (eLc (iEv (eSl (eNm 9) (oPart (eC (.int 1))) oNo)) (gNm 14) bYes (eCall d_word_of (aCons (eNm 14) aNil) []) [14])) aNil) ρ S = some (.d (.str (rowL q)), S) := by
  have l4 := h.l
  have w6 := h.w
  have c1 : cutL (D.str q.1 :: q.2.map oD) (some 1) none = q.2.map oD := by
    have e : HT.sIx (D.str q.1 :: q.2.map oD).length 0 (some 1) = 1 := by simp [HT.sIx]
    unfold cutL
    rw [e]
    simp [HT.sIx]
    exact List.take_of_length_le (by simp)
  have i3 : iEv (eSl (eNm 9) (oPart (eC (.int 1))) oNo) ρ S = some (q.2.map oD, S) := by
    refine ok.get ?_
    simp [sNext, sIf, sBreak, sCont, sNever, sExpr, sRet, sRetO, sRetN, sSet, sAsg, gNm, gsNil, gsCons, gT, eD, eV, eBox, eNm, eC, eOp, eUn, aNil, aCons, eTup, eLst, eCB, bV, bAnd, bOr, bNot, eAnd, eOr, eNot, eIf, eChain, eCall, eFld, sFldS, sFldA, eMeth, eMake, bYes, fSub, fLt, fLe, fGt, fGe, fDiv, fMod, fPow, fNeg, fAdd, fMul, fIsN, fNotN, Yi.isNon, fEq, fNe, fIn, fInS, fIx, intR, oNo, oPart, fSl, eSl, eRev, sAppO, sExtO, sAug, oIx, oIn, oEq, sPar, sPar3, sSetIx, eDGet, eDIn, eDGet2, sDPutS, eDPop1, eDPop2, eDNewK, eDNewT, oDGet, oDIn, eBM, mApp, mExt, mPopAt, mIdx, cellL, iEv, iR1, iR2, iC, fLen, oLen, fMax, fMin, fAll, fAny, fSum, fSortI, fList, fTuple, fInt, fStr, fIsi, tyD, isLstD, isStrD, isDD, lstD, seqD, stD, eCallF, nAt, iSt, mJoin, mSplit, fAddI, sStar, iEnS, eSortSet, fSet, eLenSet, insAt, lkp, putD, ok_some, ok_none, ok_bind, ok_map, eq_int, eq_bl, sAsg, kb_NoneType_int, kb_NoneType_bool, kb_NoneType_str, kb_NoneType_tuple, kb_NoneType_list, kb_bool_int, kb_bool_bool, kb_bool_str, kb_bool_tuple, kb_bool_list, kb_int_int, kb_int_bool, kb_int_str, kb_int_tuple, kb_int_list, kb_str_int, kb_str_bool, kb_str_str, kb_str_tuple, kb_str_list, kb_tuple_int, kb_tuple_bool, kb_tuple_str, kb_tuple_tuple, kb_tuple_list, kb_list_int, kb_list_bool, kb_list_str, kb_list_tuple, kb_list_list, sz_0, sz_1, sz_2, sz_3, sz_4, sz_5, sz_6, sz_7, sz_8, sz_9, sz_10, sz_11, sz_12, sz_13, sz_14, sz_15, sz_16, ix_1_0, ix_2_0, ix_2_1, ix_3_0, ix_3_1, ix_3_2, ix_4_0, ix_4_1, ix_4_2, ix_4_3, ix_5_0, ix_5_1, ix_5_2, ix_5_3, ix_5_4, ix_6_0, ix_6_1, ix_6_2, ix_6_3, ix_6_4, ix_6_5, ix_7_0, ix_7_1, ix_7_2, ix_7_3, ix_7_4, ix_7_5, ix_7_6, sI_0, sI_1, sI_48271, sI_69621, h9, rowW, c1]
  have e1 : eLc (iEv (eSl (eNm 9) (oPart (eC (.int 1))) oNo)) (gNm 14) bYes (eCall d_word_of (aCons (eNm 14) aNil) []) [14] ρ S = some (.own (.lst ((q.2.map ow).map .str)), S) := by
    refine lc_eq i3 ?_
    rw [compL_map (fun d => match d with | .int k => .str (num k) | _ => .str "-") _ [] (by simp; omega) ?_]
    · have : (q.2.map oD).map (fun d => match d with | D.int k => D.str (num k) | _ => .str "-") = (q.2.map ow).map .str := by
        rw [List.map_map, List.map_map]
        refine List.map_congr_left fun o _ => ?_
        cases o <;> rfl
      rw [this, List.nil_append]
    · intro d hd
      obtain ⟨o, ho, rfl⟩ := List.mem_map.mp hd
      refine ⟨(wipeS ρ [14]).set 14 (some (.d (oD o))), rfl, rfl, ?_⟩
      have e := word_of_ok (S := S) (h.n o ho)
      have g : ((wipeS ρ [14]).set 14 (some (.d (oD o))))[14]? = some (some (.d (oD o))) := List.getElem?_set_self (by rw [wipeS_len]; exact h14)
      have e2 : oD o = oD o := rfl
      refine ok.get ?_
      cases o with
      | none => simp only [oD, ow] at e g ⊢; simp [sNext, sIf, sBreak, sCont, sNever, sExpr, sRet, sRetO, sRetN, sSet, sAsg, gNm, gsNil, gsCons, gT, eD, eV, eBox, eNm, eC, eOp, eUn, aNil, aCons, eTup, eLst, eCB, bV, bAnd, bOr, bNot, eAnd, eOr, eNot, eIf, eChain, eCall, eFld, sFldS, sFldA, eMeth, eMake, bYes, fSub, fLt, fLe, fGt, fGe, fDiv, fMod, fPow, fNeg, fAdd, fMul, fIsN, fNotN, Yi.isNon, fEq, fNe, fIn, fInS, fIx, intR, oNo, oPart, fSl, eSl, eRev, sAppO, sExtO, sAug, oIx, oIn, oEq, sPar, sPar3, sSetIx, eDGet, eDIn, eDGet2, sDPutS, eDPop1, eDPop2, eDNewK, eDNewT, oDGet, oDIn, eBM, mApp, mExt, mPopAt, mIdx, cellL, iEv, iR1, iR2, iC, fLen, oLen, fMax, fMin, fAll, fAny, fSum, fSortI, fList, fTuple, fInt, fStr, fIsi, tyD, isLstD, isStrD, isDD, lstD, seqD, stD, eCallF, nAt, iSt, mJoin, mSplit, fAddI, sStar, iEnS, eSortSet, fSet, eLenSet, insAt, lkp, putD, ok_some, ok_none, ok_bind, ok_map, eq_int, eq_bl, sAsg, kb_NoneType_int, kb_NoneType_bool, kb_NoneType_str, kb_NoneType_tuple, kb_NoneType_list, kb_bool_int, kb_bool_bool, kb_bool_str, kb_bool_tuple, kb_bool_list, kb_int_int, kb_int_bool, kb_int_str, kb_int_tuple, kb_int_list, kb_str_int, kb_str_bool, kb_str_str, kb_str_tuple, kb_str_list, kb_tuple_int, kb_tuple_bool, kb_tuple_str, kb_tuple_tuple, kb_tuple_list, kb_list_int, kb_list_bool, kb_list_str, kb_list_tuple, kb_list_list, sz_0, sz_1, sz_2, sz_3, sz_4, sz_5, sz_6, sz_7, sz_8, sz_9, sz_10, sz_11, sz_12, sz_13, sz_14, sz_15, sz_16, ix_1_0, ix_2_0, ix_2_1, ix_3_0, ix_3_1, ix_3_2, ix_4_0, ix_4_1, ix_4_2, ix_4_3, ix_5_0, ix_5_1, ix_5_2, ix_5_3, ix_5_4, ix_6_0, ix_6_1, ix_6_2, ix_6_3, ix_6_4, ix_6_5, ix_7_0, ix_7_1, ix_7_2, ix_7_3, ix_7_4, ix_7_5, ix_7_6, sI_0, sI_1, sI_48271, sI_69621, g, e]
      | some k => simp only [oD, ow] at e g ⊢; simp [sNext, sIf, sBreak, sCont, sNever, sExpr, sRet, sRetO, sRetN, sSet, sAsg, gNm, gsNil, gsCons, gT, eD, eV, eBox, eNm, eC, eOp, eUn, aNil, aCons, eTup, eLst, eCB, bV, bAnd, bOr, bNot, eAnd, eOr, eNot, eIf, eChain, eCall, eFld, sFldS, sFldA, eMeth, eMake, bYes, fSub, fLt, fLe, fGt, fGe, fDiv, fMod, fPow, fNeg, fAdd, fMul, fIsN, fNotN, Yi.isNon, fEq, fNe, fIn, fInS, fIx, intR, oNo, oPart, fSl, eSl, eRev, sAppO, sExtO, sAug, oIx, oIn, oEq, sPar, sPar3, sSetIx, eDGet, eDIn, eDGet2, sDPutS, eDPop1, eDPop2, eDNewK, eDNewT, oDGet, oDIn, eBM, mApp, mExt, mPopAt, mIdx, cellL, iEv, iR1, iR2, iC, fLen, oLen, fMax, fMin, fAll, fAny, fSum, fSortI, fList, fTuple, fInt, fStr, fIsi, tyD, isLstD, isStrD, isDD, lstD, seqD, stD, eCallF, nAt, iSt, mJoin, mSplit, fAddI, sStar, iEnS, eSortSet, fSet, eLenSet, insAt, lkp, putD, ok_some, ok_none, ok_bind, ok_map, eq_int, eq_bl, sAsg, kb_NoneType_int, kb_NoneType_bool, kb_NoneType_str, kb_NoneType_tuple, kb_NoneType_list, kb_bool_int, kb_bool_bool, kb_bool_str, kb_bool_tuple, kb_bool_list, kb_int_int, kb_int_bool, kb_int_str, kb_int_tuple, kb_int_list, kb_str_int, kb_str_bool, kb_str_str, kb_str_tuple, kb_str_list, kb_tuple_int, kb_tuple_bool, kb_tuple_str, kb_tuple_tuple, kb_tuple_list, kb_list_int, kb_list_bool, kb_list_str, kb_list_tuple, kb_list_list, sz_0, sz_1, sz_2, sz_3, sz_4, sz_5, sz_6, sz_7, sz_8, sz_9, sz_10, sz_11, sz_12, sz_13, sz_14, sz_15, sz_16, ix_1_0, ix_2_0, ix_2_1, ix_3_0, ix_3_1, ix_3_2, ix_4_0, ix_4_1, ix_4_2, ix_4_3, ix_5_0, ix_5_1, ix_5_2, ix_5_3, ix_5_4, ix_6_0, ix_6_1, ix_6_2, ix_6_3, ix_6_4, ix_6_5, ix_7_0, ix_7_1, ix_7_2, ix_7_3, ix_7_4, ix_7_5, ix_7_6, sI_0, sI_1, sI_48271, sI_69621, g, e]
  have z : szOk (1 + q.2.length) = true := by simp [szOk]; omega
  have e2 : eD (eOp fAdd (eLst (aCons (eOp fIx (eNm 9) (eC (.int 0))) aNil)) (eLc (iEv (eSl (eNm 9) (oPart (eC (.int 1))) oNo)) (gNm 14) bYes (eCall d_word_of (aCons (eNm 14) aNil) []) [14])) ρ S = some (.fl ((q.1 :: q.2.map ow).map .str), S) := by
    refine ok.get ?_
    have i0 : ixN (q.2.length + 1) 0 = some 0 := ix0 (by omega)
    simp [sNext, sIf, sBreak, sCont, sNever, sExpr, sRet, sRetO, sRetN, sSet, sAsg, gNm, gsNil, gsCons, gT, eD, eV, eBox, eNm, eC, eOp, eUn, aNil, aCons, eTup, eLst, eCB, bV, bAnd, bOr, bNot, eAnd, eOr, eNot, eIf, eChain, eCall, eFld, sFldS, sFldA, eMeth, eMake, bYes, fSub, fLt, fLe, fGt, fGe, fDiv, fMod, fPow, fNeg, fAdd, fMul, fIsN, fNotN, Yi.isNon, fEq, fNe, fIn, fInS, fIx, intR, oNo, oPart, fSl, eSl, eRev, sAppO, sExtO, sAug, oIx, oIn, oEq, sPar, sPar3, sSetIx, eDGet, eDIn, eDGet2, sDPutS, eDPop1, eDPop2, eDNewK, eDNewT, oDGet, oDIn, eBM, mApp, mExt, mPopAt, mIdx, cellL, iEv, iR1, iR2, iC, fLen, oLen, fMax, fMin, fAll, fAny, fSum, fSortI, fList, fTuple, fInt, fStr, fIsi, tyD, isLstD, isStrD, isDD, lstD, seqD, stD, eCallF, nAt, iSt, mJoin, mSplit, fAddI, sStar, iEnS, eSortSet, fSet, eLenSet, insAt, lkp, putD, ok_some, ok_none, ok_bind, ok_map, eq_int, eq_bl, sAsg, kb_NoneType_int, kb_NoneType_bool, kb_NoneType_str, kb_NoneType_tuple, kb_NoneType_list, kb_bool_int, kb_bool_bool, kb_bool_str, kb_bool_tuple, kb_bool_list, kb_int_int, kb_int_bool, kb_int_str, kb_int_tuple, kb_int_list, kb_str_int, kb_str_bool, kb_str_str, kb_str_tuple, kb_str_list, kb_tuple_int, kb_tuple_bool, kb_tuple_str, kb_tuple_tuple, kb_tuple_list, kb_list_int, kb_list_bool, kb_list_str, kb_list_tuple, kb_list_list, sz_0, sz_1, sz_2, sz_3, sz_4, sz_5, sz_6, sz_7, sz_8, sz_9, sz_10, sz_11, sz_12, sz_13, sz_14, sz_15, sz_16, ix_1_0, ix_2_0, ix_2_1, ix_3_0, ix_3_1, ix_3_2, ix_4_0, ix_4_1, ix_4_2, ix_4_3, ix_5_0, ix_5_1, ix_5_2, ix_5_3, ix_5_4, ix_6_0, ix_6_1, ix_6_2, ix_6_3, ix_6_4, ix_6_5, ix_7_0, ix_7_1, ix_7_2, ix_7_3, ix_7_4, ix_7_5, ix_7_6, sI_0, sI_1, sI_48271, sI_69621, h9, rowW, e1, atI, i0, z]
  refine join_ok (x := " ") e2 rfl (by simp; omega) (fun z hz => ?_) (by rw [l_sp]; decide)
  rcases List.mem_cons.mp hz with e | hz
  · rw [e]; omega
  · obtain ⟨o, ho, rfl⟩ := List.mem_map.mp hz
    have := ow_len (h.n o ho)
    omega
theorem rowsD_lc {wd : Str} {ps : List (Int × Int)} {a i j : Nat} {ρ : Slt} {S : Sto} (ha : ρ[a]? = some (some (.d (.tup (ps.map pD))))) (hij : i ≠ j) (hi : i < ρ.length) (hj : j < ρ.length) (hl : ps.length ≤ 100) :
    eLc (iEv (eNm a)) (gT 2 (gsCons (gNm i) (gsCons (gNm j) gsNil))) bYes (eLst (aCons (eC (.str wd)) (aCons (eNm i) (aCons (eNm j) aNil)))) [i, j] ρ S = some (.own (.lst ((ps.map fun p => (wd, [some p.1, some p.2])).map rowW)), S) := by
  have i3 : iEv (eNm a) ρ S = some (ps.map pD, S) := by simp [iEv, eD, eNm, ha, stD]
  refine lc_eq i3 ?_
  rw [compL_map (fun d => match d with | .tup [x, y] => .fl [.str wd, x, y] | _ => .non) _ [] (by simp; omega) ?_]
  · simp [Function.comp_def, pD, rowW, oD]
  · intro d hd
    obtain ⟨p, hp, rfl⟩ := List.mem_map.mp hd
    refine ⟨((wipeS ρ [i, j]).set i (some (.d (.int p.1)))).set j (some (.d (.int p.2))), rfl, rfl, ?_⟩
    have gi : (((wipeS ρ [i, j]).set i (some (.d (.int p.1)))).set j (some (.d (.int p.2))))[i]? = some (some (.d (.int p.1))) := by rw [List.getElem?_set_ne hij.symm, List.getElem?_set_self (by rw [wipeS_len]; exact hi)]
    have gj : (((wipeS ρ [i, j]).set i (some (.d (.int p.1)))).set j (some (.d (.int p.2))))[j]? = some (some (.d (.int p.2))) := by rw [List.getElem?_set_self (by rw [List.length_set, wipeS_len]; exact hj)]
    refine ok.get ?_
    simp [sNext, sIf, sBreak, sCont, sNever, sExpr, sRet, sRetO, sRetN, sSet, sAsg, gNm, gsNil, gsCons, gT, eD, eV, eBox, eNm, eC, eOp, eUn, aNil, aCons, eTup, eLst, eCB, bV, bAnd, bOr, bNot, eAnd, eOr, eNot, eIf, eChain, eCall, eFld, sFldS, sFldA, eMeth, eMake, bYes, fSub, fLt, fLe, fGt, fGe, fDiv, fMod, fPow, fNeg, fAdd, fMul, fIsN, fNotN, Yi.isNon, fEq, fNe, fIn, fInS, fIx, intR, oNo, oPart, fSl, eSl, eRev, sAppO, sExtO, sAug, oIx, oIn, oEq, sPar, sPar3, sSetIx, eDGet, eDIn, eDGet2, sDPutS, eDPop1, eDPop2, eDNewK, eDNewT, oDGet, oDIn, eBM, mApp, mExt, mPopAt, mIdx, cellL, iEv, iR1, iR2, iC, fLen, oLen, fMax, fMin, fAll, fAny, fSum, fSortI, fList, fTuple, fInt, fStr, fIsi, tyD, isLstD, isStrD, isDD, lstD, seqD, stD, eCallF, nAt, iSt, mJoin, mSplit, fAddI, sStar, iEnS, eSortSet, fSet, eLenSet, insAt, lkp, putD, ok_some, ok_none, ok_bind, ok_map, eq_int, eq_bl, sAsg, kb_NoneType_int, kb_NoneType_bool, kb_NoneType_str, kb_NoneType_tuple, kb_NoneType_list, kb_bool_int, kb_bool_bool, kb_bool_str, kb_bool_tuple, kb_bool_list, kb_int_int, kb_int_bool, kb_int_str, kb_int_tuple, kb_int_list, kb_str_int, kb_str_bool, kb_str_str, kb_str_tuple, kb_str_list, kb_tuple_int, kb_tuple_bool, kb_tuple_str, kb_tuple_tuple, kb_tuple_list, kb_list_int, kb_list_bool, kb_list_str, kb_list_tuple, kb_list_list, sz_0, sz_1, sz_2, sz_3, sz_4, sz_5, sz_6, sz_7, sz_8, sz_9, sz_10, sz_11, sz_12, sz_13, sz_14, sz_15, sz_16, ix_1_0, ix_2_0, ix_2_1, ix_3_0, ix_3_1, ix_3_2, ix_4_0, ix_4_1, ix_4_2, ix_4_3, ix_5_0, ix_5_1, ix_5_2, ix_5_3, ix_5_4, ix_6_0, ix_6_1, ix_6_2, ix_6_3, ix_6_4, ix_6_5, ix_7_0, ix_7_1, ix_7_2, ix_7_3, ix_7_4, ix_7_5, ix_7_6, sI_0, sI_1, sI_48271, sI_69621, gi, gj, pD]
theorem extO_ok {i : Nat} {m : EM} {ρ : Slt} {S : Sto} {T ys : List D} (h2 : ρ[i]? = some (some (.own (.lst T)))) (hz : T.length + ys.length ≤ 1000000) (hm : m ρ S = some (.own (.lst ys), S)) :
    sExtO i m ρ S = some (.nx, ρ.set i (some (.own (.lst (T ++ ys)))), S) := by
  have z : szOk (T.length + ys.length) = true := by simp [szOk, hz]
  refine ok.get ?_
  simp [sNext, sIf, sBreak, sCont, sNever, sExpr, sRet, sRetO, sRetN, sSet, sAsg, gNm, gsNil, gsCons, gT, eD, eV, eBox, eNm, eC, eOp, eUn, aNil, aCons, eTup, eLst, eCB, bV, bAnd, bOr, bNot, eAnd, eOr, eNot, eIf, eChain, eCall, eFld, sFldS, sFldA, eMeth, eMake, bYes, fSub, fLt, fLe, fGt, fGe, fDiv, fMod, fPow, fNeg, fAdd, fMul, fIsN, fNotN, Yi.isNon, fEq, fNe, fIn, fInS, fIx, intR, oNo, oPart, fSl, eSl, eRev, sAppO, sExtO, sAug, oIx, oIn, oEq, sPar, sPar3, sSetIx, eDGet, eDIn, eDGet2, sDPutS, eDPop1, eDPop2, eDNewK, eDNewT, oDGet, oDIn, eBM, mApp, mExt, mPopAt, mIdx, cellL, iEv, iR1, iR2, iC, fLen, oLen, fMax, fMin, fAll, fAny, fSum, fSortI, fList, fTuple, fInt, fStr, fIsi, tyD, isLstD, isStrD, isDD, lstD, seqD, stD, eCallF, nAt, iSt, mJoin, mSplit, fAddI, sStar, iEnS, eSortSet, fSet, eLenSet, insAt, lkp, putD, ok_some, ok_none, ok_bind, ok_map, eq_int, eq_bl, sAsg, kb_NoneType_int, kb_NoneType_bool, kb_NoneType_str, kb_NoneType_tuple, kb_NoneType_list, kb_bool_int, kb_bool_bool, kb_bool_str, kb_bool_tuple, kb_bool_list, kb_int_int, kb_int_bool, kb_int_str, kb_int_tuple, kb_int_list, kb_str_int, kb_str_bool, kb_str_str, kb_str_tuple, kb_str_list, kb_tuple_int, kb_tuple_bool, kb_tuple_str, kb_tuple_tuple, kb_tuple_list, kb_list_int, kb_list_bool, kb_list_str, kb_list_tuple, kb_list_list, sz_0, sz_1, sz_2, sz_3, sz_4, sz_5, sz_6, sz_7, sz_8, sz_9, sz_10, sz_11, sz_12, sz_13, sz_14, sz_15, sz_16, ix_1_0, ix_2_0, ix_2_1, ix_3_0, ix_3_1, ix_3_2, ix_4_0, ix_4_1, ix_4_2, ix_4_3, ix_5_0, ix_5_1, ix_5_2, ix_5_3, ix_5_4, ix_6_0, ix_6_1, ix_6_2, ix_6_3, ix_6_4, ix_6_5, ix_7_0, ix_7_1, ix_7_2, ix_7_3, ix_7_4, ix_7_5, ix_7_6, sI_0, sI_1, sI_48271, sI_69621, h2, hm, z]
theorem join_length (x : Str) (ys : List Str) : (Txt.join x ys).length ≤ (ys.map (·.length)).sum + ys.length * x.length := by
  rw [join_eq]
  exact StrLaws.join_length_le x ys
theorem compL_rel {g : TM} {c : BM} {m : EM} {ρ : Slt} {S : Sto} {α : Type} {r : α → D} {f : α → D} : ∀ (items : List α) (ys : List D), ys.length + items.length ≤ 1000000 →
    (∀ d ∈ items, ∃ ρ1, g (r d) ρ = some ρ1 ∧ c ρ1 S = some (true, S) ∧ eD m ρ1 S = some (f d, S)) → compL g c m ρ (items.map r) ys S = some (ys ++ items.map f, S)
  | [], ys, _, _ => by simp [compL]
  | d :: t, ys, hl, h => by
    obtain ⟨ρ1, h1, h2, h3⟩ := h d (by simp)
    rw [List.map_cons]
    unfold compL
    rw [h1, Option.bind_some, h2, Option.bind_some, if_pos rfl, h3, Option.bind_some, if_pos (by simp [szOk]; simp at hl; omega), compL_rel t _ (by simp at hl ⊢; omega) fun d' hd => h d' (by simp [hd])]
    simp
theorem rowL_len {q : Str × List (Option Int)} (h : RowOk q) : (rowL q).length ≤ 1000 := by
  have h1 := join_length (" ") (q.1 :: q.2.map ow)
  have h2 : ((q.1 :: q.2.map ow).map (·.length)).sum ≤ ((q.1 :: q.2.map ow).map (·.length)).length * 6 := sum_le fun n hn => by
    obtain ⟨z, hz, rfl⟩ := List.mem_map.mp hn
    rcases List.mem_cons.mp hz with e | hz
    · rw [e]; exact h.w
    · obtain ⟨o, ho, rfl⟩ := List.mem_map.mp hz
      have := ow_len (h.n o ho)
      omega
  have := h.l
  simp only [List.length_map, List.length_cons] at h2 h1
  unfold rowL line
  rw [l_sp] at h1
  omega
def InvW (S : Sto) (rs : List Rl) (nd : D) (i : Nat) (ρ : Slt) (S2 : Sto) : Prop := S2 = S ∧ ∃ x3 x4 x5 x6 x7 x8 x9 x10 x11 x12 x13 x14 : Option VV,
  ρ = [some (.d (.tup (rs.map rD))), some (.d nd), some (.own (.lst (((rs.take i).flatMap rowsO).map rowW))), x3, x4, x5, x6, x7, x8, x9, x10, x11, x12, x13, x14]
theorem flatO_len {rs : List Rl} (hg : ∀ r ∈ rs, ∃ m, r.Good m) : (rs.flatMap rowsO).length ≤ 8 * rs.length := by
  induction rs with
  | nil => simp
  | cons r t ih =>
    obtain ⟨m, g⟩ := hg r (by simp)
    have h1 := g.hl
    have h2 := g.gl
    have := ih fun r h => hg r (by simp [h])
    simp [List.flatMap_cons, rowsO] at this ⊢
    omega
theorem takeO {rs : List Rl} {i : Nat} {r : Rl} (h : rs[i]? = some r) : (rs.take (i + 1)).flatMap rowsO = (rs.take i).flatMap rowsO ++ rowsO r := by
  rw [List.take_add_one, h]
  simp
theorem written_1 {rs : List Rl} {nd : D} {S : Sto} (h : GoodRs rs) (i : Nat) (r : Rl) (hr : rs[i]? = some r) (ρ : Slt) (S2 : Sto) (hp : InvW S rs nd i ρ S2) :
    ok (gT 5 (gsCons (gNm 3) (gsCons (gNm 4) (gsCons (gNm 5) (gsCons (gNm 6) (gsCons (gNm 7) gsNil))))) (rD r) ρ) fun ρ1 => ok (m_written_1 ρ1 S2) fun p => p.1 = .nx ∧ InvW S rs nd (i + 1) p.2.1 p.2.2 := by
  obtain ⟨rfl, x3, x4, x5, x6, x7, x8, x9, x10, x11, x12, x13, x14, rfl⟩ := hp
  have g := h.g r (List.mem_of_getElem? hr)
  have l6 := h.l6
  have hl := g.hl
  have gl := g.gl
  have lb : ((rs.take i).flatMap rowsO).length ≤ 50 := by
    have := flatO_len (rs := rs.take i) fun r hr => ⟨_, h.g r (List.mem_of_mem_take hr)⟩
    have : (rs.take i).length ≤ rs.length := by simp; omega
    omega
  generalize hR : (rs.take i).flatMap rowsO = R at lb
  have zR : szOk R.length = true := by simp [szOk]; omega
  simp only [rD, gT, List.length_cons, List.length_nil, if_true, gsCons, gNm, gsNil, Option.bind_some, ok_some, List.set_cons_succ, List.set_cons_zero]
  unfold m_written_1
  refine seq_ok ?_
  have e0 : sAppO 2 (eLst (aCons (eC (.str "person")) (aCons (eNm 4) (aCons (eNm 6) (aCons (eNm 7) aNil))))) [some (.d (.tup (rs.map rD))), some (.d nd), some (.own (.lst (R.map rowW))), some (.d (.tup (r.hs.map pD))), some (.d (.int r.least)), some (.d (.tup (r.gs.map pD))), some (.d (oD r.wait)), some (.d (oD r.fur)), x8, x9, x10, x11, x12, x13, x14] S2 = some (.nx, [some (.d (.tup (rs.map rD))), some (.d nd), some (.own (.lst (R.map rowW ++ [D.fl [.str "person", .int r.least, oD r.wait, oD r.fur]]))), some (.d (.tup (r.hs.map pD))), some (.d (.int r.least)), some (.d (.tup (r.gs.map pD))), some (.d (oD r.wait)), some (.d (oD r.fur)), x8, x9, x10, x11, x12, x13, x14], S2) := ok.get (by simp [sNext, sIf, sBreak, sCont, sNever, sExpr, sRet, sRetO, sRetN, sSet, sAsg, gNm, gsNil, gsCons, gT, eD, eV, eBox, eNm, eC, eOp, eUn, aNil, aCons, eTup, eLst, eCB, bV, bAnd, bOr, bNot, eAnd, eOr, eNot, eIf, eChain, eCall, eFld, sFldS, sFldA, eMeth, eMake, bYes, fSub, fLt, fLe, fGt, fGe, fDiv, fMod, fPow, fNeg, fAdd, fMul, fIsN, fNotN, Yi.isNon, fEq, fNe, fIn, fInS, fIx, intR, oNo, oPart, fSl, eSl, eRev, sAppO, sExtO, sAug, oIx, oIn, oEq, sPar, sPar3, sSetIx, eDGet, eDIn, eDGet2, sDPutS, eDPop1, eDPop2, eDNewK, eDNewT, oDGet, oDIn, eBM, mApp, mExt, mPopAt, mIdx, cellL, iEv, iR1, iR2, iC, fLen, oLen, fMax, fMin, fAll, fAny, fSum, fSortI, fList, fTuple, fInt, fStr, fIsi, tyD, isLstD, isStrD, isDD, lstD, seqD, stD, eCallF, nAt, iSt, mJoin, mSplit, fAddI, sStar, iEnS, eSortSet, fSet, eLenSet, insAt, lkp, putD, ok_some, ok_none, ok_bind, ok_map, eq_int, eq_bl, sAsg, kb_NoneType_int, kb_NoneType_bool, kb_NoneType_str, kb_NoneType_tuple, kb_NoneType_list, kb_bool_int, kb_bool_bool, kb_bool_str, kb_bool_tuple, kb_bool_list, kb_int_int, kb_int_bool, kb_int_str, kb_int_tuple, kb_int_list, kb_str_int, kb_str_bool, kb_str_str, kb_str_tuple, kb_str_list, kb_tuple_int, kb_tuple_bool, kb_tuple_str, kb_tuple_tuple, kb_tuple_list, kb_list_int, kb_list_bool, kb_list_str, kb_list_tuple, kb_list_list, sz_0, sz_1, sz_2, sz_3, sz_4, sz_5, sz_6, sz_7, sz_8, sz_9, sz_10, sz_11, sz_12, sz_13, sz_14, sz_15, sz_16, ix_1_0, ix_2_0, ix_2_1, ix_3_0, ix_3_1, ix_3_2, ix_4_0, ix_4_1, ix_4_2, ix_4_3, ix_5_0, ix_5_1, ix_5_2, ix_5_3, ix_5_4, ix_6_0, ix_6_1, ix_6_2, ix_6_3, ix_6_4, ix_6_5, ix_7_0, ix_7_1, ix_7_2, ix_7_3, ix_7_4, ix_7_5, ix_7_6, sI_0, sI_1, sI_48271, sI_69621, zR])
  refine (ok_eq e0).mpr ⟨rfl, seq_ok ?_⟩
  have l1 : (R.map rowW ++ [D.fl [.str "person", .int r.least, oD r.wait, oD r.fur]]).length ≤ 60 := by simp only [List.length_append, List.length_map, List.length_cons, List.length_nil]; omega
  have h1 := extO_ok (i := 2) (T := R.map rowW ++ [D.fl [.str "person", .int r.least, oD r.wait, oD r.fur]]) (ys := (r.hs.map fun p => (("hush" : Str), [some p.1, some p.2])).map rowW)
    (ρ := [some (.d (.tup (rs.map rD))), some (.d nd), some (.own (.lst (R.map rowW ++ [D.fl [.str "person", .int r.least, oD r.wait, oD r.fur]]))), some (.d (.tup (r.hs.map pD))), some (.d (.int r.least)), some (.d (.tup (r.gs.map pD))), some (.d (oD r.wait)), some (.d (oD r.fur)), x8, x9, x10, x11, x12, x13, x14]) (S := S2) rfl (by rw [List.length_map, List.length_map]; omega) (rowsD_lc (a := 3) (i := 10) (j := 11) (wd := "hush") rfl (by decide) (by simp) (by simp) (by omega))
  refine (ok_eq h1).mpr ⟨rfl, ?_⟩
  have l2 : (R.map rowW ++ [D.fl [.str "person", .int r.least, oD r.wait, oD r.fur]] ++ (r.hs.map fun p => (("hush" : Str), [some p.1, some p.2])).map rowW).length ≤ 70 := by simp only [List.length_append, List.length_map, List.length_cons, List.length_nil]; omega
  have h2 := extO_ok (i := 2) (T := R.map rowW ++ [D.fl [.str "person", .int r.least, oD r.wait, oD r.fur]] ++ (r.hs.map fun p => (("hush" : Str), [some p.1, some p.2])).map rowW) (ys := (r.gs.map fun p => (("gather" : Str), [some p.1, some p.2])).map rowW)
    (ρ := [some (.d (.tup (rs.map rD))), some (.d nd), some (.own (.lst (R.map rowW ++ [D.fl [.str "person", .int r.least, oD r.wait, oD r.fur]] ++ (r.hs.map fun p => (("hush" : Str), [some p.1, some p.2])).map rowW))), some (.d (.tup (r.hs.map pD))), some (.d (.int r.least)), some (.d (.tup (r.gs.map pD))), some (.d (oD r.wait)), some (.d (oD r.fur)), x8, x9, x10, x11, x12, x13, x14]) (S := S2) rfl (by rw [List.length_map, List.length_map]; omega) (rowsD_lc (a := 5) (i := 12) (j := 13) (wd := "gather") rfl (by decide) (by simp) (by simp) (by omega))
  refine (ok_eq h2).mpr ⟨rfl, rfl, some (.d (.tup (r.hs.map pD))), some (.d (.int r.least)), some (.d (.tup (r.gs.map pD))), some (.d (oD r.wait)), some (.d (oD r.fur)), x8, x9, x10, x11, x12, x13, x14, ?_⟩
  rw [takeO hr, hR]
  unfold rowsO
  simp only [List.map_append, List.map_cons, List.append_assoc, List.set_cons_succ, List.set_cons_zero, List.cons_append, List.nil_append]
  rfl
theorem written_ok {rs : List Rl} {ns : List Nt} {n : Nat} {S : Sto} (h : GoodRs rs) (hn : GoodNs ns rs.length) (hS : S[n]? = some (.lst (ns.map nD))) : d_written [.tup (rs.map rD), .ref n] S = some (.d (.str (txt rs ns)), S) := by
  have l6 := h.l6
  have l30 := hn.l
  have fl := flatO_len fun r hr => ⟨_, h.g r hr⟩
  have nr := need_rules_ok (S := S) h
  have nn := need_notices_ok (S := S) h hS l30 hn.g hn.t
  refine ok.get (den_ok rfl (seq_ok ?_))
  simp [sNext, sIf, sBreak, sCont, sNever, sExpr, sRet, sRetO, sRetN, sSet, sAsg, gNm, gsNil, gsCons, gT, eD, eV, eBox, eNm, eC, eOp, eUn, aNil, aCons, eTup, eLst, eCB, bV, bAnd, bOr, bNot, eAnd, eOr, eNot, eIf, eChain, eCall, eFld, sFldS, sFldA, eMeth, eMake, bYes, fSub, fLt, fLe, fGt, fGe, fDiv, fMod, fPow, fNeg, fAdd, fMul, fIsN, fNotN, Yi.isNon, fEq, fNe, fIn, fInS, fIx, intR, oNo, oPart, fSl, eSl, eRev, sAppO, sExtO, sAug, oIx, oIn, oEq, sPar, sPar3, sSetIx, eDGet, eDIn, eDGet2, sDPutS, eDPop1, eDPop2, eDNewK, eDNewT, oDGet, oDIn, eBM, mApp, mExt, mPopAt, mIdx, cellL, iEv, iR1, iR2, iC, fLen, oLen, fMax, fMin, fAll, fAny, fSum, fSortI, fList, fTuple, fInt, fStr, fIsi, tyD, isLstD, isStrD, isDD, lstD, seqD, stD, eCallF, nAt, iSt, mJoin, mSplit, fAddI, sStar, iEnS, eSortSet, fSet, eLenSet, insAt, lkp, putD, ok_some, ok_none, ok_bind, ok_map, eq_int, eq_bl, sAsg, kb_NoneType_int, kb_NoneType_bool, kb_NoneType_str, kb_NoneType_tuple, kb_NoneType_list, kb_bool_int, kb_bool_bool, kb_bool_str, kb_bool_tuple, kb_bool_list, kb_int_int, kb_int_bool, kb_int_str, kb_int_tuple, kb_int_list, kb_str_int, kb_str_bool, kb_str_str, kb_str_tuple, kb_str_list, kb_tuple_int, kb_tuple_bool, kb_tuple_str, kb_tuple_tuple, kb_tuple_list, kb_list_int, kb_list_bool, kb_list_str, kb_list_tuple, kb_list_list, sz_0, sz_1, sz_2, sz_3, sz_4, sz_5, sz_6, sz_7, sz_8, sz_9, sz_10, sz_11, sz_12, sz_13, sz_14, sz_15, sz_16, ix_1_0, ix_2_0, ix_2_1, ix_3_0, ix_3_1, ix_3_2, ix_4_0, ix_4_1, ix_4_2, ix_4_3, ix_5_0, ix_5_1, ix_5_2, ix_5_3, ix_5_4, ix_6_0, ix_6_1, ix_6_2, ix_6_3, ix_6_4, ix_6_5, ix_7_0, ix_7_1, ix_7_2, ix_7_3, ix_7_4, ix_7_5, ix_7_6, sI_0, sI_1, sI_48271, sI_69621, nr]
  refine seq_ok ?_
  simp [sNext, sIf, sBreak, sCont, sNever, sExpr, sRet, sRetO, sRetN, sSet, sAsg, gNm, gsNil, gsCons, gT, eD, eV, eBox, eNm, eC, eOp, eUn, aNil, aCons, eTup, eLst, eCB, bV, bAnd, bOr, bNot, eAnd, eOr, eNot, eIf, eChain, eCall, eFld, sFldS, sFldA, eMeth, eMake, bYes, fSub, fLt, fLe, fGt, fGe, fDiv, fMod, fPow, fNeg, fAdd, fMul, fIsN, fNotN, Yi.isNon, fEq, fNe, fIn, fInS, fIx, intR, oNo, oPart, fSl, eSl, eRev, sAppO, sExtO, sAug, oIx, oIn, oEq, sPar, sPar3, sSetIx, eDGet, eDIn, eDGet2, sDPutS, eDPop1, eDPop2, eDNewK, eDNewT, oDGet, oDIn, eBM, mApp, mExt, mPopAt, mIdx, cellL, iEv, iR1, iR2, iC, fLen, oLen, fMax, fMin, fAll, fAny, fSum, fSortI, fList, fTuple, fInt, fStr, fIsi, tyD, isLstD, isStrD, isDD, lstD, seqD, stD, eCallF, nAt, iSt, mJoin, mSplit, fAddI, sStar, iEnS, eSortSet, fSet, eLenSet, insAt, lkp, putD, ok_some, ok_none, ok_bind, ok_map, eq_int, eq_bl, sAsg, kb_NoneType_int, kb_NoneType_bool, kb_NoneType_str, kb_NoneType_tuple, kb_NoneType_list, kb_bool_int, kb_bool_bool, kb_bool_str, kb_bool_tuple, kb_bool_list, kb_int_int, kb_int_bool, kb_int_str, kb_int_tuple, kb_int_list, kb_str_int, kb_str_bool, kb_str_str, kb_str_tuple, kb_str_list, kb_tuple_int, kb_tuple_bool, kb_tuple_str, kb_tuple_tuple, kb_tuple_list, kb_list_int, kb_list_bool, kb_list_str, kb_list_tuple, kb_list_list, sz_0, sz_1, sz_2, sz_3, sz_4, sz_5, sz_6, sz_7, sz_8, sz_9, sz_10, sz_11, sz_12, sz_13, sz_14, sz_15, sz_16, ix_1_0, ix_2_0, ix_2_1, ix_3_0, ix_3_1, ix_3_2, ix_4_0, ix_4_1, ix_4_2, ix_4_3, ix_5_0, ix_5_1, ix_5_2, ix_5_3, ix_5_4, ix_6_0, ix_6_1, ix_6_2, ix_6_3, ix_6_4, ix_6_5, ix_7_0, ix_7_1, ix_7_2, ix_7_3, ix_7_4, ix_7_5, ix_7_6, sI_0, sI_1, sI_48271, sI_69621, nn]
  refine seq_ok ?_
  simp [sNext, sIf, sBreak, sCont, sNever, sExpr, sRet, sRetO, sRetN, sSet, sAsg, gNm, gsNil, gsCons, gT, eD, eV, eBox, eNm, eC, eOp, eUn, aNil, aCons, eTup, eLst, eCB, bV, bAnd, bOr, bNot, eAnd, eOr, eNot, eIf, eChain, eCall, eFld, sFldS, sFldA, eMeth, eMake, bYes, fSub, fLt, fLe, fGt, fGe, fDiv, fMod, fPow, fNeg, fAdd, fMul, fIsN, fNotN, Yi.isNon, fEq, fNe, fIn, fInS, fIx, intR, oNo, oPart, fSl, eSl, eRev, sAppO, sExtO, sAug, oIx, oIn, oEq, sPar, sPar3, sSetIx, eDGet, eDIn, eDGet2, sDPutS, eDPop1, eDPop2, eDNewK, eDNewT, oDGet, oDIn, eBM, mApp, mExt, mPopAt, mIdx, cellL, iEv, iR1, iR2, iC, fLen, oLen, fMax, fMin, fAll, fAny, fSum, fSortI, fList, fTuple, fInt, fStr, fIsi, tyD, isLstD, isStrD, isDD, lstD, seqD, stD, eCallF, nAt, iSt, mJoin, mSplit, fAddI, sStar, iEnS, eSortSet, fSet, eLenSet, insAt, lkp, putD, ok_some, ok_none, ok_bind, ok_map, eq_int, eq_bl, sAsg, kb_NoneType_int, kb_NoneType_bool, kb_NoneType_str, kb_NoneType_tuple, kb_NoneType_list, kb_bool_int, kb_bool_bool, kb_bool_str, kb_bool_tuple, kb_bool_list, kb_int_int, kb_int_bool, kb_int_str, kb_int_tuple, kb_int_list, kb_str_int, kb_str_bool, kb_str_str, kb_str_tuple, kb_str_list, kb_tuple_int, kb_tuple_bool, kb_tuple_str, kb_tuple_tuple, kb_tuple_list, kb_list_int, kb_list_bool, kb_list_str, kb_list_tuple, kb_list_list, sz_0, sz_1, sz_2, sz_3, sz_4, sz_5, sz_6, sz_7, sz_8, sz_9, sz_10, sz_11, sz_12, sz_13, sz_14, sz_15, sz_16, ix_1_0, ix_2_0, ix_2_1, ix_3_0, ix_3_1, ix_3_2, ix_4_0, ix_4_1, ix_4_2, ix_4_3, ix_5_0, ix_5_1, ix_5_2, ix_5_3, ix_5_4, ix_6_0, ix_6_1, ix_6_2, ix_6_3, ix_6_4, ix_6_5, ix_7_0, ix_7_1, ix_7_2, ix_7_3, ix_7_4, ix_7_5, ix_7_6, sI_0, sI_1, sI_48271, sI_69621]
  refine seq_ok (for_ok ?_)
  refine (ok_eq (show iEv (eNm 0) [some (.d (.tup (rs.map rD))), some (.d (.ref n)), some (.own (.lst [])), none, none, none, none, none, none, none, none, none, none, none, none] S = some (rs.map rD, S) from rfl)).mpr ?_
  refine (forL_ok (InvW S rs (.ref n)) (rs.map rD) 0 ⟨rfl, none, none, none, none, none, none, none, none, none, none, none, none, rfl⟩ ?_).mono ?_
  · intro i d hd ρ S2 hp
    rw [List.getElem?_map] at hd
    obtain ⟨r, hr, rfl⟩ := Option.map_eq_some_iff.mp hd
    rw [Nat.zero_add] at hp ⊢
    exact written_1 h i r hr ρ S2 hp
  · rintro ⟨f, ρ, S2⟩ ⟨e, rfl, x3, x4, x5, x6, x7, x8, x9, x10, x11, x12, x13, x14, e2⟩
    dsimp only at e e2
    subst e e2
    rw [Nat.zero_add, List.length_map, List.take_length]
    generalize hR : rs.flatMap rowsO = R at fl
    refine ⟨rfl, seq_ok ?_⟩
    have nl : eLcC (iC (eNm 1)) mkI (gNm 8) bYes (eOp fAdd (eLst (aCons (eC (.str "notice")) aNil)) (eCB fList (aCons (eNm 8) aNil))) [8] [some (.d (.tup (rs.map rD))), some (.d (.ref n)), some (.own (.lst (R.map rowW))), x3, x4, x5, x6, x7, x8, x9, x10, x11, x12, x13, x14] S2 = some (.own (.lst ((ns.map rowO).map rowW)), S2) := by
      unfold eLcC
      have i3 : iC (eNm 1) [some (.d (.tup (rs.map rD))), some (.d (.ref n)), some (.own (.lst (R.map rowW))), x3, x4, x5, x6, x7, x8, x9, x10, x11, x12, x13, x14] S2 = some (n, S2) := by simp [iC, eD, eNm, hS]
      rw [i3, Option.bind_some]
      have e : lenC n S2 = (ns.map nD).length := by unfold lenC; rw [hS]
      dsimp only
      rw [e, compC_map (fun _ d => match d with | .tup ds => .fl (.str "notice" :: ds) | _ => .non) hS (by simp; omega) ?_ (ns.map nD).length 0 [] (by omega) (by simp)]
      · rw [Option.map_some]
        have em : (ns.map nD).mapIdx (fun _ d => match d with | D.tup ds => D.fl (.str "notice" :: ds) | _ => .non) = (ns.map rowO).map rowW := by
          apply List.ext_getElem?
          intro i
          rw [List.getElem?_mapIdx, List.getElem?_map, List.getElem?_map, List.getElem?_map]
          cases ns[i]? <;> rfl
        rw [em]
      · intro i d hd
        rw [List.getElem?_map] at hd
        obtain ⟨x, hx, rfl⟩ := Option.map_eq_some_iff.mp hd
        refine ⟨_, rfl, rfl, ok.get ?_⟩
        simp [sNext, sIf, sBreak, sCont, sNever, sExpr, sRet, sRetO, sRetN, sSet, sAsg, gNm, gsNil, gsCons, gT, eD, eV, eBox, eNm, eC, eOp, eUn, aNil, aCons, eTup, eLst, eCB, bV, bAnd, bOr, bNot, eAnd, eOr, eNot, eIf, eChain, eCall, eFld, sFldS, sFldA, eMeth, eMake, bYes, fSub, fLt, fLe, fGt, fGe, fDiv, fMod, fPow, fNeg, fAdd, fMul, fIsN, fNotN, Yi.isNon, fEq, fNe, fIn, fInS, fIx, intR, oNo, oPart, fSl, eSl, eRev, sAppO, sExtO, sAug, oIx, oIn, oEq, sPar, sPar3, sSetIx, eDGet, eDIn, eDGet2, sDPutS, eDPop1, eDPop2, eDNewK, eDNewT, oDGet, oDIn, eBM, mApp, mExt, mPopAt, mIdx, cellL, iEv, iR1, iR2, iC, fLen, oLen, fMax, fMin, fAll, fAny, fSum, fSortI, fList, fTuple, fInt, fStr, fIsi, tyD, isLstD, isStrD, isDD, lstD, seqD, stD, eCallF, nAt, iSt, mJoin, mSplit, fAddI, sStar, iEnS, eSortSet, fSet, eLenSet, insAt, lkp, putD, ok_some, ok_none, ok_bind, ok_map, eq_int, eq_bl, sAsg, kb_NoneType_int, kb_NoneType_bool, kb_NoneType_str, kb_NoneType_tuple, kb_NoneType_list, kb_bool_int, kb_bool_bool, kb_bool_str, kb_bool_tuple, kb_bool_list, kb_int_int, kb_int_bool, kb_int_str, kb_int_tuple, kb_int_list, kb_str_int, kb_str_bool, kb_str_str, kb_str_tuple, kb_str_list, kb_tuple_int, kb_tuple_bool, kb_tuple_str, kb_tuple_tuple, kb_tuple_list, kb_list_int, kb_list_bool, kb_list_str, kb_list_tuple, kb_list_list, sz_0, sz_1, sz_2, sz_3, sz_4, sz_5, sz_6, sz_7, sz_8, sz_9, sz_10, sz_11, sz_12, sz_13, sz_14, sz_15, sz_16, ix_1_0, ix_2_0, ix_2_1, ix_3_0, ix_3_1, ix_3_2, ix_4_0, ix_4_1, ix_4_2, ix_4_3, ix_5_0, ix_5_1, ix_5_2, ix_5_3, ix_5_4, ix_6_0, ix_6_1, ix_6_2, ix_6_3, ix_6_4, ix_6_5, ix_7_0, ix_7_1, ix_7_2, ix_7_3, ix_7_4, ix_7_5, ix_7_6, sI_0, sI_1, sI_48271, sI_69621, mkI, nD, wipeS]
    have h1 := extO_ok (i := 2) (T := R.map rowW) (ys := (ns.map rowO).map rowW) (S := S2) rfl (by simp only [List.length_map]; omega) nl
    refine (ok_eq h1).mpr ⟨rfl, ?_⟩
    have ok1 : ∀ q ∈ R ++ ns.map rowO, RowOk q := fun q hq => by
      rcases List.mem_append.mp hq with hq | hq
      · rw [← hR] at hq
        obtain ⟨r, hr, hz⟩ := List.mem_flatMap.mp hq
        exact rowsO_ok (h.g r hr) l6 q hz
      · obtain ⟨x, hx, rfl⟩ := List.mem_map.mp hq
        exact rowO_ok hn l6 hx
    have e1 : eLc (iEv (eNm 2)) (gNm 9) bYes (eBM isStrD mJoin (eC (.str " ")) (aCons (eOp fAdd (eLst (aCons (eOp fIx (eNm 9) (eC (.int 0))) aNil)) (eLc (iEv (eSl (eNm 9) (oPart (eC (.int 1))) oNo)) (gNm 14) bYes (eCall d_word_of (aCons (eNm 14) aNil) []) [14])) aNil)) [9]
        [some (.d (.tup (rs.map rD))), some (.d (.ref n)), some (.d (.fl (R.map rowW ++ (ns.map rowO).map rowW))), x3, x4, x5, x6, x7, x8, x9, x10, x11, x12, x13, x14] S2 = some (.own (.lst (((R ++ ns.map rowO).map rowL).map .str)), S2) := by
      refine lc_eq (show iEv (eNm 2) [some (.d (.tup (rs.map rD))), some (.d (.ref n)), some (.d (.fl (R.map rowW ++ (ns.map rowO).map rowW))), x3, x4, x5, x6, x7, x8, x9, x10, x11, x12, x13, x14] S2 = some ((R ++ ns.map rowO).map rowW, S2) from by rw [List.map_append]; rfl) ?_
      have len : ((R ++ ns.map rowO).map rowW).length ≤ 100 := by simp only [List.length_append, List.length_map]; omega
      rw [compL_rel (f := fun q : Str × List (Option Int) => D.str (rowL q)) (R ++ ns.map rowO) [] (by simpa using Nat.le_trans len (by decide)) ?_]
      · rw [List.nil_append, List.map_map]
        rfl
      · intro q hq
        refine ⟨_, rfl, rfl, eD_some (row_ok (ok1 q hq) ?_ ?_)⟩
        · rw [List.getElem?_set_self (by rw [wipeS_len]; simp)]
        · rw [List.length_set, wipeS_len]; simp
    have hs : ∀ z ∈ (R ++ ns.map rowO).map rowL, z.length ≤ 1000 := fun z hz => by
      obtain ⟨q, hq, rfl⟩ := List.mem_map.mp hz
      exact rowL_len (ok1 q hq)
    have e2 := join_ok (x := "\n") (a := eLc (iEv (eNm 2)) (gNm 9) bYes (eBM isStrD mJoin (eC (.str " ")) (aCons (eOp fAdd (eLst (aCons (eOp fIx (eNm 9) (eC (.int 0))) aNil)) (eLc (iEv (eSl (eNm 9) (oPart (eC (.int 1))) oNo)) (gNm 14) bYes (eCall d_word_of (aCons (eNm 14) aNil) []) [14])) aNil)) [9])
      (y := .fl (((R ++ ns.map rowO).map rowL).map .str)) (by unfold eD; rw [e1]; rfl) rfl (by simp only [List.length_append, List.length_map]; omega) hs (by rw [l_nl]; decide)
    have e3 : txt rs ns = Txt.join "\n" ((R ++ ns.map rowO).map rowL) := by
      have q1 : rs.flatMap rowsT = R.map rowL := by
        rw [← hR, List.map_flatMap]
        exact congrArg (fun f => rs.flatMap f) (funext fun r => (rowsO_L r).symm)
      have q2 : ns.map nT = (ns.map rowO).map rowL := by
        rw [List.map_map]
        exact List.map_congr_left fun x _ => (rowO_L x).symm
      rw [txt_eq, q1, q2, List.map_append]
    rw [e3]
    show ok (sFrz 2 (sRet _) [some (.d (.tup (rs.map rD))), some (.d (.ref n)), some (.own (.lst (R.map rowW ++ (ns.map rowO).map rowW))), x3, x4, x5, x6, x7, x8, x9, x10, x11, x12, x13, x14] S2) _
    unfold sFrz sRet
    show ok (Option.map _ (eBM isStrD mJoin (eC (.str "\n")) _ [some (.d (.tup (rs.map rD))), some (.d (.ref n)), some (.d (.fl (R.map rowW ++ (ns.map rowO).map rowW))), x3, x4, x5, x6, x7, x8, x9, x10, x11, x12, x13, x14] S2)) _
    rw [e2]
    exact ⟨_, rfl, rfl, rfl⟩
end Wk
namespace Wk
open PySem L2 Yi TL
/-! ### a number's word, read -/
theorem dig_mem {c : Nat} (h0 : 48 ≤ c) (h1 : c ≤ 57) : c ∈ ("0123456789" : Str).cps.toList := by
  have e : ∀ i : Fin 10, 48 + i.val ∈ ("0123456789" : Str).cps.toList := by decide +kernel
  have := e ⟨c - 48, by omega⟩
  rwa [show 48 + (c - 48) = c by omega] at this
theorem canL {x : Str} (h : ∀ c ∈ tl x, c < 128) : PyData.canLay0 (.str x) = true := by
  simp only [PyData.canLay0]
  show x.cps.all (· < 0x110000) = true
  rw [← Array.all_toList, List.all_eq_true]
  intro c hc
  have := h c hc
  exact decide_eq_true (by omega)
theorem num_dig {n : Nat} : ∀ c ∈ tl (num n), 48 ≤ c ∧ c ≤ 57 := by
  rw [num_tl]
  exact numL_digits n
theorem num_can (n : Nat) : PyData.canLay0 (.str (num n)) = true := canL fun c hc => by have := num_dig c hc; omega
theorem head_ne : ∀ (n : Nat), 1 ≤ n → ∃ c r, numL n = c :: r ∧ c ≠ 48 := by
  intro n
  induction n using Nat.strongRecOn with
  | _ n ih =>
    intro h1
    by_cases h : n < 10
    · exact ⟨48 + n, [], numL_lt h, by omega⟩
    · obtain ⟨c, r, e, hc⟩ := ih (n / 10) (by omega) (by omega)
      exact ⟨c, r ++ [48 + n % 10], by rw [numL_step (by omega), e]; rfl, hc⟩
theorem num_0 : num ((0 : Nat) : Int) = "0" := by decide +kernel
theorem number_of_ok {n : Nat} {S : Sto} (h : n ≤ 999) : d_number_of [.str (num n)] S = some (.d (.int n), S) := by
  have l3 := num_len (i := n) (by omega) (by omega)
  have tn := num_tl (n := n)
  have l1 : 1 ≤ (num n).length := by
    rw [len_tl, tn]
    have := numL_ne n
    cases e : numL n with
    | nil => exact absurd e this
    | cons c r => simp
  have e1 : eLc (iSt (eNm 0)) (gNm 1) bYes (eOp (fInS false) (eNm 1) (eC (.str "0123456789"))) [1] [some (.d (.str (num n))), none] S = some (.own (.lst ((sgnL (num n)).map fun _ => .bl true)), S) := by
    refine lc_eq (show iSt (eNm 0) [some (.d (.str (num n))), none] S = some (sgnL (num n), S) from rfl) ?_
    rw [compL_map (fun _ => .bl true) _ [] (by simp [sgnL]; have : (num n).length = (num n).cps.size := rfl; omega) ?_]
    · rfl
    · intro d hd
      obtain ⟨c, hc, rfl⟩ := List.mem_map.mp hd
      have := num_dig c hc
      have m := dig_mem this.1 this.2
      refine ⟨_, rfl, rfl, ok.get ?_⟩
      simp [sNext, sIf, sBreak, sCont, sNever, sExpr, sRet, sRetO, sRetN, sSet, sAsg, gNm, gsNil, gsCons, gT, eD, eV, eBox, eNm, eC, eOp, eUn, aNil, aCons, eTup, eLst, eCB, bV, bAnd, bOr, bNot, eAnd, eOr, eNot, eIf, eChain, eCall, eFld, sFldS, sFldA, eMeth, eMake, bYes, fSub, fLt, fLe, fGt, fGe, fDiv, fMod, fPow, fNeg, fAdd, fMul, fIsN, fNotN, Yi.isNon, fEq, fNe, fIn, fInS, fIx, intR, oNo, oPart, fSl, eSl, eRev, sAppO, sExtO, sAug, oIx, oIn, oEq, sPar, sPar3, sSetIx, eDGet, eDIn, eDGet2, sDPutS, eDPop1, eDPop2, eDNewK, eDNewT, oDGet, oDIn, eBM, mApp, mExt, mPopAt, mIdx, cellL, iEv, iR1, iR2, iC, fLen, oLen, fMax, fMin, fAll, fAny, fSum, fSortI, fList, fTuple, fInt, fStr, fIsi, tyD, isLstD, isStrD, isDD, lstD, seqD, stD, eCallF, nAt, iSt, mJoin, mSplit, fAddI, sStar, iEnS, eSortSet, fSet, eLenSet, insAt, lkp, putD, ok_some, ok_none, ok_bind, ok_map, eq_int, eq_bl, sAsg, kb_NoneType_int, kb_NoneType_bool, kb_NoneType_str, kb_NoneType_tuple, kb_NoneType_list, kb_bool_int, kb_bool_bool, kb_bool_str, kb_bool_tuple, kb_bool_list, kb_int_int, kb_int_bool, kb_int_str, kb_int_tuple, kb_int_list, kb_str_int, kb_str_bool, kb_str_str, kb_str_tuple, kb_str_list, kb_tuple_int, kb_tuple_bool, kb_tuple_str, kb_tuple_tuple, kb_tuple_list, kb_list_int, kb_list_bool, kb_list_str, kb_list_tuple, kb_list_list, sz_0, sz_1, sz_2, sz_3, sz_4, sz_5, sz_6, sz_7, sz_8, sz_9, sz_10, sz_11, sz_12, sz_13, sz_14, sz_15, sz_16, ix_1_0, ix_2_0, ix_2_1, ix_3_0, ix_3_1, ix_3_2, ix_4_0, ix_4_1, ix_4_2, ix_4_3, ix_5_0, ix_5_1, ix_5_2, ix_5_3, ix_5_4, ix_6_0, ix_6_1, ix_6_2, ix_6_3, ix_6_4, ix_6_5, ix_7_0, ix_7_1, ix_7_2, ix_7_3, ix_7_4, ix_7_5, ix_7_6, sI_0, sI_1, sI_48271, sI_69621, wipeS]
      exact Array.mem_toList_iff.mp m
  have z : szOk (num n).length = true := by simp [szOk]; omega
  refine ok.get (den_ok rfl (seq_ok ?_))
  have c1 : decide ((1 : Int) ≤ ((num n).length : Nat)) = true := decide_eq_true (by omega)
  have c2 : decide (((num n).length : Int) ≤ 3) = true := decide_eq_true (by omega)
  simp [sNext, sIf, sBreak, sCont, sNever, sExpr, sRet, sRetO, sRetN, sSet, sAsg, gNm, gsNil, gsCons, gT, eD, eV, eBox, eNm, eC, eOp, eUn, aNil, aCons, eTup, eLst, eCB, bV, bAnd, bOr, bNot, eAnd, eOr, eNot, eIf, eChain, eCall, eFld, sFldS, sFldA, eMeth, eMake, bYes, fSub, fLt, fLe, fGt, fGe, fDiv, fMod, fPow, fNeg, fAdd, fMul, fIsN, fNotN, Yi.isNon, fEq, fNe, fIn, fInS, fIx, intR, oNo, oPart, fSl, eSl, eRev, sAppO, sExtO, sAug, oIx, oIn, oEq, sPar, sPar3, sSetIx, eDGet, eDIn, eDGet2, sDPutS, eDPop1, eDPop2, eDNewK, eDNewT, oDGet, oDIn, eBM, mApp, mExt, mPopAt, mIdx, cellL, iEv, iR1, iR2, iC, fLen, oLen, fMax, fMin, fAll, fAny, fSum, fSortI, fList, fTuple, fInt, fStr, fIsi, tyD, isLstD, isStrD, isDD, lstD, seqD, stD, eCallF, nAt, iSt, mJoin, mSplit, fAddI, sStar, iEnS, eSortSet, fSet, eLenSet, insAt, lkp, putD, ok_some, ok_none, ok_bind, ok_map, eq_int, eq_bl, sAsg, kb_NoneType_int, kb_NoneType_bool, kb_NoneType_str, kb_NoneType_tuple, kb_NoneType_list, kb_bool_int, kb_bool_bool, kb_bool_str, kb_bool_tuple, kb_bool_list, kb_int_int, kb_int_bool, kb_int_str, kb_int_tuple, kb_int_list, kb_str_int, kb_str_bool, kb_str_str, kb_str_tuple, kb_str_list, kb_tuple_int, kb_tuple_bool, kb_tuple_str, kb_tuple_tuple, kb_tuple_list, kb_list_int, kb_list_bool, kb_list_str, kb_list_tuple, kb_list_list, sz_0, sz_1, sz_2, sz_3, sz_4, sz_5, sz_6, sz_7, sz_8, sz_9, sz_10, sz_11, sz_12, sz_13, sz_14, sz_15, sz_16, ix_1_0, ix_2_0, ix_2_1, ix_3_0, ix_3_1, ix_3_2, ix_4_0, ix_4_1, ix_4_2, ix_4_3, ix_5_0, ix_5_1, ix_5_2, ix_5_3, ix_5_4, ix_6_0, ix_6_1, ix_6_2, ix_6_3, ix_6_4, ix_6_5, ix_7_0, ix_7_1, ix_7_2, ix_7_3, ix_7_4, ix_7_5, ix_7_6, sI_0, sI_1, sI_48271, sI_69621, z, e1, bls_true, c1, c2]
  have l640 : (num n).length ≤ 640 := by omega
  have it : intText? (num n) = some (n : Int) := int_num (by rw [← tn, ← len_tl]; omega)
  have can0 : PyData.canLay0 (.str "0") = true := by decide +kernel
  have q1 : eqD (.str (num n)) (.str "0") S = some (num n == "0") := eq_str (num_can n) can0
  by_cases hn : n = 0
  · have e0 : (num (n : Int) == "0") = true := by rw [show num (n : Int) = "0" by rw [hn]; exact num_0]; decide +kernel
    rw [e0] at q1
    simp [sNext, sIf, sBreak, sCont, sNever, sExpr, sRet, sRetO, sRetN, sSet, sAsg, gNm, gsNil, gsCons, gT, eD, eV, eBox, eNm, eC, eOp, eUn, aNil, aCons, eTup, eLst, eCB, bV, bAnd, bOr, bNot, eAnd, eOr, eNot, eIf, eChain, eCall, eFld, sFldS, sFldA, eMeth, eMake, bYes, fSub, fLt, fLe, fGt, fGe, fDiv, fMod, fPow, fNeg, fAdd, fMul, fIsN, fNotN, Yi.isNon, fEq, fNe, fIn, fInS, fIx, intR, oNo, oPart, fSl, eSl, eRev, sAppO, sExtO, sAug, oIx, oIn, oEq, sPar, sPar3, sSetIx, eDGet, eDIn, eDGet2, sDPutS, eDPop1, eDPop2, eDNewK, eDNewT, oDGet, oDIn, eBM, mApp, mExt, mPopAt, mIdx, cellL, iEv, iR1, iR2, iC, fLen, oLen, fMax, fMin, fAll, fAny, fSum, fSortI, fList, fTuple, fInt, fStr, fIsi, tyD, isLstD, isStrD, isDD, lstD, seqD, stD, eCallF, nAt, iSt, mJoin, mSplit, fAddI, sStar, iEnS, eSortSet, fSet, eLenSet, insAt, lkp, putD, ok_some, ok_none, ok_bind, ok_map, eq_int, eq_bl, sAsg, kb_NoneType_int, kb_NoneType_bool, kb_NoneType_str, kb_NoneType_tuple, kb_NoneType_list, kb_bool_int, kb_bool_bool, kb_bool_str, kb_bool_tuple, kb_bool_list, kb_int_int, kb_int_bool, kb_int_str, kb_int_tuple, kb_int_list, kb_str_int, kb_str_bool, kb_str_str, kb_str_tuple, kb_str_list, kb_tuple_int, kb_tuple_bool, kb_tuple_str, kb_tuple_tuple, kb_tuple_list, kb_list_int, kb_list_bool, kb_list_str, kb_list_tuple, kb_list_list, sz_0, sz_1, sz_2, sz_3, sz_4, sz_5, sz_6, sz_7, sz_8, sz_9, sz_10, sz_11, sz_12, sz_13, sz_14, sz_15, sz_16, ix_1_0, ix_2_0, ix_2_1, ix_3_0, ix_3_1, ix_3_2, ix_4_0, ix_4_1, ix_4_2, ix_4_3, ix_5_0, ix_5_1, ix_5_2, ix_5_3, ix_5_4, ix_6_0, ix_6_1, ix_6_2, ix_6_3, ix_6_4, ix_6_5, ix_7_0, ix_7_1, ix_7_2, ix_7_3, ix_7_4, ix_7_5, ix_7_6, sI_0, sI_1, sI_48271, sI_69621, q1, l640, it]
  · obtain ⟨c, r, e, hc⟩ := head_ne n (by omega)
    have a0 : atI (num n).cps.toList 0 = some c := by
      show atI (tl (num n)) 0 = some c
      rw [tn, e]
      simp [atI, ixN]
    have cl : c < 128 := by
      have := num_dig c (by rw [tn, e]; simp)
      omega
    have canc : PyData.canLay0 (.str ⟨#[c]⟩) = true := canL fun d hd => by
      have : d = c := by simpa [tl] using hd
      omega
    have q2 : eqD (.str ⟨#[c]⟩) (.str "0") S = some false := by
      rw [eq_str canc can0]
      congr 1
      have : (⟨#[c]⟩ : Str) ≠ "0" := fun q => by
        have := congrArg tl q
        rw [show tl ("0" : Str) = [48] by decide +kernel] at this
        simp [tl] at this
        exact hc this
      simpa using this
    have q3 : (num n == "0") = false := by
      have : num n ≠ "0" := fun q => by
        have := congrArg tl q
        rw [tn, e, show tl ("0" : Str) = [48] by decide +kernel] at this
        simp at this
        exact hc this.1
      simpa using this
    rw [q3] at q1
    simp [sNext, sIf, sBreak, sCont, sNever, sExpr, sRet, sRetO, sRetN, sSet, sAsg, gNm, gsNil, gsCons, gT, eD, eV, eBox, eNm, eC, eOp, eUn, aNil, aCons, eTup, eLst, eCB, bV, bAnd, bOr, bNot, eAnd, eOr, eNot, eIf, eChain, eCall, eFld, sFldS, sFldA, eMeth, eMake, bYes, fSub, fLt, fLe, fGt, fGe, fDiv, fMod, fPow, fNeg, fAdd, fMul, fIsN, fNotN, Yi.isNon, fEq, fNe, fIn, fInS, fIx, intR, oNo, oPart, fSl, eSl, eRev, sAppO, sExtO, sAug, oIx, oIn, oEq, sPar, sPar3, sSetIx, eDGet, eDIn, eDGet2, sDPutS, eDPop1, eDPop2, eDNewK, eDNewT, oDGet, oDIn, eBM, mApp, mExt, mPopAt, mIdx, cellL, iEv, iR1, iR2, iC, fLen, oLen, fMax, fMin, fAll, fAny, fSum, fSortI, fList, fTuple, fInt, fStr, fIsi, tyD, isLstD, isStrD, isDD, lstD, seqD, stD, eCallF, nAt, iSt, mJoin, mSplit, fAddI, sStar, iEnS, eSortSet, fSet, eLenSet, insAt, lkp, putD, ok_some, ok_none, ok_bind, ok_map, eq_int, eq_bl, sAsg, kb_NoneType_int, kb_NoneType_bool, kb_NoneType_str, kb_NoneType_tuple, kb_NoneType_list, kb_bool_int, kb_bool_bool, kb_bool_str, kb_bool_tuple, kb_bool_list, kb_int_int, kb_int_bool, kb_int_str, kb_int_tuple, kb_int_list, kb_str_int, kb_str_bool, kb_str_str, kb_str_tuple, kb_str_list, kb_tuple_int, kb_tuple_bool, kb_tuple_str, kb_tuple_tuple, kb_tuple_list, kb_list_int, kb_list_bool, kb_list_str, kb_list_tuple, kb_list_list, sz_0, sz_1, sz_2, sz_3, sz_4, sz_5, sz_6, sz_7, sz_8, sz_9, sz_10, sz_11, sz_12, sz_13, sz_14, sz_15, sz_16, ix_1_0, ix_2_0, ix_2_1, ix_3_0, ix_3_1, ix_3_2, ix_4_0, ix_4_1, ix_4_2, ix_4_3, ix_5_0, ix_5_1, ix_5_2, ix_5_3, ix_5_4, ix_6_0, ix_6_1, ix_6_2, ix_6_3, ix_6_4, ix_6_5, ix_7_0, ix_7_1, ix_7_2, ix_7_3, ix_7_4, ix_7_5, ix_7_6, sI_0, sI_1, sI_48271, sI_69621, q1, q2, a0, z, l640, it]
/-! ### words of a row, read -/
theorem ow_can {o : Option Int} (h : ∀ i, o = some i → 0 ≤ i ∧ i ≤ 999) : PyData.canLay0 (.str (ow o)) = true := by
  cases o with
  | none => show PyData.canLay0 (.str "-") = true; decide +kernel
  | some i =>
    obtain ⟨n, rfl⟩ : ∃ n : Nat, i = n := ⟨i.toNat, by have := h i rfl; omega⟩
    exact num_can n
theorem num_word {o : Option Int} {ρ : Slt} {S : Sto} (h : ∀ i, o = some i → 0 ≤ i ∧ i ≤ 999) (h8 : ρ[8]? = some (some (.d (.str (ow o))))) :
    eD (eIf (bV (eOp fEq (eNm 8) (eC (.str "-")))) (eC .non) (eCall d_number_of (aCons (eNm 8) aNil) [])) ρ S = some (oD o, S) := by
  have can0 : PyData.canLay0 (.str "-") = true := by decide +kernel
  have q1 : eqD (.str (ow o)) (.str "-") S = some (ow o == "-") := eq_str (ow_can h) can0
  refine ok.get ?_
  cases o with
  | none =>
    have e0 : (ow none == "-") = true := by show (("-" : Str) == "-") = true; decide +kernel
    rw [e0] at q1
    simp [sNext, sIf, sBreak, sCont, sNever, sExpr, sRet, sRetO, sRetN, sSet, sAsg, gNm, gsNil, gsCons, gT, eD, eV, eBox, eNm, eC, eOp, eUn, aNil, aCons, eTup, eLst, eCB, bV, bAnd, bOr, bNot, eAnd, eOr, eNot, eIf, eChain, eCall, eFld, sFldS, sFldA, eMeth, eMake, bYes, fSub, fLt, fLe, fGt, fGe, fDiv, fMod, fPow, fNeg, fAdd, fMul, fIsN, fNotN, Yi.isNon, fEq, fNe, fIn, fInS, fIx, intR, oNo, oPart, fSl, eSl, eRev, sAppO, sExtO, sAug, oIx, oIn, oEq, sPar, sPar3, sSetIx, eDGet, eDIn, eDGet2, sDPutS, eDPop1, eDPop2, eDNewK, eDNewT, oDGet, oDIn, eBM, mApp, mExt, mPopAt, mIdx, cellL, iEv, iR1, iR2, iC, fLen, oLen, fMax, fMin, fAll, fAny, fSum, fSortI, fList, fTuple, fInt, fStr, fIsi, tyD, isLstD, isStrD, isDD, lstD, seqD, stD, eCallF, nAt, iSt, mJoin, mSplit, fAddI, sStar, iEnS, eSortSet, fSet, eLenSet, insAt, lkp, putD, ok_some, ok_none, ok_bind, ok_map, eq_int, eq_bl, sAsg, kb_NoneType_int, kb_NoneType_bool, kb_NoneType_str, kb_NoneType_tuple, kb_NoneType_list, kb_bool_int, kb_bool_bool, kb_bool_str, kb_bool_tuple, kb_bool_list, kb_int_int, kb_int_bool, kb_int_str, kb_int_tuple, kb_int_list, kb_str_int, kb_str_bool, kb_str_str, kb_str_tuple, kb_str_list, kb_tuple_int, kb_tuple_bool, kb_tuple_str, kb_tuple_tuple, kb_tuple_list, kb_list_int, kb_list_bool, kb_list_str, kb_list_tuple, kb_list_list, sz_0, sz_1, sz_2, sz_3, sz_4, sz_5, sz_6, sz_7, sz_8, sz_9, sz_10, sz_11, sz_12, sz_13, sz_14, sz_15, sz_16, ix_1_0, ix_2_0, ix_2_1, ix_3_0, ix_3_1, ix_3_2, ix_4_0, ix_4_1, ix_4_2, ix_4_3, ix_5_0, ix_5_1, ix_5_2, ix_5_3, ix_5_4, ix_6_0, ix_6_1, ix_6_2, ix_6_3, ix_6_4, ix_6_5, ix_7_0, ix_7_1, ix_7_2, ix_7_3, ix_7_4, ix_7_5, ix_7_6, sI_0, sI_1, sI_48271, sI_69621, h8, q1, oD]
  | some i =>
    obtain ⟨n, rfl⟩ : ∃ n : Nat, i = n := ⟨i.toNat, by have := h i rfl; omega⟩
    have hn : n ≤ 999 := by have := h n rfl; omega
    have e0 : (ow (some (n : Int)) == "-") = false := by
      have : ow (some (n : Int)) ≠ "-" := fun q => by
        have h2 := congrArg tl q
        rw [show tl ("-" : Str) = [45] by decide +kernel] at h2
        have := num_dig (n := n) 45 (by rw [show tl (num n) = [45] from h2]; simp)
        omega
      simpa using this
    rw [e0] at q1
    have r := number_of_ok (S := S) hn
    have ew : ow (some (n : Int)) = num n := rfl
    rw [ew] at h8 q1
    simp [sNext, sIf, sBreak, sCont, sNever, sExpr, sRet, sRetO, sRetN, sSet, sAsg, gNm, gsNil, gsCons, gT, eD, eV, eBox, eNm, eC, eOp, eUn, aNil, aCons, eTup, eLst, eCB, bV, bAnd, bOr, bNot, eAnd, eOr, eNot, eIf, eChain, eCall, eFld, sFldS, sFldA, eMeth, eMake, bYes, fSub, fLt, fLe, fGt, fGe, fDiv, fMod, fPow, fNeg, fAdd, fMul, fIsN, fNotN, Yi.isNon, fEq, fNe, fIn, fInS, fIx, intR, oNo, oPart, fSl, eSl, eRev, sAppO, sExtO, sAug, oIx, oIn, oEq, sPar, sPar3, sSetIx, eDGet, eDIn, eDGet2, sDPutS, eDPop1, eDPop2, eDNewK, eDNewT, oDGet, oDIn, eBM, mApp, mExt, mPopAt, mIdx, cellL, iEv, iR1, iR2, iC, fLen, oLen, fMax, fMin, fAll, fAny, fSum, fSortI, fList, fTuple, fInt, fStr, fIsi, tyD, isLstD, isStrD, isDD, lstD, seqD, stD, eCallF, nAt, iSt, mJoin, mSplit, fAddI, sStar, iEnS, eSortSet, fSet, eLenSet, insAt, lkp, putD, ok_some, ok_none, ok_bind, ok_map, eq_int, eq_bl, sAsg, kb_NoneType_int, kb_NoneType_bool, kb_NoneType_str, kb_NoneType_tuple, kb_NoneType_list, kb_bool_int, kb_bool_bool, kb_bool_str, kb_bool_tuple, kb_bool_list, kb_int_int, kb_int_bool, kb_int_str, kb_int_tuple, kb_int_list, kb_str_int, kb_str_bool, kb_str_str, kb_str_tuple, kb_str_list, kb_tuple_int, kb_tuple_bool, kb_tuple_str, kb_tuple_tuple, kb_tuple_list, kb_list_int, kb_list_bool, kb_list_str, kb_list_tuple, kb_list_list, sz_0, sz_1, sz_2, sz_3, sz_4, sz_5, sz_6, sz_7, sz_8, sz_9, sz_10, sz_11, sz_12, sz_13, sz_14, sz_15, sz_16, ix_1_0, ix_2_0, ix_2_1, ix_3_0, ix_3_1, ix_3_2, ix_4_0, ix_4_1, ix_4_2, ix_4_3, ix_5_0, ix_5_1, ix_5_2, ix_5_3, ix_5_4, ix_6_0, ix_6_1, ix_6_2, ix_6_3, ix_6_4, ix_6_5, ix_7_0, ix_7_1, ix_7_2, ix_7_3, ix_7_4, ix_7_5, ix_7_6, sI_0, sI_1, sI_48271, sI_69621, h8, q1, r, oD]
theorem nums_lc {os : List (Option Int)} {ρ : Slt} {S : Sto} (h7 : ρ[7]? = some (some (.d (.fl ((os.map ow).map .str))))) (h8 : 8 < ρ.length) (hl : os.length ≤ 1000) (h : ∀ o ∈ os, ∀ i, o = some i → 0 ≤ i ∧ i ≤ 999) :
    eLc (iEv (eNm 7)) (gNm 8) bYes (eIf (bV (eOp fEq (eNm 8) (eC (.str "-")))) (eC .non) (eCall d_number_of (aCons (eNm 8) aNil) [])) [8] ρ S = some (.own (.lst (os.map oD)), S) := by
  have i3 : iEv (eNm 7) ρ S = some ((os.map fun o => .str (ow o)), S) := by simp [iEv, eD, eNm, h7, stD]
  refine lc_eq i3 ?_
  rw [compL_rel (f := oD) os [] (by simp; omega) ?_]
  · rw [List.nil_append]
  · intro o ho
    refine ⟨_, rfl, rfl, num_word (h o ho) ?_⟩
    rw [List.getElem?_set_self (by rw [wipeS_len]; exact h8)]
end Wk
namespace Wk
open PySem L2 Yi TL
/-! ### the reader's state -/
abbrev Pn := Nat × Nat × Rl
def fD (p : Pn) : D := .fl [.ref p.1, .int p.2.2.least, .ref p.2.1, oD p.2.2.wait, oD p.2.2.fur]
def flds (b : Nat) (st : Int) : List (Str × D) := [("found", .ref (b + 1)), ("notices", .ref (b + 2)), ("stage", .int st)]
def rdr (b : Nat) (st : Int) : Cell := .ins 0 (flds b st)
structure Rd (b : Nat) (S S2 : Sto) (ps : List Pn) (ns : List Nt) (st : Int) : Prop where
  k : ∀ n, n < b → S2[n]? = S[n]?
  o : S2[b]? = some (rdr b st)
  f : S2[b + 1]? = some (Cell.lst (ps.map fD))
  n : S2[b + 2]? = some (Cell.lst (ns.map nD))
  c : ∀ p ∈ ps, S2[p.1]? = some (Cell.lst (p.2.2.hs.map pD)) ∧ S2[p.2.1]? = some (Cell.lst (p.2.2.gs.map pD)) ∧ b + 2 < p.1 ∧ p.1 < p.2.1
  d : ps.Pairwise fun p q => p.2.1 < q.1
theorem lt_of_get {S : Sto} {n : Nat} {c : Cell} (h : S[n]? = some c) : n < S.length := (List.getElem?_eq_some_iff.mp h).1
theorem get_push {S : Sto} {n : Nat} {c x : Cell} (h : S[n]? = some c) : (S ++ [x])[n]? = some c := by
  rw [List.getElem?_append_left (lt_of_get h)]
  exact h
theorem get_new {S : Sto} {x : Cell} : (S ++ [x])[S.length]? = some x := by simp
section
variable {b : Nat} {S S2 : Sto} {ps : List Pn} {ns : List Nt} {st : Int}
theorem Rd.len (r : Rd b S S2 ps ns st) : b + 2 < S2.length := lt_of_get r.n
theorem Rd.push (r : Rd b S S2 ps ns st) (x : Cell) : Rd b S (S2 ++ [x]) ps ns st := by
  have l := r.len
  exact ⟨fun n h => by rw [List.getElem?_append_left (by omega)]; exact r.k n h, get_push r.o, get_push r.f, get_push r.n, fun p hp => ⟨get_push (r.c p hp).1, get_push (r.c p hp).2.1, (r.c p hp).2.2⟩, r.d⟩
theorem Rd.stage (r : Rd b S S2 ps ns st) (st' : Int) : Rd b S (S2.set b (rdr b st')) ps ns st' := by
  have l := r.len
  refine ⟨fun n h => by rw [List.getElem?_set_ne (by omega)]; exact r.k n h, List.getElem?_set_self (by omega), by rw [List.getElem?_set_ne (by omega)]; exact r.f, by rw [List.getElem?_set_ne (by omega)]; exact r.n, fun p hp => ?_, r.d⟩
  obtain ⟨c1, c2, c3, c4⟩ := r.c p hp
  exact ⟨by rw [List.getElem?_set_ne (by omega)]; exact c1, by rw [List.getElem?_set_ne (by omega)]; exact c2, c3, c4⟩
theorem Rd.person (r : Rd b S S2 ps ns st) (p : Pn) (e1 : p.1 = S2.length) (e2 : p.2.1 = S2.length + 1) (e3 : p.2.2.hs = []) (e4 : p.2.2.gs = []) :
    Rd b S (((S2 ++ [Cell.lst []]) ++ [Cell.lst []]).set (b + 1) (Cell.lst (ps.map fD ++ [fD p]))) (ps ++ [p]) ns st := by
  have l := r.len
  have r2 := (r.push (.lst [])).push (.lst [])
  refine ⟨fun n h => by rw [List.getElem?_set_ne (by omega)]; exact r2.k n h, by rw [List.getElem?_set_ne (by omega)]; exact r2.o, by rw [List.getElem?_set_self (by simp; omega), List.map_append]; rfl, by rw [List.getElem?_set_ne (by omega)]; exact r2.n, fun q hq => ?_, ?_⟩
  · rcases List.mem_append.mp hq with hq | hq
    · obtain ⟨c1, c2, c3, c4⟩ := r2.c q hq
      exact ⟨by rw [List.getElem?_set_ne (by omega)]; exact c1, by rw [List.getElem?_set_ne (by omega)]; exact c2, c3, c4⟩
    · have : q = p := by simpa using hq
      subst this
      rw [e1, e2, e3, e4]
      refine ⟨?_, ?_, by omega, by omega⟩
      · rw [List.getElem?_set_ne (by omega)]
        exact get_push get_new
      · rw [List.getElem?_set_ne (by omega)]
        have : S2.length + 1 = (S2 ++ [Cell.lst []]).length := by simp
        rw [this]
        exact get_new
  · refine List.pairwise_append.mpr ⟨r.d, by simp, fun q hq q' hq' => ?_⟩
    have : q' = p := by simpa using hq'
    subst this
    have := lt_of_get (r.c q hq).2.1
    omega
theorem Rd.last {p : Pn} (r : Rd b S S2 (ps ++ [p]) ns st) : ∀ q ∈ ps, q.2.1 < p.1 := fun q hq => (List.pairwise_append.mp r.d).2.2 q hq p (by simp)
theorem Rd.hush {p : Pn} (r : Rd b S S2 (ps ++ [p]) ns st) (z : Int × Int) :
    Rd b S (S2.set p.1 (Cell.lst (p.2.2.hs.map pD ++ [pD z]))) (ps ++ [(p.1, p.2.1, { p.2.2 with hs := p.2.2.hs ++ [z] })]) ns st := by
  have hl := r.last
  obtain ⟨c1, c2, c3, c4⟩ := r.c p (by simp)
  have lp := lt_of_get c1
  have em : (ps ++ [(p.1, p.2.1, { p.2.2 with hs := p.2.2.hs ++ [z] })]).map fD = (ps ++ [p]).map fD := by simp [fD]
  refine ⟨fun n h => by rw [List.getElem?_set_ne (by omega)]; exact r.k n h, by rw [List.getElem?_set_ne (by omega)]; exact r.o, by rw [List.getElem?_set_ne (by omega), em]; exact r.f, by rw [List.getElem?_set_ne (by omega)]; exact r.n, fun q hq => ?_, ?_⟩
  · rcases List.mem_append.mp hq with hq | hq
    · have := hl q hq
      obtain ⟨d1, d2, d3, d4⟩ := r.c q (by simp [hq])
      exact ⟨by rw [List.getElem?_set_ne (by omega)]; exact d1, by rw [List.getElem?_set_ne (by omega)]; exact d2, d3, d4⟩
    · have : q = (p.1, p.2.1, { p.2.2 with hs := p.2.2.hs ++ [z] }) := by simpa using hq
      subst this
      exact ⟨by rw [List.getElem?_set_self lp, List.map_append]; rfl, by rw [List.getElem?_set_ne (Nat.ne_of_lt c4)]; exact c2, c3, c4⟩
  · obtain ⟨d1, d2, d3⟩ := List.pairwise_append.mp r.d
    exact List.pairwise_append.mpr ⟨d1, by simp, fun q hq q' hq' => by
      have : q' = (p.1, p.2.1, { p.2.2 with hs := p.2.2.hs ++ [z] }) := by simpa using hq'
      subst this
      exact hl q hq⟩
theorem Rd.gather {p : Pn} (r : Rd b S S2 (ps ++ [p]) ns st) (z : Int × Int) :
    Rd b S (S2.set p.2.1 (Cell.lst (p.2.2.gs.map pD ++ [pD z]))) (ps ++ [(p.1, p.2.1, { p.2.2 with gs := p.2.2.gs ++ [z] })]) ns st := by
  have hl := r.last
  obtain ⟨c1, c2, c3, c4⟩ := r.c p (by simp)
  have lp := lt_of_get c2
  have em : (ps ++ [(p.1, p.2.1, { p.2.2 with gs := p.2.2.gs ++ [z] })]).map fD = (ps ++ [p]).map fD := by simp [fD]
  refine ⟨fun n h => by rw [List.getElem?_set_ne (by omega)]; exact r.k n h, by rw [List.getElem?_set_ne (by omega)]; exact r.o, by rw [List.getElem?_set_ne (by omega), em]; exact r.f, by rw [List.getElem?_set_ne (by omega)]; exact r.n, fun q hq => ?_, ?_⟩
  · rcases List.mem_append.mp hq with hq | hq
    · have := hl q hq
      obtain ⟨d1, d2, d3, d4⟩ := r.c q (by simp [hq])
      exact ⟨by rw [List.getElem?_set_ne (by omega)]; exact d1, by rw [List.getElem?_set_ne (by omega)]; exact d2, d3, d4⟩
    · have : q = (p.1, p.2.1, { p.2.2 with gs := p.2.2.gs ++ [z] }) := by simpa using hq
      subst this
      exact ⟨by rw [List.getElem?_set_ne (Nat.ne_of_gt c4)]; exact c1, by rw [List.getElem?_set_self lp, List.map_append]; rfl, c3, c4⟩
  · obtain ⟨d1, d2, d3⟩ := List.pairwise_append.mp r.d
    exact List.pairwise_append.mpr ⟨d1, by simp, fun q hq q' hq' => by
      have : q' = (p.1, p.2.1, { p.2.2 with gs := p.2.2.gs ++ [z] }) := by simpa using hq'
      subst this
      exact hl q hq⟩
theorem Rd.notice (r : Rd b S S2 ps ns st) (z : Nt) : Rd b S (S2.set (b + 2) (Cell.lst (ns.map nD ++ [nD z]))) ps (ns ++ [z]) st := by
  have l := r.len
  refine ⟨fun n h => by rw [List.getElem?_set_ne (by omega)]; exact r.k n h, by rw [List.getElem?_set_ne (by omega)]; exact r.o, by rw [List.getElem?_set_ne (by omega)]; exact r.f, by rw [List.getElem?_set_self l, List.map_append]; rfl, fun q hq => ?_, r.d⟩
  obtain ⟨d1, d2, d3, d4⟩ := r.c q hq
  exact ⟨by rw [List.getElem?_set_ne (by omega)]; exact d1, by rw [List.getElem?_set_ne (by omega)]; exact d2, d3, d4⟩
/-- no person yet, or some: the compare with the empty list -/
theorem Rd.empty (r : Rd b S S2 ps ns st) (h : ps ≠ []) : eqD (.ref (b + 1)) (.ref S2.length) (S2 ++ [Cell.lst []]) = some false := by
  have r2 := r.push (.lst [])
  have pr : ∀ l : List (Int × Int), shps 9 (l.map pD) (l.map fun p => .tuple [.int p.1, .int p.2]) (S2 ++ [Cell.lst []]) := fun l => shps_map fun p _ => by simp [pD, shp, shps]
  have os : ∀ o : Option Int, shp 10 (oD o) (match o with | none => .none | some i => .int i) (S2 ++ [Cell.lst []]) := fun o => by cases o <;> simp [oD, shp]
  have hs : shps 11 (ps.map fD) (ps.map fun p => .list [.list (p.2.2.hs.map fun p => .tuple [.int p.1, .int p.2]), .int p.2.2.least, .list (p.2.2.gs.map fun p => .tuple [.int p.1, .int p.2]), (match p.2.2.wait with | none => .none | some i => .int i), match p.2.2.fur with | none => .none | some i => .int i]) (S2 ++ [Cell.lst []]) := by
    refine shps_map fun p hp => ?_
    obtain ⟨c1, c2, _⟩ := r2.c p hp
    simp only [fD, shp]
    refine ⟨_, rfl, ?_⟩
    simp only [shps]
    exact ⟨_, _, rfl, by simp only [shp]; exact ⟨_, _, c1, rfl, pr _⟩, _, _, rfl, by simp only [shp], _, _, rfl, by simp only [shp]; exact ⟨_, _, c2, rfl, pr _⟩, _, _, rfl, os _, _, _, rfl, os _, rfl⟩
  have h1 : shp 12 (.ref (b + 1)) (.list (ps.map fun p => .list [.list (p.2.2.hs.map fun p => .tuple [.int p.1, .int p.2]), .int p.2.2.least, .list (p.2.2.gs.map fun p => .tuple [.int p.1, .int p.2]), (match p.2.2.wait with | none => .none | some i => .int i), match p.2.2.fur with | none => .none | some i => .int i])) (S2 ++ [Cell.lst []]) := by
    simp only [shp]
    exact ⟨_, _, r2.f, rfl, hs⟩
  have h2 : shp 12 (.ref S2.length) (.list []) (S2 ++ [Cell.lst []]) := by
    simp only [shp]
    exact ⟨[], [], get_new, rfl, by simp only [shps]⟩
  rw [shp_eq h1 h2]
  cases ps with
  | nil => exact absurd rfl h
  | cons p r => simp [PyData.eqv, PyData.eqvAll]
end
end Wk
namespace Wk
open PySem L2 Yi TL
/-! ### a row taken -/
def stgK : List (Key × D) := [(.inr "person", .int 0), (.inr "hush", .int 1), (.inr "gather", .int 2), (.inr "notice", .int 3)]
def szsK : List (Key × D) := [(.inr "person", .int 3), (.inr "hush", .int 2), (.inr "gather", .int 2), (.inr "notice", .int 4)]
theorem n_hp : ("hush" : Str) ≠ "person" := by decide +kernel
theorem n_gp : ("gather" : Str) ≠ "person" := by decide +kernel
theorem n_gh : ("gather" : Str) ≠ "hush" := by decide +kernel
theorem n_np : ("notice" : Str) ≠ "person" := by decide +kernel
theorem n_nh : ("notice" : Str) ≠ "hush" := by decide +kernel
theorem n_ng : ("notice" : Str) ≠ "gather" := by decide +kernel
theorem n_hn : ("hush" : Str) ≠ "notice" := by decide +kernel
theorem n_gn : ("gather" : Str) ≠ "notice" := by decide +kernel
theorem n_pn : ("person" : Str) ≠ "notice" := by decide +kernel
theorem s_p : lkp (.inr "person" : Key) stgK = some (.int 0) := by simp [stgK, lkp]
theorem s_h : lkp (.inr "hush" : Key) stgK = some (.int 1) := by simp [stgK, lkp, n_hp]
theorem s_g : lkp (.inr "gather" : Key) stgK = some (.int 2) := by simp [stgK, lkp, n_gp, n_gh]
theorem s_n : lkp (.inr "notice" : Key) stgK = some (.int 3) := by simp [stgK, lkp, n_np, n_nh, n_ng]
theorem z_p : lkp (.inr "person" : Key) szsK = some (.int 3) := by simp [szsK, lkp]
theorem z_h : lkp (.inr "hush" : Key) szsK = some (.int 2) := by simp [szsK, lkp, n_hp]
theorem z_g : lkp (.inr "gather" : Key) szsK = some (.int 2) := by simp [szsK, lkp, n_gp, n_gh]
theorem z_n : lkp (.inr "notice" : Key) szsK = some (.int 4) := by simp [szsK, lkp, n_np, n_nh, n_ng]
theorem can_p : PyData.canLay0 (.str "person") = true := by decide +kernel
theorem can_h : PyData.canLay0 (.str "hush") = true := by decide +kernel
theorem can_g : PyData.canLay0 (.str "gather") = true := by decide +kernel
theorem can_n : PyData.canLay0 (.str "notice") = true := by decide +kernel
theorem e_pp (S : Sto) : eqD (.str "person") (.str "person") S = some true := by rw [eq_str can_p can_p]; decide +kernel
theorem e_hp (S : Sto) : eqD (.str "hush") (.str "person") S = some false := by rw [eq_str can_h can_p]; decide +kernel
theorem e_gp (S : Sto) : eqD (.str "gather") (.str "person") S = some false := by rw [eq_str can_g can_p]; decide +kernel
theorem e_np (S : Sto) : eqD (.str "notice") (.str "person") S = some false := by rw [eq_str can_n can_p]; decide +kernel
theorem e_hn (S : Sto) : eqD (.str "hush") (.str "notice") S = some false := by rw [eq_str can_h can_n]; decide +kernel
theorem e_gn (S : Sto) : eqD (.str "gather") (.str "notice") S = some false := by rw [eq_str can_g can_n]; decide +kernel
theorem e_nn (S : Sto) : eqD (.str "notice") (.str "notice") S = some true := by rw [eq_str can_n can_n]; decide +kernel
theorem e_hh (S : Sto) : eqD (.str "hush") (.str "hush") S = some true := by rw [eq_str can_h can_h]; decide +kernel
theorem e_gh (S : Sto) : eqD (.str "gather") (.str "hush") S = some false := by rw [eq_str can_g can_h]; decide +kernel
theorem disp_s (ρ : Slt) (S : Sto) : eDisp (((eC (.str "person")), (eC (.int 0))) :: ((eC (.str "hush")), (eC (.int 1))) :: ((eC (.str "gather")), (eC (.int 2))) :: ((eC (.str "notice")), (eC (.int 3))) :: []) ρ S = some (.own (.dk stgK), S) := by
  simp [eDisp, mP, eD, eC, keyK, mergeKD, putKD, stgK, n_hp, n_gp, n_gh, n_np, n_nh, n_ng, n_hp.symm, n_gp.symm, n_gh.symm, n_np.symm, n_nh.symm, n_ng.symm]
theorem disp_z (ρ : Slt) (S : Sto) : eDisp (((eC (.str "person")), (eC (.int 3))) :: ((eC (.str "hush")), (eC (.int 2))) :: ((eC (.str "gather")), (eC (.int 2))) :: ((eC (.str "notice")), (eC (.int 4))) :: []) ρ S = some (.own (.dk szsK), S) := by
  simp [eDisp, mP, eD, eC, keyK, mergeKD, putKD, szsK, n_hp, n_gp, n_gh, n_np, n_nh, n_ng, n_hp.symm, n_gp.symm, n_gh.symm, n_np.symm, n_nh.symm, n_ng.symm]
/-- the slots behind the first four statements -/
def tks (b : Nat) (q : Str × List (Option Int)) (k : Int) : Slt := [some (.d (.ref b)), some (.d (.fl ((q.1 :: q.2.map ow).map .str))), some (.d (.int k)), some (.d (.fl (q.2.map oD))), some (.own (.dk stgK)), some (.own (.dk szsK)), some (.d (.str q.1)), some (.d (.fl ((q.2.map ow).map .str))), none]
def t_c1 : SM := sIf (bOr (bV (oDIn true (eNm 6) 4)) (bOr (bV (eOp fNe (eCB fLen (aCons (eNm 7) aNil)) (oDGet 5 (eNm 6)))) (bOr (bV (eOp (fIn false) (eUn fNeg (eC (.int 1))) (eNm 3))) (bV (eOp (fIn false) (eC .non) (eSl (eNm 3) oNo (oPart (eC (.int 1))))))))) sNever sNext
def t_c2 : SM := sIf (bAnd (bV (eOp fNe (eNm 6) (eC (.str "person")))) (bOr (bV (eOp (fIn false) (eC .non) (eNm 3))) (bOr (bV (eOp fEq (eFld 0 "found" (eNm 0)) (eBox (eLst aNil)))) (bV (eOp fLt (oDGet 4 (eNm 6)) (eFld 0 "stage" (eNm 0))))))) sNever sNext
def t_c3 : SM := sIf (bAnd (bV (eOp fEq (eNm 6) (eC (.str "person")))) (bV (eOp fEq (eFld 0 "stage" (eNm 0)) (eC (.int 3))))) sNever sNext
def t_st : SM := sFldS 0 "stage" (eNm 0) (oDGet 4 (eNm 6))
def t_do : SM := sIf (bV (eOp fEq (eNm 6) (eC (.str "person")))) (sExpr (eBM isLstD mApp (eFld 0 "found" (eNm 0)) (aCons (eLst (aCons (eBox (eLst aNil)) (aCons (eOp fIx (eNm 3) (eC (.int 0))) (aCons (eBox (eLst aNil)) (aCons (eOp fIx (eNm 3) (eC (.int 1))) (aCons (eOp fIx (eNm 3) (eC (.int 2))) aNil)))))) aNil))) (sIf (bV (eOp fEq (eNm 6) (eC (.str "notice")))) (sExpr (eBM isLstD mApp (eFld 0 "notices" (eNm 0)) (aCons (eCB fTuple (aCons (eNm 3) aNil)) aNil))) (sExpr (eBM isLstD mApp (eOp fIx (eOp fIx (eFld 0 "found" (eNm 0)) (eUn fNeg (eC (.int 1)))) (eIf (bV (eOp fEq (eNm 6) (eC (.str "hush")))) (eC (.int 0)) (eC (.int 2)))) (aCons (eCB fTuple (aCons (eNm 3) aNil)) aNil))))
theorem oD_some (i : Int) : oD (some i) = .int i := rfl
def tkD (b : Nat) (q : Str × List (Option Int)) (k : Int) (S : Sto) : Option (VV × Sto) := d_Reader_take [.ref b, .fl ((q.1 :: q.2.map ow).map .str), .int k] S
theorem take_head {b : Nat} {q : Str × List (Option Int)} {k : Int} {S : Sto} {Q : VV × Sto → Prop} (h : RowOk q) (hq : ok (sSeq t_c1 (sSeq t_c2 (sSeq t_c3 (sSeq t_st t_do))) (tks b q k) S) fun p => p.1 = .nx ∧ Q (.d .non, p.2.2)) :
    ok (tkD b q k S) Q := by
  unfold tkD
  refine den_ok rfl ?_
  unfold m_Reader_take
  have l4 := h.l
  refine seq_ok ((ok_eq (show sStar 6 7 (eNm 1) _ S = some (.nx, [some (.d (.ref b)), some (.d (.fl ((q.1 :: q.2.map ow).map .str))), some (.d (.int k)), none, none, none, some (.d (.str q.1)), some (.d (.fl ((q.2.map ow).map .str))), none], S) from rfl)).mpr ⟨rfl, ?_⟩)
  have e3 := nums_lc (os := q.2) (ρ := [some (.d (.ref b)), some (.d (.fl ((q.1 :: q.2.map ow).map .str))), some (.d (.int k)), none, none, none, some (.d (.str q.1)), some (.d (.fl ((q.2.map ow).map .str))), none]) (S := S) rfl (by simp) (by omega) h.n
  have e4 : sSet 3 (eV (eD (eLc (iEv (eNm 7)) (gNm 8) bYes (eIf (bV (eOp fEq (eNm 8) (eC (.str "-")))) (eC .non) (eCall d_number_of (aCons (eNm 8) aNil) [])) [8]))) [some (.d (.ref b)), some (.d (.fl ((q.1 :: q.2.map ow).map .str))), some (.d (.int k)), none, none, none, some (.d (.str q.1)), some (.d (.fl ((q.2.map ow).map .str))), none] S = some (.nx, [some (.d (.ref b)), some (.d (.fl ((q.1 :: q.2.map ow).map .str))), some (.d (.int k)), some (.d (.fl (q.2.map oD))), none, none, some (.d (.str q.1)), some (.d (.fl ((q.2.map ow).map .str))), none], S) := by
    unfold sSet eV eD
    rw [e3]
    rfl
  refine seq_ok ((ok_eq e4).mpr ⟨rfl, ?_⟩)
  refine seq_ok ((ok_eq (show sSet 4 (eDisp (((eC (.str "person")), (eC (.int 0))) :: ((eC (.str "hush")), (eC (.int 1))) :: ((eC (.str "gather")), (eC (.int 2))) :: ((eC (.str "notice")), (eC (.int 3))) :: [])) [some (.d (.ref b)), some (.d (.fl ((q.1 :: q.2.map ow).map .str))), some (.d (.int k)), some (.d (.fl (q.2.map oD))), none, none, some (.d (.str q.1)), some (.d (.fl ((q.2.map ow).map .str))), none] S = some (.nx, [some (.d (.ref b)), some (.d (.fl ((q.1 :: q.2.map ow).map .str))), some (.d (.int k)), some (.d (.fl (q.2.map oD))), some (.own (.dk stgK)), none, some (.d (.str q.1)), some (.d (.fl ((q.2.map ow).map .str))), none], S) by unfold sSet; rw [disp_s]; rfl)).mpr ⟨rfl, ?_⟩)
  refine seq_ok ((ok_eq (show sSet 5 (eDisp (((eC (.str "person")), (eC (.int 3))) :: ((eC (.str "hush")), (eC (.int 2))) :: ((eC (.str "gather")), (eC (.int 2))) :: ((eC (.str "notice")), (eC (.int 4))) :: [])) [some (.d (.ref b)), some (.d (.fl ((q.1 :: q.2.map ow).map .str))), some (.d (.int k)), some (.d (.fl (q.2.map oD))), some (.own (.dk stgK)), none, some (.d (.str q.1)), some (.d (.fl ((q.2.map ow).map .str))), none] S = some (.nx, tks b q k, S) by unfold sSet; rw [disp_z]; rfl)).mpr ⟨rfl, ?_⟩)
  refine hq.mono fun ⟨f, ρ, S'⟩ ⟨e, h⟩ => ?_
  dsimp only at e h
  subst e
  exact h
theorem flat_oD : ∀ os : List (Option Int), (os.map oD).all flatD = true
  | [] => rfl
  | none :: r => by simp only [List.map_cons, List.all_cons, flat_oD r]; rfl
  | some i :: r => by simp only [List.map_cons, List.all_cons, flat_oD r]; rfl
theorem neg_in {os : List (Option Int)} (h : ∀ o ∈ os, ∀ i, o = some i → 0 ≤ i ∧ i ≤ 999) : inF (.int (-1)) (os.map oD) = false := by
  unfold inF
  rw [List.any_eq_false]
  intro d hd
  obtain ⟨o, ho, rfl⟩ := List.mem_map.mp hd
  cases o with
  | none => simp [oD, eqF]
  | some i =>
    have := h _ ho i rfl
    simp [oD, eqF]
    omega
theorem non_in (is : List Int) : inF .non ((is.map some).map oD) = false := by
  unfold inF
  rw [List.any_eq_false]
  intro d hd
  obtain ⟨o, ho, rfl⟩ := List.mem_map.mp hd
  obtain ⟨i, _, rfl⟩ := List.mem_map.mp ho
  simp [oD, eqF]
theorem c1_ok {b : Nat} {w : Str} {i : Int} {os : List (Option Int)} {k s : Int} {S : Sto} (h : RowOk (w, some i :: os)) (hs : lkp (.inr w : Key) stgK = some (.int s)) (hz : lkp (.inr w : Key) szsK = some (.int (os.length + 1 : Nat))) :
    t_c1 (tks b (w, some i :: os) k) S = some (.nx, tks b (w, some i :: os) k, S) := by
  have f1 : ∀ S, fIn false (.int (-1)) (.fl (.int i :: os.map oD)) S = some (.d (.bl false)) := fun S => by
    show (if (flatD (.int (-1)) && ((some i :: os).map oD).all flatD) = true then some (VV.d (.bl (inF (.int (-1)) ((some i :: os).map oD)))) else none) = _
    rw [flat_oD, neg_in h.n]
    rfl
  have f2 : ∀ S, fIn false .non (.fl [.int i]) S = some (.d (.bl false)) := fun S => rfl
  have c1 : cutL (D.int i :: os.map oD) none (some 1) = [.int i] := by
    unfold cutL
    simp [HT.sIx]
  refine ok.get ?_
  simp [t_c1, tks, sNext, sIf, sBreak, sCont, sNever, sExpr, sRet, sRetO, sRetN, sSet, sAsg, gNm, gsNil, gsCons, gT, eD, eV, eBox, eNm, eC, eOp, eUn, aNil, aCons, eTup, eLst, eCB, bV, bAnd, bOr, bNot, eAnd, eOr, eNot, eIf, eChain, eCall, eFld, sFldS, sFldA, eMeth, eMake, bYes, fSub, fLt, fLe, fGt, fGe, fDiv, fMod, fPow, fNeg, fAdd, fMul, fIsN, fNotN, Yi.isNon, fEq, fNe, fInS, fIx, intR, oNo, oPart, fSl, eSl, eRev, sAppO, sExtO, sAug, oIx, oIn, oEq, sPar, sPar3, sSetIx, eDGet, eDIn, eDGet2, sDPutS, eDPop1, eDPop2, eDNewK, eDNewT, oDGet, oDIn, eBM, mApp, mExt, mPopAt, mIdx, cellL, iEv, iR1, iR2, iC, fLen, oLen, fMax, fMin, fAll, fAny, fSum, fSortI, fList, fTuple, fInt, fStr, fIsi, tyD, isLstD, isStrD, isDD, lstD, seqD, stD, eCallF, nAt, iSt, mJoin, mSplit, fAddI, sStar, iEnS, eSortSet, fSet, eLenSet, insAt, lkp, putD, ok_some, ok_none, ok_bind, ok_map, eq_int, eq_bl, sAsg, kb_NoneType_int, kb_NoneType_bool, kb_NoneType_str, kb_NoneType_tuple, kb_NoneType_list, kb_bool_int, kb_bool_bool, kb_bool_str, kb_bool_tuple, kb_bool_list, kb_int_int, kb_int_bool, kb_int_str, kb_int_tuple, kb_int_list, kb_str_int, kb_str_bool, kb_str_str, kb_str_tuple, kb_str_list, kb_tuple_int, kb_tuple_bool, kb_tuple_str, kb_tuple_tuple, kb_tuple_list, kb_list_int, kb_list_bool, kb_list_str, kb_list_tuple, kb_list_list, sz_0, sz_1, sz_2, sz_3, sz_4, sz_5, sz_6, sz_7, sz_8, sz_9, sz_10, sz_11, sz_12, sz_13, sz_14, sz_15, sz_16, ix_1_0, ix_2_0, ix_2_1, ix_3_0, ix_3_1, ix_3_2, ix_4_0, ix_4_1, ix_4_2, ix_4_3, ix_5_0, ix_5_1, ix_5_2, ix_5_3, ix_5_4, ix_6_0, ix_6_1, ix_6_2, ix_6_3, ix_6_4, ix_6_5, ix_7_0, ix_7_1, ix_7_2, ix_7_3, ix_7_4, ix_7_5, ix_7_6, sI_0, sI_1, sI_48271, sI_69621, hs, hz, keyK, eq_int, f1, f2, c1, oD_some]
theorem n_fn : ("notices" : Str) ≠ "found" := by decide +kernel
theorem n_fs : ("stage" : Str) ≠ "found" := by decide +kernel
theorem n_ns : ("stage" : Str) ≠ "notices" := by decide +kernel
theorem n_ft : ("take" : Str) ≠ "found" := by decide +kernel
theorem n_nt : ("take" : Str) ≠ "notices" := by decide +kernel
theorem n_st : ("take" : Str) ≠ "stage" := by decide +kernel
theorem f_f (b : Nat) (st : Int) : lkp ("found" : Str) (flds b st) = some (.ref (b + 1)) := by simp [flds, lkp]
theorem f_n (b : Nat) (st : Int) : lkp ("notices" : Str) (flds b st) = some (.ref (b + 2)) := by simp [flds, lkp, n_fn]
theorem f_s (b : Nat) (st : Int) : lkp ("stage" : Str) (flds b st) = some (.int st) := by simp [flds, lkp, n_fs, n_ns]
theorem f_t (b : Nat) (st : Int) : lkp ("take" : Str) (flds b st) = none := by simp [flds, lkp, n_ft, n_nt, n_st]
theorem f_put (b : Nat) (st st' : Int) : putD "stage" (.int st') (flds b st) = flds b st' := by simp [flds, putD, n_fs.symm, n_ns.symm]
theorem f_len (b : Nat) (st : Int) : (flds b st).length < 999 := by simp [flds]
section
variable {b : Nat} {S S2 : Sto} {ps : List Pn} {ns : List Nt} {st : Int}
theorem Rd.ins (r : Rd b S S2 ps ns st) : insAt 0 (.ref b) S2 = some (b, flds b st) := by
  simp only [insAt, r.o, rdr]
  rfl
theorem Rd.cell (r : Rd b S S2 ps ns st) : cellL (.ref (b + 1)) S2 = some (b + 1, ps.map fD) := by
  simp only [cellL, r.f]
theorem Rd.cellN (r : Rd b S S2 ps ns st) : cellL (.ref (b + 2)) S2 = some (b + 2, ns.map nD) := by
  simp only [cellL, r.n]
theorem c2_person {q : List (Option Int)} {k : Int} : t_c2 (tks b ("person", q) k) S2 = some (.nx, tks b ("person", q) k, S2) := by
  refine ok.get ?_
  simp [t_c2, tks, sNext, sIf, sBreak, sCont, sNever, sExpr, sRet, sRetO, sRetN, sSet, sAsg, gNm, gsNil, gsCons, gT, eD, eV, eBox, eNm, eC, eOp, eUn, aNil, aCons, eTup, eLst, eCB, bV, bAnd, bOr, bNot, eAnd, eOr, eNot, eIf, eChain, eCall, eFld, sFldS, sFldA, eMeth, eMake, bYes, fSub, fLt, fLe, fGt, fGe, fDiv, fMod, fPow, fNeg, fAdd, fMul, fIsN, fNotN, Yi.isNon, fEq, fNe, fIn, fInS, fIx, intR, oNo, oPart, fSl, eSl, eRev, sAppO, sExtO, sAug, oIx, oIn, oEq, sPar, sPar3, sSetIx, eDGet, eDIn, eDGet2, sDPutS, eDPop1, eDPop2, eDNewK, eDNewT, oDGet, oDIn, eBM, mApp, mExt, mPopAt, mIdx, cellL, iEv, iR1, iR2, iC, fLen, oLen, fMax, fMin, fAll, fAny, fSum, fSortI, fList, fTuple, fInt, fStr, fIsi, tyD, isLstD, isStrD, isDD, lstD, seqD, stD, eCallF, nAt, iSt, mJoin, mSplit, fAddI, sStar, iEnS, eSortSet, fSet, eLenSet, insAt, lkp, putD, ok_some, ok_none, ok_bind, ok_map, eq_int, eq_bl, sAsg, kb_NoneType_int, kb_NoneType_bool, kb_NoneType_str, kb_NoneType_tuple, kb_NoneType_list, kb_bool_int, kb_bool_bool, kb_bool_str, kb_bool_tuple, kb_bool_list, kb_int_int, kb_int_bool, kb_int_str, kb_int_tuple, kb_int_list, kb_str_int, kb_str_bool, kb_str_str, kb_str_tuple, kb_str_list, kb_tuple_int, kb_tuple_bool, kb_tuple_str, kb_tuple_tuple, kb_tuple_list, kb_list_int, kb_list_bool, kb_list_str, kb_list_tuple, kb_list_list, sz_0, sz_1, sz_2, sz_3, sz_4, sz_5, sz_6, sz_7, sz_8, sz_9, sz_10, sz_11, sz_12, sz_13, sz_14, sz_15, sz_16, ix_1_0, ix_2_0, ix_2_1, ix_3_0, ix_3_1, ix_3_2, ix_4_0, ix_4_1, ix_4_2, ix_4_3, ix_5_0, ix_5_1, ix_5_2, ix_5_3, ix_5_4, ix_6_0, ix_6_1, ix_6_2, ix_6_3, ix_6_4, ix_6_5, ix_7_0, ix_7_1, ix_7_2, ix_7_3, ix_7_4, ix_7_5, ix_7_6, sI_0, sI_1, sI_48271, sI_69621, e_pp]
theorem c2_ok {w : Str} {is : List Int} {k s : Int} (hp : ∀ S, eqD (.str w) (.str "person") S = some false) (hs : lkp (.inr w : Key) stgK = some (.int s)) (r : Rd b S S2 ps ns st) (hne : ps ≠ []) (hst : st ≤ s) :
    t_c2 (tks b (w, is.map some) k) S2 = some (.nx, tks b (w, is.map some) k, S2 ++ [.lst []]) := by
  have r2 := r.push (.lst [])
  have i1 := r.ins
  have i2 := r2.ins
  have e := r.empty hne
  have f1 : ∀ S, fIn false .non (.fl ((is.map some).map oD)) S = some (.d (.bl false)) := fun S => by
    show (if (flatD .non && ((is.map some).map oD).all flatD) = true then some (VV.d (.bl (inF .non ((is.map some).map oD)))) else none) = _
    rw [flat_oD, non_in]
    rfl
  have hst' : ¬ s < st := by omega
  refine ok.get ?_
  simp only [t_c2, tks]
  simp [sNext, sIf, sBreak, sCont, sNever, sExpr, sRet, sRetO, sRetN, sSet, sAsg, gNm, gsNil, gsCons, gT, eD, eV, eBox, eNm, eC, eOp, eUn, aNil, aCons, eTup, eLst, eCB, bV, bAnd, bOr, bNot, eAnd, eOr, eNot, eIf, eChain, eCall, eFld, sFldS, sFldA, eMeth, eMake, bYes, fSub, fLt, fLe, fGt, fGe, fDiv, fMod, fPow, fNeg, fAdd, fMul, fIsN, fNotN, Yi.isNon, fEq, fNe, fInS, fIx, intR, oNo, oPart, fSl, eSl, eRev, sAppO, sExtO, sAug, oIx, oIn, oEq, sPar, sPar3, sSetIx, eDGet, eDIn, eDGet2, sDPutS, eDPop1, eDPop2, eDNewK, eDNewT, oDGet, oDIn, eBM, mApp, mExt, mPopAt, mIdx, cellL, iEv, iR1, iR2, iC, fLen, oLen, fMax, fMin, fAll, fAny, fSum, fSortI, fList, fTuple, fInt, fStr, fIsi, tyD, isLstD, isStrD, isDD, lstD, seqD, stD, eCallF, nAt, iSt, mJoin, mSplit, fAddI, sStar, iEnS, eSortSet, fSet, eLenSet, lkp, putD, ok_some, ok_none, ok_bind, ok_map, eq_int, eq_bl, sAsg, kb_NoneType_int, kb_NoneType_bool, kb_NoneType_str, kb_NoneType_tuple, kb_NoneType_list, kb_bool_int, kb_bool_bool, kb_bool_str, kb_bool_tuple, kb_bool_list, kb_int_int, kb_int_bool, kb_int_str, kb_int_tuple, kb_int_list, kb_str_int, kb_str_bool, kb_str_str, kb_str_tuple, kb_str_list, kb_tuple_int, kb_tuple_bool, kb_tuple_str, kb_tuple_tuple, kb_tuple_list, kb_list_int, kb_list_bool, kb_list_str, kb_list_tuple, kb_list_list, sz_0, sz_1, sz_2, sz_3, sz_4, sz_5, sz_6, sz_7, sz_8, sz_9, sz_10, sz_11, sz_12, sz_13, sz_14, sz_15, sz_16, ix_1_0, ix_2_0, ix_2_1, ix_3_0, ix_3_1, ix_3_2, ix_4_0, ix_4_1, ix_4_2, ix_4_3, ix_5_0, ix_5_1, ix_5_2, ix_5_3, ix_5_4, ix_6_0, ix_6_1, ix_6_2, ix_6_3, ix_6_4, ix_6_5, ix_7_0, ix_7_1, ix_7_2, ix_7_3, ix_7_4, ix_7_5, ix_7_6, sI_0, sI_1, sI_48271, sI_69621, hp, hs, keyK, f1, i1, i2, f_f, f_s, e, hst', -List.map_map]
theorem c3_person {q : List (Option Int)} {k : Int} (r : Rd b S S2 ps ns st) (h3 : st ≠ 3) : t_c3 (tks b ("person", q) k) S2 = some (.nx, tks b ("person", q) k, S2) := by
  have i1 := r.ins
  refine ok.get ?_
  simp [t_c3, tks, sNext, sIf, sBreak, sCont, sNever, sExpr, sRet, sRetO, sRetN, sSet, sAsg, gNm, gsNil, gsCons, gT, eD, eV, eBox, eNm, eC, eOp, eUn, aNil, aCons, eTup, eLst, eCB, bV, bAnd, bOr, bNot, eAnd, eOr, eNot, eIf, eChain, eCall, eFld, sFldS, sFldA, eMeth, eMake, bYes, fSub, fLt, fLe, fGt, fGe, fDiv, fMod, fPow, fNeg, fAdd, fMul, fIsN, fNotN, Yi.isNon, fEq, fNe, fIn, fInS, fIx, intR, oNo, oPart, fSl, eSl, eRev, sAppO, sExtO, sAug, oIx, oIn, oEq, sPar, sPar3, sSetIx, eDGet, eDIn, eDGet2, sDPutS, eDPop1, eDPop2, eDNewK, eDNewT, oDGet, oDIn, eBM, mApp, mExt, mPopAt, mIdx, cellL, iEv, iR1, iR2, iC, fLen, oLen, fMax, fMin, fAll, fAny, fSum, fSortI, fList, fTuple, fInt, fStr, fIsi, tyD, isLstD, isStrD, isDD, lstD, seqD, stD, eCallF, nAt, iSt, mJoin, mSplit, fAddI, sStar, iEnS, eSortSet, fSet, eLenSet, lkp, putD, ok_some, ok_none, ok_bind, ok_map, eq_int, eq_bl, sAsg, kb_NoneType_int, kb_NoneType_bool, kb_NoneType_str, kb_NoneType_tuple, kb_NoneType_list, kb_bool_int, kb_bool_bool, kb_bool_str, kb_bool_tuple, kb_bool_list, kb_int_int, kb_int_bool, kb_int_str, kb_int_tuple, kb_int_list, kb_str_int, kb_str_bool, kb_str_str, kb_str_tuple, kb_str_list, kb_tuple_int, kb_tuple_bool, kb_tuple_str, kb_tuple_tuple, kb_tuple_list, kb_list_int, kb_list_bool, kb_list_str, kb_list_tuple, kb_list_list, sz_0, sz_1, sz_2, sz_3, sz_4, sz_5, sz_6, sz_7, sz_8, sz_9, sz_10, sz_11, sz_12, sz_13, sz_14, sz_15, sz_16, ix_1_0, ix_2_0, ix_2_1, ix_3_0, ix_3_1, ix_3_2, ix_4_0, ix_4_1, ix_4_2, ix_4_3, ix_5_0, ix_5_1, ix_5_2, ix_5_3, ix_5_4, ix_6_0, ix_6_1, ix_6_2, ix_6_3, ix_6_4, ix_6_5, ix_7_0, ix_7_1, ix_7_2, ix_7_3, ix_7_4, ix_7_5, ix_7_6, sI_0, sI_1, sI_48271, sI_69621, e_pp, i1, f_s, h3]
theorem c3_ok {w : Str} {q : List (Option Int)} {k : Int} (hp : ∀ S, eqD (.str w) (.str "person") S = some false) : t_c3 (tks b (w, q) k) S2 = some (.nx, tks b (w, q) k, S2) := by
  refine ok.get ?_
  simp [t_c3, tks, sNext, sIf, sBreak, sCont, sNever, sExpr, sRet, sRetO, sRetN, sSet, sAsg, gNm, gsNil, gsCons, gT, eD, eV, eBox, eNm, eC, eOp, eUn, aNil, aCons, eTup, eLst, eCB, bV, bAnd, bOr, bNot, eAnd, eOr, eNot, eIf, eChain, eCall, eFld, sFldS, sFldA, eMeth, eMake, bYes, fSub, fLt, fLe, fGt, fGe, fDiv, fMod, fPow, fNeg, fAdd, fMul, fIsN, fNotN, Yi.isNon, fEq, fNe, fIn, fInS, fIx, intR, oNo, oPart, fSl, eSl, eRev, sAppO, sExtO, sAug, oIx, oIn, oEq, sPar, sPar3, sSetIx, eDGet, eDIn, eDGet2, sDPutS, eDPop1, eDPop2, eDNewK, eDNewT, oDGet, oDIn, eBM, mApp, mExt, mPopAt, mIdx, cellL, iEv, iR1, iR2, iC, fLen, oLen, fMax, fMin, fAll, fAny, fSum, fSortI, fList, fTuple, fInt, fStr, fIsi, tyD, isLstD, isStrD, isDD, lstD, seqD, stD, eCallF, nAt, iSt, mJoin, mSplit, fAddI, sStar, iEnS, eSortSet, fSet, eLenSet, insAt, lkp, putD, ok_some, ok_none, ok_bind, ok_map, eq_int, eq_bl, sAsg, kb_NoneType_int, kb_NoneType_bool, kb_NoneType_str, kb_NoneType_tuple, kb_NoneType_list, kb_bool_int, kb_bool_bool, kb_bool_str, kb_bool_tuple, kb_bool_list, kb_int_int, kb_int_bool, kb_int_str, kb_int_tuple, kb_int_list, kb_str_int, kb_str_bool, kb_str_str, kb_str_tuple, kb_str_list, kb_tuple_int, kb_tuple_bool, kb_tuple_str, kb_tuple_tuple, kb_tuple_list, kb_list_int, kb_list_bool, kb_list_str, kb_list_tuple, kb_list_list, sz_0, sz_1, sz_2, sz_3, sz_4, sz_5, sz_6, sz_7, sz_8, sz_9, sz_10, sz_11, sz_12, sz_13, sz_14, sz_15, sz_16, ix_1_0, ix_2_0, ix_2_1, ix_3_0, ix_3_1, ix_3_2, ix_4_0, ix_4_1, ix_4_2, ix_4_3, ix_5_0, ix_5_1, ix_5_2, ix_5_3, ix_5_4, ix_6_0, ix_6_1, ix_6_2, ix_6_3, ix_6_4, ix_6_5, ix_7_0, ix_7_1, ix_7_2, ix_7_3, ix_7_4, ix_7_5, ix_7_6, sI_0, sI_1, sI_48271, sI_69621, hp]
theorem st_ok {w : Str} {q : List (Option Int)} {k s : Int} (hs : lkp (.inr w : Key) stgK = some (.int s)) (r : Rd b S S2 ps ns st) : t_st (tks b (w, q) k) S2 = some (.nx, tks b (w, q) k, S2.set b (rdr b s)) := by
  have i1 := r.ins
  have l := f_len b st
  refine ok.get ?_
  simp [t_st, tks, sNext, sIf, sBreak, sCont, sNever, sExpr, sRet, sRetO, sRetN, sSet, sAsg, gNm, gsNil, gsCons, gT, eD, eV, eBox, eNm, eC, eOp, eUn, aNil, aCons, eTup, eLst, eCB, bV, bAnd, bOr, bNot, eAnd, eOr, eNot, eIf, eChain, eCall, eFld, sFldS, sFldA, eMeth, eMake, bYes, fSub, fLt, fLe, fGt, fGe, fDiv, fMod, fPow, fNeg, fAdd, fMul, fIsN, fNotN, Yi.isNon, fEq, fNe, fIn, fInS, fIx, intR, oNo, oPart, fSl, eSl, eRev, sAppO, sExtO, sAug, oIx, oIn, oEq, sPar, sPar3, sSetIx, eDGet, eDIn, eDGet2, sDPutS, eDPop1, eDPop2, eDNewK, eDNewT, oDGet, oDIn, eBM, mApp, mExt, mPopAt, mIdx, cellL, iEv, iR1, iR2, iC, fLen, oLen, fMax, fMin, fAll, fAny, fSum, fSortI, fList, fTuple, fInt, fStr, fIsi, tyD, isLstD, isStrD, isDD, lstD, seqD, stD, eCallF, nAt, iSt, mJoin, mSplit, fAddI, sStar, iEnS, eSortSet, fSet, eLenSet, lkp, putD, ok_some, ok_none, ok_bind, ok_map, eq_int, eq_bl, sAsg, kb_NoneType_int, kb_NoneType_bool, kb_NoneType_str, kb_NoneType_tuple, kb_NoneType_list, kb_bool_int, kb_bool_bool, kb_bool_str, kb_bool_tuple, kb_bool_list, kb_int_int, kb_int_bool, kb_int_str, kb_int_tuple, kb_int_list, kb_str_int, kb_str_bool, kb_str_str, kb_str_tuple, kb_str_list, kb_tuple_int, kb_tuple_bool, kb_tuple_str, kb_tuple_tuple, kb_tuple_list, kb_list_int, kb_list_bool, kb_list_str, kb_list_tuple, kb_list_list, sz_0, sz_1, sz_2, sz_3, sz_4, sz_5, sz_6, sz_7, sz_8, sz_9, sz_10, sz_11, sz_12, sz_13, sz_14, sz_15, sz_16, ix_1_0, ix_2_0, ix_2_1, ix_3_0, ix_3_1, ix_3_2, ix_4_0, ix_4_1, ix_4_2, ix_4_3, ix_5_0, ix_5_1, ix_5_2, ix_5_3, ix_5_4, ix_6_0, ix_6_1, ix_6_2, ix_6_3, ix_6_4, ix_6_5, ix_7_0, ix_7_1, ix_7_2, ix_7_3, ix_7_4, ix_7_5, ix_7_6, sI_0, sI_1, sI_48271, sI_69621, hs, keyK, i1, l, f_put, rdr]
theorem do_person {l : Int} {w f : Option Int} {k : Int} (r : Rd b S S2 ps ns st) (hl : ps.length ≤ 100) :
    ok (t_do (tks b ("person", [some l, w, f]) k) S2) fun p => p.1 = .nx ∧ Rd b S p.2.2 (ps ++ [(S2.length, S2.length + 1, ⟨[], l, [], w, f⟩)]) ns st := by
  have i1 := r.ins
  have r2 := (r.push (.lst [])).push (.lst [])
  have c : cellL (.ref (b + 1)) (S2 ++ [Cell.lst [], Cell.lst []]) = some (b + 1, ps.map fD) := by have := r2.cell; rw [List.append_assoc] at this; exact this
  have c0 := r.cell
  have z : szOk ps.length = true := by simp [szOk]; omega
  have g := r.person (S2.length, S2.length + 1, ⟨[], l, [], w, f⟩) rfl rfl rfl rfl
  have lst : isLstD (.ref (b + 1)) S2 = true := by simp only [isLstD, lstD, r.f]; rfl
  simp [t_do, tks, sNext, sIf, sBreak, sCont, sNever, sExpr, sRet, sRetO, sRetN, sSet, sAsg, gNm, gsNil, gsCons, gT, eD, eV, eBox, eNm, eC, eOp, eUn, aNil, aCons, eTup, eLst, eCB, bV, bAnd, bOr, bNot, eAnd, eOr, eNot, eIf, eChain, eCall, eFld, sFldS, sFldA, eMeth, eMake, bYes, fSub, fLt, fLe, fGt, fGe, fDiv, fMod, fPow, fNeg, fAdd, fMul, fIsN, fNotN, Yi.isNon, fEq, fNe, fIn, fInS, fIx, intR, oNo, oPart, fSl, eSl, eRev, sAppO, sExtO, sAug, oIx, oIn, oEq, sPar, sPar3, sSetIx, eDGet, eDIn, eDGet2, sDPutS, eDPop1, eDPop2, eDNewK, eDNewT, oDGet, oDIn, eBM, mApp, mExt, mPopAt, mIdx, iEv, iR1, iR2, iC, fLen, oLen, fMax, fMin, fAll, fAny, fSum, fSortI, fList, fTuple, fInt, fStr, fIsi, tyD, isStrD, isDD, lstD, seqD, stD, eCallF, nAt, iSt, mJoin, mSplit, fAddI, sStar, iEnS, eSortSet, fSet, eLenSet, lkp, putD, ok_some, ok_none, ok_bind, ok_map, eq_int, eq_bl, sAsg, kb_NoneType_int, kb_NoneType_bool, kb_NoneType_str, kb_NoneType_tuple, kb_NoneType_list, kb_bool_int, kb_bool_bool, kb_bool_str, kb_bool_tuple, kb_bool_list, kb_int_int, kb_int_bool, kb_int_str, kb_int_tuple, kb_int_list, kb_str_int, kb_str_bool, kb_str_str, kb_str_tuple, kb_str_list, kb_tuple_int, kb_tuple_bool, kb_tuple_str, kb_tuple_tuple, kb_tuple_list, kb_list_int, kb_list_bool, kb_list_str, kb_list_tuple, kb_list_list, sz_0, sz_1, sz_2, sz_3, sz_4, sz_5, sz_6, sz_7, sz_8, sz_9, sz_10, sz_11, sz_12, sz_13, sz_14, sz_15, sz_16, ix_1_0, ix_2_0, ix_2_1, ix_3_0, ix_3_1, ix_3_2, ix_4_0, ix_4_1, ix_4_2, ix_4_3, ix_5_0, ix_5_1, ix_5_2, ix_5_3, ix_5_4, ix_6_0, ix_6_1, ix_6_2, ix_6_3, ix_6_4, ix_6_5, ix_7_0, ix_7_1, ix_7_2, ix_7_3, ix_7_4, ix_7_5, ix_7_6, sI_0, sI_1, sI_48271, sI_69621, e_pp, i1, f_f, lst, atI, ix_3_0, ix_3_1, ix_3_2, sz_5, c, z, oD_some]
  simpa [fD] using g
theorem fIx_last {n : Nat} {p : Pn} {S : Sto} (h : S[n]? = some (.lst ((ps ++ [p]).map fD))) : fIx (.ref n) (.int (-1)) S = some (.d (fD p)) := by
  have e : ixN ((ps ++ [p]).map fD).length (-1) = some (((ps ++ [p]).map fD).length - 1) := ixm (by simp)
  simp only [fIx, seqD, lstD]
  rw [h]
  simp only [Option.bind_some, atI]
  rw [e]
  simp
theorem do_hush {x y k : Int} {p : Pn} (r : Rd b S S2 (ps ++ [p]) ns st) (hl : p.2.2.hs.length ≤ 100) :
    ok (t_do (tks b ("hush", [some x, some y]) k) S2) fun q => q.1 = .nx ∧ Rd b S q.2.2 (ps ++ [(p.1, p.2.1, { p.2.2 with hs := p.2.2.hs ++ [(x, y)] })]) ns st := by
  have i1 := r.ins
  have g := r.hush (x, y)
  obtain ⟨c1, c2, _⟩ := r.c p (by simp)
  have z : szOk p.2.2.hs.length = true := by simp [szOk]; omega
  have lst : isLstD (.ref p.1) S2 = true := by simp only [isLstD, lstD, c1]; rfl
  have ce : cellL (.ref p.1) S2 = some (p.1, p.2.2.hs.map pD) := by simp only [cellL, c1]
  have f1 := fIx_last r.f
  have f2 : fIx (fD p) (.int 0) S2 = some (.d (.ref p.1)) := rfl
  simp [t_do, tks, sNext, sIf, sBreak, sCont, sNever, sExpr, sRet, sRetO, sRetN, sSet, sAsg, gNm, gsNil, gsCons, gT, eD, eV, eBox, eNm, eC, eOp, eUn, aNil, aCons, eTup, eLst, eCB, bV, bAnd, bOr, bNot, eAnd, eOr, eNot, eIf, eChain, eCall, eFld, sFldS, sFldA, eMeth, eMake, bYes, fSub, fLt, fLe, fGt, fGe, fDiv, fMod, fPow, fNeg, fAdd, fMul, fIsN, fNotN, Yi.isNon, fEq, fNe, fIn, fInS, intR, oNo, oPart, fSl, eSl, eRev, sAppO, sExtO, sAug, oIx, oIn, oEq, sPar, sPar3, sSetIx, eDGet, eDIn, eDGet2, sDPutS, eDPop1, eDPop2, eDNewK, eDNewT, oDGet, oDIn, eBM, mApp, mExt, mPopAt, mIdx, iEv, iR1, iR2, iC, fLen, oLen, fMax, fMin, fAll, fAny, fSum, fSortI, fList, fTuple, fInt, fStr, fIsi, tyD, isStrD, isDD, lstD, seqD, stD, eCallF, nAt, iSt, mJoin, mSplit, fAddI, sStar, iEnS, eSortSet, fSet, eLenSet, lkp, putD, ok_some, ok_none, ok_bind, ok_map, eq_int, eq_bl, sAsg, kb_NoneType_int, kb_NoneType_bool, kb_NoneType_str, kb_NoneType_tuple, kb_NoneType_list, kb_bool_int, kb_bool_bool, kb_bool_str, kb_bool_tuple, kb_bool_list, kb_int_int, kb_int_bool, kb_int_str, kb_int_tuple, kb_int_list, kb_str_int, kb_str_bool, kb_str_str, kb_str_tuple, kb_str_list, kb_tuple_int, kb_tuple_bool, kb_tuple_str, kb_tuple_tuple, kb_tuple_list, kb_list_int, kb_list_bool, kb_list_str, kb_list_tuple, kb_list_list, sz_0, sz_1, sz_2, sz_3, sz_4, sz_5, sz_6, sz_7, sz_8, sz_9, sz_10, sz_11, sz_12, sz_13, sz_14, sz_15, sz_16, ix_1_0, ix_2_0, ix_2_1, ix_3_0, ix_3_1, ix_3_2, ix_4_0, ix_4_1, ix_4_2, ix_4_3, ix_5_0, ix_5_1, ix_5_2, ix_5_3, ix_5_4, ix_6_0, ix_6_1, ix_6_2, ix_6_3, ix_6_4, ix_6_5, ix_7_0, ix_7_1, ix_7_2, ix_7_3, ix_7_4, ix_7_5, ix_7_6, sI_0, sI_1, sI_48271, sI_69621, e_hp, e_hn, e_hh, i1, f_f, lst, f1, f2, ce, z]
  exact g
theorem do_gather {x y k : Int} {p : Pn} (r : Rd b S S2 (ps ++ [p]) ns st) (hl : p.2.2.gs.length ≤ 100) :
    ok (t_do (tks b ("gather", [some x, some y]) k) S2) fun q => q.1 = .nx ∧ Rd b S q.2.2 (ps ++ [(p.1, p.2.1, { p.2.2 with gs := p.2.2.gs ++ [(x, y)] })]) ns st := by
  have i1 := r.ins
  have g := r.gather (x, y)
  obtain ⟨c1, c2, _⟩ := r.c p (by simp)
  have z : szOk p.2.2.gs.length = true := by simp [szOk]; omega
  have lst : isLstD (.ref p.2.1) S2 = true := by simp only [isLstD, lstD, c2]; rfl
  have ce : cellL (.ref p.2.1) S2 = some (p.2.1, p.2.2.gs.map pD) := by simp only [cellL, c2]
  have f1 := fIx_last r.f
  have f2 : fIx (fD p) (.int 2) S2 = some (.d (.ref p.2.1)) := rfl
  simp [t_do, tks, sNext, sIf, sBreak, sCont, sNever, sExpr, sRet, sRetO, sRetN, sSet, sAsg, gNm, gsNil, gsCons, gT, eD, eV, eBox, eNm, eC, eOp, eUn, aNil, aCons, eTup, eLst, eCB, bV, bAnd, bOr, bNot, eAnd, eOr, eNot, eIf, eChain, eCall, eFld, sFldS, sFldA, eMeth, eMake, bYes, fSub, fLt, fLe, fGt, fGe, fDiv, fMod, fPow, fNeg, fAdd, fMul, fIsN, fNotN, Yi.isNon, fEq, fNe, fIn, fInS, intR, oNo, oPart, fSl, eSl, eRev, sAppO, sExtO, sAug, oIx, oIn, oEq, sPar, sPar3, sSetIx, eDGet, eDIn, eDGet2, sDPutS, eDPop1, eDPop2, eDNewK, eDNewT, oDGet, oDIn, eBM, mApp, mExt, mPopAt, mIdx, iEv, iR1, iR2, iC, fLen, oLen, fMax, fMin, fAll, fAny, fSum, fSortI, fList, fTuple, fInt, fStr, fIsi, tyD, isStrD, isDD, lstD, seqD, stD, eCallF, nAt, iSt, mJoin, mSplit, fAddI, sStar, iEnS, eSortSet, fSet, eLenSet, lkp, putD, ok_some, ok_none, ok_bind, ok_map, eq_int, eq_bl, sAsg, kb_NoneType_int, kb_NoneType_bool, kb_NoneType_str, kb_NoneType_tuple, kb_NoneType_list, kb_bool_int, kb_bool_bool, kb_bool_str, kb_bool_tuple, kb_bool_list, kb_int_int, kb_int_bool, kb_int_str, kb_int_tuple, kb_int_list, kb_str_int, kb_str_bool, kb_str_str, kb_str_tuple, kb_str_list, kb_tuple_int, kb_tuple_bool, kb_tuple_str, kb_tuple_tuple, kb_tuple_list, kb_list_int, kb_list_bool, kb_list_str, kb_list_tuple, kb_list_list, sz_0, sz_1, sz_2, sz_3, sz_4, sz_5, sz_6, sz_7, sz_8, sz_9, sz_10, sz_11, sz_12, sz_13, sz_14, sz_15, sz_16, ix_1_0, ix_2_0, ix_2_1, ix_3_0, ix_3_1, ix_3_2, ix_4_0, ix_4_1, ix_4_2, ix_4_3, ix_5_0, ix_5_1, ix_5_2, ix_5_3, ix_5_4, ix_6_0, ix_6_1, ix_6_2, ix_6_3, ix_6_4, ix_6_5, ix_7_0, ix_7_1, ix_7_2, ix_7_3, ix_7_4, ix_7_5, ix_7_6, sI_0, sI_1, sI_48271, sI_69621, e_gp, e_gn, e_gh, i1, f_f, lst, f1, f2, ce, z]
  exact g
theorem do_notice {x y u v k : Int} (r : Rd b S S2 ps ns st) (hl : ns.length ≤ 100) :
    ok (t_do (tks b ("notice", [some x, some y, some u, some v]) k) S2) fun q => q.1 = .nx ∧ Rd b S q.2.2 ps (ns ++ [⟨x, y, u, v⟩]) st := by
  have i1 := r.ins
  have g := r.notice ⟨x, y, u, v⟩
  have z : szOk ns.length = true := by simp [szOk]; omega
  have lst : isLstD (.ref (b + 2)) S2 = true := by simp only [isLstD, lstD, r.n]; rfl
  have ce := r.cellN
  simp [t_do, tks, sNext, sIf, sBreak, sCont, sNever, sExpr, sRet, sRetO, sRetN, sSet, sAsg, gNm, gsNil, gsCons, gT, eD, eV, eBox, eNm, eC, eOp, eUn, aNil, aCons, eTup, eLst, eCB, bV, bAnd, bOr, bNot, eAnd, eOr, eNot, eIf, eChain, eCall, eFld, sFldS, sFldA, eMeth, eMake, bYes, fSub, fLt, fLe, fGt, fGe, fDiv, fMod, fPow, fNeg, fAdd, fMul, fIsN, fNotN, Yi.isNon, fEq, fNe, fIn, fInS, fIx, intR, oNo, oPart, fSl, eSl, eRev, sAppO, sExtO, sAug, oIx, oIn, oEq, sPar, sPar3, sSetIx, eDGet, eDIn, eDGet2, sDPutS, eDPop1, eDPop2, eDNewK, eDNewT, oDGet, oDIn, eBM, mApp, mExt, mPopAt, mIdx, iEv, iR1, iR2, iC, fLen, oLen, fMax, fMin, fAll, fAny, fSum, fSortI, fList, fTuple, fInt, fStr, fIsi, tyD, isStrD, isDD, lstD, seqD, stD, eCallF, nAt, iSt, mJoin, mSplit, fAddI, sStar, iEnS, eSortSet, fSet, eLenSet, lkp, putD, ok_some, ok_none, ok_bind, ok_map, eq_int, eq_bl, sAsg, kb_NoneType_int, kb_NoneType_bool, kb_NoneType_str, kb_NoneType_tuple, kb_NoneType_list, kb_bool_int, kb_bool_bool, kb_bool_str, kb_bool_tuple, kb_bool_list, kb_int_int, kb_int_bool, kb_int_str, kb_int_tuple, kb_int_list, kb_str_int, kb_str_bool, kb_str_str, kb_str_tuple, kb_str_list, kb_tuple_int, kb_tuple_bool, kb_tuple_str, kb_tuple_tuple, kb_tuple_list, kb_list_int, kb_list_bool, kb_list_str, kb_list_tuple, kb_list_list, sz_0, sz_1, sz_2, sz_3, sz_4, sz_5, sz_6, sz_7, sz_8, sz_9, sz_10, sz_11, sz_12, sz_13, sz_14, sz_15, sz_16, ix_1_0, ix_2_0, ix_2_1, ix_3_0, ix_3_1, ix_3_2, ix_4_0, ix_4_1, ix_4_2, ix_4_3, ix_5_0, ix_5_1, ix_5_2, ix_5_3, ix_5_4, ix_6_0, ix_6_1, ix_6_2, ix_6_3, ix_6_4, ix_6_5, ix_7_0, ix_7_1, ix_7_2, ix_7_3, ix_7_4, ix_7_5, ix_7_6, sI_0, sI_1, sI_48271, sI_69621, e_np, e_nn, i1, f_n, lst, ce, z]
  exact g
theorem take_person {l : Int} {w f : Option Int} {k : Int} (r : Rd b S S2 ps ns st) (h3 : st ≠ 3) (hl : ps.length ≤ 100) (h : RowOk ("person", [some l, w, f])) :
    ok (tkD b ("person", [some l, w, f]) k S2) fun p => p.1 = .d .non ∧ ∃ h g, Rd b S p.2 (ps ++ [(h, g, ⟨[], l, [], w, f⟩)]) ns 0 := by
  refine take_head h (seq_ok ((ok_eq (c1_ok h s_p z_p)).mpr ⟨rfl, seq_ok ((ok_eq c2_person).mpr ⟨rfl, seq_ok ((ok_eq (c3_person r h3)).mpr ⟨rfl, seq_ok ((ok_eq (st_ok s_p r)).mpr ⟨rfl, ?_⟩)⟩)⟩)⟩))
  exact (do_person (r.stage 0) hl).mono fun p hp => ⟨hp.1, rfl, _, _, hp.2⟩
theorem take_hush {x y k : Int} {p : Pn} (r : Rd b S S2 (ps ++ [p]) ns st) (h3 : st ≤ 1) (hl : p.2.2.hs.length ≤ 100) (h : RowOk ("hush", [some x, some y])) :
    ok (tkD b ("hush", [some x, some y]) k S2) fun q => q.1 = .d .non ∧ Rd b S q.2 (ps ++ [(p.1, p.2.1, { p.2.2 with hs := p.2.2.hs ++ [(x, y)] })]) ns 1 := by
  refine take_head h (seq_ok ((ok_eq (c1_ok h s_h z_h)).mpr ⟨rfl, seq_ok ((ok_eq (c2_ok (is := [x, y]) e_hp s_h r (by simp) h3)).mpr ⟨rfl, seq_ok ((ok_eq (c3_ok e_hp)).mpr ⟨rfl, seq_ok ((ok_eq (st_ok s_h (r.push _))).mpr ⟨rfl, ?_⟩)⟩)⟩)⟩))
  exact (do_hush ((r.push _).stage 1) hl).mono fun p hp => ⟨hp.1, rfl, hp.2⟩
theorem take_gather {x y k : Int} {p : Pn} (r : Rd b S S2 (ps ++ [p]) ns st) (h3 : st ≤ 2) (hl : p.2.2.gs.length ≤ 100) (h : RowOk ("gather", [some x, some y])) :
    ok (tkD b ("gather", [some x, some y]) k S2) fun q => q.1 = .d .non ∧ Rd b S q.2 (ps ++ [(p.1, p.2.1, { p.2.2 with gs := p.2.2.gs ++ [(x, y)] })]) ns 2 := by
  refine take_head h (seq_ok ((ok_eq (c1_ok h s_g z_g)).mpr ⟨rfl, seq_ok ((ok_eq (c2_ok (is := [x, y]) e_gp s_g r (by simp) h3)).mpr ⟨rfl, seq_ok ((ok_eq (c3_ok e_gp)).mpr ⟨rfl, seq_ok ((ok_eq (st_ok s_g (r.push _))).mpr ⟨rfl, ?_⟩)⟩)⟩)⟩))
  exact (do_gather ((r.push _).stage 2) hl).mono fun p hp => ⟨hp.1, rfl, hp.2⟩
theorem take_notice {x y u v k : Int} (r : Rd b S S2 ps ns st) (h3 : st ≤ 3) (hne : ps ≠ []) (hl : ns.length ≤ 100) (h : RowOk ("notice", [some x, some y, some u, some v])) :
    ok (tkD b ("notice", [some x, some y, some u, some v]) k S2) fun q => q.1 = .d .non ∧ Rd b S q.2 ps (ns ++ [⟨x, y, u, v⟩]) 3 := by
  refine take_head h (seq_ok ((ok_eq (c1_ok h s_n z_n)).mpr ⟨rfl, seq_ok ((ok_eq (c2_ok (is := [x, y, u, v]) e_np s_n r hne h3)).mpr ⟨rfl, seq_ok ((ok_eq (c3_ok e_np)).mpr ⟨rfl, seq_ok ((ok_eq (st_ok s_n (r.push _))).mpr ⟨rfl, ?_⟩)⟩)⟩)⟩))
  exact (do_notice ((r.push _).stage 3) hl).mono fun p hp => ⟨hp.1, rfl, hp.2⟩
end
end Wk
namespace Wk
open PySem L2 Yi TL
/-! ### a text read -/
abbrev Rq := Str × List (Option Int)
def sl (t : Str) (b : Nat) (x3 x4 : Option VV) : Slt := [some (.d (.str t)), some (.d (.ref b)), none, x3, x4, none]
def gR : TM := gT 2 (gsCons (gNm 3) (gsCons (gNm 4) gsNil))
theorem ow_free {o : Option Int} {s : Nat} (hs : s = 10 ∨ s = 32) (h : ∀ i, o = some i → 0 ≤ i ∧ i ≤ 999) : s ∉ tl (ow o) := by
  intro hm
  cases o with
  | none =>
    rw [show tl (ow none) = [45] from (by decide +kernel : tl ("-" : Str) = [45])] at hm
    simp at hm
    omega
  | some i =>
    obtain ⟨n, rfl⟩ : ∃ n : Nat, i = n := ⟨i.toNat, by have := h i rfl; omega⟩
    have := num_dig (n := n) s hm
    omega
theorem join_mem {s c : Nat} : ∀ {l : List (List Nat)}, c ∈ joinL [s] l → c = s ∨ ∃ p ∈ l, c ∈ p
  | [], h => by simp [joinL] at h
  | [p], h => .inr ⟨p, by simp, by simpa [joinL] using h⟩
  | p :: q :: r, h => by
    have h : c ∈ p ++ ([s] ++ joinL [s] (q :: r)) := h
    rcases List.mem_append.mp h with h | h
    · exact .inr ⟨p, by simp, h⟩
    · rcases List.mem_append.mp h with h | h
      · exact .inl (by simpa using h)
      · rcases join_mem h with h | ⟨z, hz, h⟩
        · exact .inl h
        · exact .inr ⟨z, List.mem_cons_of_mem _ hz, h⟩
structure Rw (q : Rq) : Prop where
  o : RowOk q
  s : 32 ∉ tl q.1
  n : 10 ∉ tl q.1
  a : ∀ c ∈ tl q.1, c < 128
theorem Rw.split {q : Rq} (h : Rw q) : Txt.split (rowL q) " " = q.1 :: q.2.map ow := by
  unfold rowL line
  refine split_join (s := 32) (S := []) (by decide +kernel) (by decide +kernel) (by simp) fun p hp => ?_
  rcases List.mem_cons.mp hp with e | hp
  · rw [e]; exact h.s
  · obtain ⟨o, ho, rfl⟩ := List.mem_map.mp hp
    exact ow_free (.inr rfl) (h.o.n o ho)
theorem Rw.free {q : Rq} (h : Rw q) : 10 ∉ tl (rowL q) := by
  unfold rowL line
  rw [join_eq, tl_join]
  intro hm
  rw [show tl (" " : Str) = [32] by decide +kernel] at hm
  rcases join_mem hm with h2 | ⟨z, hz, h2⟩
  · omega
  · obtain ⟨p, hp, rfl⟩ := List.mem_map.mp hz
    rcases List.mem_cons.mp hp with e | hp
    · rw [e] at h2; exact h.n h2
    · obtain ⟨o, ho, rfl⟩ := List.mem_map.mp hp
      exact ow_free (.inl rfl) (h.o.n o ho) h2
section
variable {t : Str} {b : Nat} {S S2 : Sto} {ps : List Pn} {ns : List Nt} {st : Int} {Q : Sto → Prop}
def Run (t : Str) (b k : Nat) (qs : List Rq) (S2 : Sto) (Q : Sto → Prop) : Prop := ∀ x3 x4, ok (forL gR m_read_1 (enumL k (qs.map fun q => .str (rowL q))) (sl t b x3 x4) S2) fun p => p.1 = .nx ∧ (∃ x3 x4, p.2.1 = sl t b x3 x4) ∧ Q p.2.2
theorem Run.nil {k : Nat} (h : Q S2) : Run t b k [] S2 Q := fun x3 x4 => ⟨_, rfl, rfl, ⟨_, _, rfl⟩, h⟩
theorem row_step {q : Rq} {k : Nat} {x3 x4 : Option VV} (h : Rw q) (r : Rd b S S2 ps ns st) (hq : ok (tkD b q k S2) fun p => p.1 = .d .non ∧ Q p.2) :
    ok (gR (.tup [.int k, .str (rowL q)]) (sl t b x3 x4)) fun ρ1 => ok (m_read_1 ρ1 S2) fun p => p.1 = .nx ∧ (∃ x3 x4, p.2.1 = sl t b x3 x4) ∧ Q p.2.2 := by
  have i1 := r.ins
  have l := rowL_len h.o
  have z : szOk ((rowL q).length + 2) = true := by simp [szOk]; omega
  have sp : mSplit (.str (rowL q)) [.str " "] S2 = some (.own (.lst ((q.1 :: q.2.map ow).map .str)), S2) := by
    show (if ((" " : Str).length == 0) = false ∧ szOk ((rowL q).length + 2) = true then some (VV.own (.lst ((Txt.split (rowL q) " ").map .str)), S2) else none) = _
    rw [h.split]
    exact if_pos ⟨by rw [l_sp]; rfl, z⟩
  obtain ⟨p, e, e1, e2⟩ := hq
  refine ⟨sl t b (some (.d (.int k))) (some (.d (.str (rowL q)))), rfl, ?_⟩
  unfold m_read_1 sl
  unfold tkD at e
  simp only [List.map_cons, List.map_map] at sp e
  simp [sNext, sIf, sBreak, sCont, sNever, sExpr, sRet, sRetO, sRetN, sSet, sAsg, gNm, gsNil, gsCons, gT, eD, eV, eBox, eNm, eC, eOp, eUn, aNil, aCons, eTup, eLst, eCB, bV, bAnd, bOr, bNot, eAnd, eOr, eNot, eIf, eChain, eCall, eFld, sFldS, sFldA, eMeth, eMake, bYes, fSub, fLt, fLe, fGt, fGe, fDiv, fMod, fPow, fNeg, fAdd, fMul, fIsN, fNotN, Yi.isNon, fEq, fNe, fIn, fInS, fIx, intR, oNo, oPart, fSl, eSl, eRev, sAppO, sExtO, sAug, oIx, oIn, oEq, sPar, sPar3, sSetIx, eDGet, eDIn, eDGet2, sDPutS, eDPop1, eDPop2, eDNewK, eDNewT, oDGet, oDIn, eBM, mApp, mExt, mPopAt, mIdx, cellL, iEv, iR1, iR2, iC, fLen, oLen, fMax, fMin, fAll, fAny, fSum, fSortI, fList, fTuple, fInt, fStr, fIsi, tyD, isLstD, isStrD, isDD, lstD, seqD, stD, eCallF, nAt, iSt, mJoin, fAddI, sStar, iEnS, eSortSet, fSet, eLenSet, lkp, putD, ok_some, ok_none, ok_bind, ok_map, eq_int, eq_bl, sAsg, kb_NoneType_int, kb_NoneType_bool, kb_NoneType_str, kb_NoneType_tuple, kb_NoneType_list, kb_bool_int, kb_bool_bool, kb_bool_str, kb_bool_tuple, kb_bool_list, kb_int_int, kb_int_bool, kb_int_str, kb_int_tuple, kb_int_list, kb_str_int, kb_str_bool, kb_str_str, kb_str_tuple, kb_str_list, kb_tuple_int, kb_tuple_bool, kb_tuple_str, kb_tuple_tuple, kb_tuple_list, kb_list_int, kb_list_bool, kb_list_str, kb_list_tuple, kb_list_list, sz_0, sz_1, sz_2, sz_3, sz_4, sz_5, sz_6, sz_7, sz_8, sz_9, sz_10, sz_11, sz_12, sz_13, sz_14, sz_15, sz_16, ix_1_0, ix_2_0, ix_2_1, ix_3_0, ix_3_1, ix_3_2, ix_4_0, ix_4_1, ix_4_2, ix_4_3, ix_5_0, ix_5_1, ix_5_2, ix_5_3, ix_5_4, ix_6_0, ix_6_1, ix_6_2, ix_6_3, ix_6_4, ix_6_5, ix_7_0, ix_7_1, ix_7_2, ix_7_3, ix_7_4, ix_7_5, ix_7_6, sI_0, sI_1, sI_48271, sI_69621, i1, f_t, sp]
  exact ⟨p, e, e2⟩
theorem Run.cons {q : Rq} {qs : List Rq} {k : Nat} (h : Rw q) (r : Rd b S S2 ps ns st) (hq : ok (tkD b q k S2) fun p => p.1 = .d .non ∧ Run t b (k + 1) qs p.2 Q) : Run t b k (q :: qs) S2 Q := by
  intro x3 x4
  show ok (forL gR m_read_1 (.tup [.int (k : Nat), .str (rowL q)] :: enumL (k + 1) (qs.map fun q => .str (rowL q))) (sl t b x3 x4) S2) _
  unfold forL
  rw [ok_bind]
  refine (row_step (Q := fun S3 => Run t b (k + 1) qs S3 Q) h r hq).mono fun ρ1 h1 => ?_
  rw [ok_bind]
  refine h1.mono fun ⟨f, ρ2, S3⟩ ⟨e, ⟨y3, y4, e2⟩, h2⟩ => ?_
  dsimp only at e e2 h2
  subst e e2
  exact h2 y3 y4
theorem run_notices : ∀ (todo : List Nt) {ns : List Nt} {st : Int} {S2 : Sto} {k : Nat}, Rd b S S2 ps ns st → st ≤ 3 → ps ≠ [] → ns.length + todo.length ≤ 50 → (∀ n ∈ todo, Rw (rowO n)) → (∀ S3 st', Rd b S S3 ps (ns ++ todo) st' → Q S3) → Run t b k (todo.map rowO) S2 Q
  | [], ns, st, S2, k, r, _, _, _, _, hq => Run.nil (hq S2 st (by rw [List.append_nil]; exact r))
  | n :: todo, ns, st, S2, k, r, h3, hne, hl, hw, hq => by
    simp at hl
    refine Run.cons (hw n (by simp)) r ((take_notice r h3 hne (by omega) (hw n (by simp)).o).mono fun p hp => ⟨hp.1, ?_⟩)
    exact run_notices todo hp.2 (by omega) hne (by simp; omega) (fun n' hn => hw n' (by simp [hn])) fun S3 st' r3 => hq S3 st' (by simpa using r3)
theorem run_gather {zs : List Rq} : ∀ (todo : List (Int × Int)) {p : Pn} {st : Int} {S2 : Sto} {k : Nat}, Rd b S S2 (ps ++ [p]) ns st → st ≤ 2 → p.2.2.gs.length + todo.length ≤ 50 → (∀ z ∈ todo, Rw ("gather", [some z.1, some z.2])) →
    (∀ S3 st' k', Rd b S S3 (ps ++ [(p.1, p.2.1, { p.2.2 with gs := p.2.2.gs ++ todo })]) ns st' → st' ≤ 2 → Run t b k' zs S3 Q) → Run t b k (todo.map (fun p => (("gather" : Str), [some p.1, some p.2])) ++ zs) S2 Q
  | [], p, st, S2, k, r, h2, _, _, hq => hq S2 st k (by rw [List.append_nil]; exact r) h2
  | z :: todo, p, st, S2, k, r, h2, hl, hw, hq => by
    simp at hl
    refine Run.cons (hw z (by simp)) r ((take_gather r h2 (by omega) (hw z (by simp)).o).mono fun q hp => ⟨hp.1, ?_⟩)
    exact run_gather todo hp.2 (by omega) (by simp; omega) (fun n' hn => hw n' (by simp [hn])) fun S3 st' k' r3 h3 => hq S3 st' k' (by simpa using r3) h3
theorem run_hush {zs : List Rq} : ∀ (todo : List (Int × Int)) {p : Pn} {st : Int} {S2 : Sto} {k : Nat}, Rd b S S2 (ps ++ [p]) ns st → st ≤ 1 → p.2.2.hs.length + todo.length ≤ 50 → (∀ z ∈ todo, Rw ("hush", [some z.1, some z.2])) →
    (∀ S3 st' k', Rd b S S3 (ps ++ [(p.1, p.2.1, { p.2.2 with hs := p.2.2.hs ++ todo })]) ns st' → st' ≤ 1 → Run t b k' zs S3 Q) → Run t b k (todo.map (fun p => (("hush" : Str), [some p.1, some p.2])) ++ zs) S2 Q
  | [], p, st, S2, k, r, h2, _, _, hq => hq S2 st k (by rw [List.append_nil]; exact r) h2
  | z :: todo, p, st, S2, k, r, h2, hl, hw, hq => by
    simp at hl
    refine Run.cons (hw z (by simp)) r ((take_hush r h2 (by omega) (hw z (by simp)).o).mono fun q hp => ⟨hp.1, ?_⟩)
    exact run_hush todo hp.2 (by omega) (by simp; omega) (fun n' hn => hw n' (by simp [hn])) fun S3 st' k' r3 h3 => hq S3 st' k' (by simpa using r3) h3
theorem run_rules {zs : List Rq} : ∀ (todo : List Rl) {ps : List Pn} {st : Int} {S2 : Sto} {k : Nat}, Rd b S S2 ps ns st → st ≤ 2 → ps.length + todo.length ≤ 50 → (∀ r ∈ todo, r.hs.length ≤ 50 ∧ r.gs.length ≤ 50 ∧ ∀ q ∈ rowsO r, Rw q) →
    (∀ S3 st' k' ps', ps'.map (fun p => p.2.2) = ps.map (fun p => p.2.2) ++ todo → Rd b S S3 ps' ns st' → st' ≤ 2 → Run t b k' zs S3 Q) → Run t b k (todo.flatMap rowsO ++ zs) S2 Q
  | [], ps, st, S2, k, r, h2, _, _, hq => hq S2 st k ps (by simp) r h2
  | u :: todo, ps, st, S2, k, r, h2, hl, hw, hq => by
    simp only [List.length_cons] at hl
    obtain ⟨u1, u2, u3⟩ := hw u (by simp)
    rw [List.flatMap_cons, List.append_assoc]
    have w0 : Rw ("person", [some u.least, u.wait, u.fur]) := u3 _ (by unfold rowsO; simp)
    have e : rowsO u ++ (todo.flatMap rowsO ++ zs) = (("person" : Str), [some u.least, u.wait, u.fur]) :: (u.hs.map (fun p => (("hush" : Str), [some p.1, some p.2])) ++ (u.gs.map (fun p => (("gather" : Str), [some p.1, some p.2])) ++ (todo.flatMap rowsO ++ zs))) := by
      unfold rowsO
      simp only [List.cons_append, List.append_assoc]
    rw [e]
    refine Run.cons w0 r ((take_person r (by omega) (by omega) w0.o).mono fun p hp => ⟨hp.1, ?_⟩)
    obtain ⟨_, h, g, r1⟩ := hp
    refine run_hush u.hs r1 (by decide) (by simpa using u1) (fun z hz => u3 _ (by unfold rowsO; exact List.mem_cons_of_mem _ (List.mem_append_left _ (List.mem_map.mpr ⟨z, hz, rfl⟩)))) fun S3 st' k' r3 h3 => ?_
    refine run_gather u.gs r3 (by omega) (by simpa using u2) (fun z hz => u3 _ (by unfold rowsO; exact List.mem_cons_of_mem _ (List.mem_append_right _ (List.mem_map.mpr ⟨z, hz, rfl⟩)))) fun S4 st2 k2 r4 h4 => ?_
    refine run_rules todo r4 h4 (by simp; omega) (fun n' hn => hw n' (by simp [hn])) fun S5 st3 k3 ps' e5 r5 h5 => ?_
    refine hq S5 st3 k3 ps' ?_ r5 h5
    rw [e5]
    simp
end
end Wk
namespace Wk
open PySem L2 Yi TL
theorem txt_rows (rs : List Rl) (ns : List Nt) : txt rs ns = Txt.join "\n" ((rs.flatMap rowsO ++ ns.map rowO).map rowL) := by
  have q1 : rs.flatMap rowsT = (rs.flatMap rowsO).map rowL := by
    rw [List.map_flatMap]
    exact congrArg (fun f => rs.flatMap f) (funext fun r => (rowsO_L r).symm)
  have q2 : ns.map nT = (ns.map rowO).map rowL := by
    rw [List.map_map]
    exact List.map_congr_left fun x _ => (rowO_L x).symm
  rw [txt_eq, q1, q2, List.map_append]
theorem rw_rules {r : Rl} {m : Nat} (g : r.Good m) (m6 : m ≤ 6) : ∀ q ∈ rowsO r, Rw q := fun q hq => by
  have o := rowsO_ok g m6 q hq
  unfold rowsO at hq
  rcases List.mem_cons.mp hq with e | hq
  · subst e
    exact ⟨o, by show 32 ∉ tl ("person" : Str); decide +kernel, by show 10 ∉ tl ("person" : Str); decide +kernel, by show ∀ c ∈ tl ("person" : Str), c < 128; decide +kernel⟩
  · rcases List.mem_append.mp hq with hq | hq
    · obtain ⟨p, hp, rfl⟩ := List.mem_map.mp hq
      exact ⟨o, by show 32 ∉ tl ("hush" : Str); decide +kernel, by show 10 ∉ tl ("hush" : Str); decide +kernel, by show ∀ c ∈ tl ("hush" : Str), c < 128; decide +kernel⟩
    · obtain ⟨p, hp, rfl⟩ := List.mem_map.mp hq
      exact ⟨o, by show 32 ∉ tl ("gather" : Str); decide +kernel, by show 10 ∉ tl ("gather" : Str); decide +kernel, by show ∀ c ∈ tl ("gather" : Str), c < 128; decide +kernel⟩
theorem rw_notice {ns : List Nt} {many : Nat} (h : GoodNs ns many) (hm : many ≤ 6) {n : Nt} (hn : n ∈ ns) : Rw (rowO n) :=
  ⟨rowO_ok h hm hn, by show 32 ∉ tl ("notice" : Str); decide +kernel, by show 10 ∉ tl ("notice" : Str); decide +kernel, by show ∀ c ∈ tl ("notice" : Str), c < 128; decide +kernel⟩
def fl1 (b : Nat) : List (Str × D) := [("found", .ref (b + 1))]
def fl2 (b : Nat) : List (Str × D) := [("found", .ref (b + 1)), ("notices", .ref (b + 2))]
theorem fl1_len (b : Nat) : (fl1 b).length < 999 := by simp [fl1]
theorem fl2_len (b : Nat) : (fl2 b).length < 999 := by simp [fl2]
theorem init_ok (S : Sto) : ok (d_Reader_init [.ref S.length] (S ++ [.ins 0 []])) fun p => p.1 = .d .non ∧ Rd S.length S p.2 [] [] 0 := by
  have g1 : ((S ++ [Cell.ins 0 []]) ++ [Cell.lst []])[S.length]? = some (.ins 0 []) := get_push get_new
  have i1 : insAt 0 (.ref S.length) ((S ++ [Cell.ins 0 []]) ++ [Cell.lst []]) = some (S.length, []) := by simp only [insAt, g1]; rfl
  generalize hA : (((S ++ [Cell.ins 0 []]) ++ [Cell.lst []]).set S.length (.ins 0 (fl1 S.length))) = A
  have lA : A.length = S.length + 2 := by rw [← hA]; simp
  have a0 : A[S.length]? = some (.ins 0 (fl1 S.length)) := by rw [← hA]; exact List.getElem?_set_self (by simp)
  have a1 : A[S.length + 1]? = some (.lst []) := by
    rw [← hA, List.getElem?_set_ne (by omega)]
    have : S.length + 1 = (S ++ [Cell.ins 0 []]).length := by simp
    rw [this]
    exact get_new
  have ak : ∀ n, n < S.length → A[n]? = S[n]? := fun n hn => by
    rw [← hA, List.getElem?_set_ne (by omega), List.getElem?_append_left (by simp; omega), List.getElem?_append_left (by omega)]
  have i2 : insAt 0 (.ref S.length) (A ++ [Cell.lst []]) = some (S.length, (fl1 S.length)) := by simp only [insAt, get_push a0]; rfl
  generalize hB : (A ++ [Cell.lst []]).set S.length (.ins 0 (fl2 S.length)) = B
  have lB : B.length = S.length + 3 := by rw [← hB]; simp; omega
  have b0 : B[S.length]? = some (.ins 0 (fl2 S.length)) := by rw [← hB]; exact List.getElem?_set_self (by simp; omega)
  have b1 : B[S.length + 1]? = some (.lst []) := by rw [← hB, List.getElem?_set_ne (by omega)]; exact get_push a1
  have b2 : B[S.length + 2]? = some (.lst []) := by rw [← hB, List.getElem?_set_ne (by omega), ← lA]; exact get_new
  have bk : ∀ n, n < S.length → B[n]? = S[n]? := fun n hn => by
    rw [← hB, List.getElem?_set_ne (by omega), List.getElem?_append_left (by omega)]
    exact ak n hn
  have i3 : insAt 0 (.ref S.length) B = some (S.length, (fl2 S.length)) := by simp only [insAt, b0]; rfl
  have p1 : putD "found" (D.ref (S.length + 1)) [] = fl1 S.length := rfl
  have p2 : putD "notices" (D.ref (S.length + 2)) (fl1 S.length) = (fl2 S.length) := by simp [putD, n_fn.symm, fl1, fl2]
  have p3 : putD "stage" (D.int 0) (fl2 S.length) = flds S.length 0 := by simp [putD, n_fs.symm, n_ns.symm, flds, fl2]
  have e1 : sFldS 0 "found" (eNm 0) (eBox (eLst aNil)) [some (.d (.ref S.length))] (S ++ [Cell.ins 0 []]) = some (.nx, [some (.d (.ref S.length))], A) := by
    have l : (S ++ [Cell.ins 0 []]).length = S.length + 1 := by simp
    refine ok.get ?_
    rw [← hA]
    simp only [List.append_assoc, List.cons_append, List.nil_append] at i1 ⊢
    simp [sNext, sIf, sBreak, sCont, sNever, sExpr, sRet, sRetO, sRetN, sSet, sAsg, gNm, gsNil, gsCons, gT, eD, eV, eBox, eNm, eC, eOp, eUn, aNil, aCons, eTup, eLst, eCB, bV, bAnd, bOr, bNot, eAnd, eOr, eNot, eIf, eChain, eCall, eFld, sFldS, sFldA, eMeth, eMake, bYes, fSub, fLt, fLe, fGt, fGe, fDiv, fMod, fPow, fNeg, fAdd, fMul, fIsN, fNotN, Yi.isNon, fEq, fNe, fIn, fInS, fIx, intR, oNo, oPart, fSl, eSl, eRev, sAppO, sExtO, sAug, oIx, oIn, oEq, sPar, sPar3, sSetIx, eDGet, eDIn, eDGet2, sDPutS, eDPop1, eDPop2, eDNewK, eDNewT, oDGet, oDIn, eBM, mApp, mExt, mPopAt, mIdx, cellL, iEv, iR1, iR2, iC, fLen, oLen, fMax, fMin, fAll, fAny, fSum, fSortI, fList, fTuple, fInt, fStr, fIsi, tyD, isLstD, isStrD, isDD, lstD, seqD, stD, eCallF, nAt, iSt, mJoin, mSplit, fAddI, sStar, iEnS, eSortSet, fSet, eLenSet, lkp, ok_some, ok_none, ok_bind, ok_map, eq_int, eq_bl, sAsg, kb_NoneType_int, kb_NoneType_bool, kb_NoneType_str, kb_NoneType_tuple, kb_NoneType_list, kb_bool_int, kb_bool_bool, kb_bool_str, kb_bool_tuple, kb_bool_list, kb_int_int, kb_int_bool, kb_int_str, kb_int_tuple, kb_int_list, kb_str_int, kb_str_bool, kb_str_str, kb_str_tuple, kb_str_list, kb_tuple_int, kb_tuple_bool, kb_tuple_str, kb_tuple_tuple, kb_tuple_list, kb_list_int, kb_list_bool, kb_list_str, kb_list_tuple, kb_list_list, sz_0, sz_1, sz_2, sz_3, sz_4, sz_5, sz_6, sz_7, sz_8, sz_9, sz_10, sz_11, sz_12, sz_13, sz_14, sz_15, sz_16, ix_1_0, ix_2_0, ix_2_1, ix_3_0, ix_3_1, ix_3_2, ix_4_0, ix_4_1, ix_4_2, ix_4_3, ix_5_0, ix_5_1, ix_5_2, ix_5_3, ix_5_4, ix_6_0, ix_6_1, ix_6_2, ix_6_3, ix_6_4, ix_6_5, ix_7_0, ix_7_1, ix_7_2, ix_7_3, ix_7_4, ix_7_5, ix_7_6, sI_0, sI_1, sI_48271, sI_69621, i1, p1]
  have e2 : sFldS 0 "notices" (eNm 0) (eBox (eLst aNil)) [some (.d (.ref S.length))] A = some (.nx, [some (.d (.ref S.length))], B) := by
    refine ok.get ?_
    simp [sNext, sIf, sBreak, sCont, sNever, sExpr, sRet, sRetO, sRetN, sSet, sAsg, gNm, gsNil, gsCons, gT, eD, eV, eBox, eNm, eC, eOp, eUn, aNil, aCons, eTup, eLst, eCB, bV, bAnd, bOr, bNot, eAnd, eOr, eNot, eIf, eChain, eCall, eFld, sFldS, sFldA, eMeth, eMake, bYes, fSub, fLt, fLe, fGt, fGe, fDiv, fMod, fPow, fNeg, fAdd, fMul, fIsN, fNotN, Yi.isNon, fEq, fNe, fIn, fInS, fIx, intR, oNo, oPart, fSl, eSl, eRev, sAppO, sExtO, sAug, oIx, oIn, oEq, sPar, sPar3, sSetIx, eDGet, eDIn, eDGet2, sDPutS, eDPop1, eDPop2, eDNewK, eDNewT, oDGet, oDIn, eBM, mApp, mExt, mPopAt, mIdx, cellL, iEv, iR1, iR2, iC, fLen, oLen, fMax, fMin, fAll, fAny, fSum, fSortI, fList, fTuple, fInt, fStr, fIsi, tyD, isLstD, isStrD, isDD, lstD, seqD, stD, eCallF, nAt, iSt, mJoin, mSplit, fAddI, sStar, iEnS, eSortSet, fSet, eLenSet, lkp, ok_some, ok_none, ok_bind, ok_map, eq_int, eq_bl, sAsg, kb_NoneType_int, kb_NoneType_bool, kb_NoneType_str, kb_NoneType_tuple, kb_NoneType_list, kb_bool_int, kb_bool_bool, kb_bool_str, kb_bool_tuple, kb_bool_list, kb_int_int, kb_int_bool, kb_int_str, kb_int_tuple, kb_int_list, kb_str_int, kb_str_bool, kb_str_str, kb_str_tuple, kb_str_list, kb_tuple_int, kb_tuple_bool, kb_tuple_str, kb_tuple_tuple, kb_tuple_list, kb_list_int, kb_list_bool, kb_list_str, kb_list_tuple, kb_list_list, sz_0, sz_1, sz_2, sz_3, sz_4, sz_5, sz_6, sz_7, sz_8, sz_9, sz_10, sz_11, sz_12, sz_13, sz_14, sz_15, sz_16, ix_1_0, ix_2_0, ix_2_1, ix_3_0, ix_3_1, ix_3_2, ix_4_0, ix_4_1, ix_4_2, ix_4_3, ix_5_0, ix_5_1, ix_5_2, ix_5_3, ix_5_4, ix_6_0, ix_6_1, ix_6_2, ix_6_3, ix_6_4, ix_6_5, ix_7_0, ix_7_1, ix_7_2, ix_7_3, ix_7_4, ix_7_5, ix_7_6, sI_0, sI_1, sI_48271, sI_69621, i2, lA, p2, hB, fl1_len]
  have e3 : sFldS 0 "stage" (eNm 0) (eC (.int 0)) [some (.d (.ref S.length))] B = some (.nx, [some (.d (.ref S.length))], B.set S.length (rdr S.length 0)) := by
    refine ok.get ?_
    simp [sNext, sIf, sBreak, sCont, sNever, sExpr, sRet, sRetO, sRetN, sSet, sAsg, gNm, gsNil, gsCons, gT, eD, eV, eBox, eNm, eC, eOp, eUn, aNil, aCons, eTup, eLst, eCB, bV, bAnd, bOr, bNot, eAnd, eOr, eNot, eIf, eChain, eCall, eFld, sFldS, sFldA, eMeth, eMake, bYes, fSub, fLt, fLe, fGt, fGe, fDiv, fMod, fPow, fNeg, fAdd, fMul, fIsN, fNotN, Yi.isNon, fEq, fNe, fIn, fInS, fIx, intR, oNo, oPart, fSl, eSl, eRev, sAppO, sExtO, sAug, oIx, oIn, oEq, sPar, sPar3, sSetIx, eDGet, eDIn, eDGet2, sDPutS, eDPop1, eDPop2, eDNewK, eDNewT, oDGet, oDIn, eBM, mApp, mExt, mPopAt, mIdx, cellL, iEv, iR1, iR2, iC, fLen, oLen, fMax, fMin, fAll, fAny, fSum, fSortI, fList, fTuple, fInt, fStr, fIsi, tyD, isLstD, isStrD, isDD, lstD, seqD, stD, eCallF, nAt, iSt, mJoin, mSplit, fAddI, sStar, iEnS, eSortSet, fSet, eLenSet, lkp, ok_some, ok_none, ok_bind, ok_map, eq_int, eq_bl, sAsg, kb_NoneType_int, kb_NoneType_bool, kb_NoneType_str, kb_NoneType_tuple, kb_NoneType_list, kb_bool_int, kb_bool_bool, kb_bool_str, kb_bool_tuple, kb_bool_list, kb_int_int, kb_int_bool, kb_int_str, kb_int_tuple, kb_int_list, kb_str_int, kb_str_bool, kb_str_str, kb_str_tuple, kb_str_list, kb_tuple_int, kb_tuple_bool, kb_tuple_str, kb_tuple_tuple, kb_tuple_list, kb_list_int, kb_list_bool, kb_list_str, kb_list_tuple, kb_list_list, sz_0, sz_1, sz_2, sz_3, sz_4, sz_5, sz_6, sz_7, sz_8, sz_9, sz_10, sz_11, sz_12, sz_13, sz_14, sz_15, sz_16, ix_1_0, ix_2_0, ix_2_1, ix_3_0, ix_3_1, ix_3_2, ix_4_0, ix_4_1, ix_4_2, ix_4_3, ix_5_0, ix_5_1, ix_5_2, ix_5_3, ix_5_4, ix_6_0, ix_6_1, ix_6_2, ix_6_3, ix_6_4, ix_6_5, ix_7_0, ix_7_1, ix_7_2, ix_7_3, ix_7_4, ix_7_5, ix_7_6, sI_0, sI_1, sI_48271, sI_69621, i3, p3, rdr, fl2_len]
  refine den_ok rfl ?_
  unfold m_Reader_init
  refine seq_ok ((ok_eq e1).mpr ⟨rfl, seq_ok ((ok_eq e2).mpr ⟨rfl, (ok_eq e3).mpr ⟨rfl, ?_⟩⟩)⟩)
  refine ⟨fun n hn => by rw [List.getElem?_set_ne (by omega)]; exact bk n hn, List.getElem?_set_self (by omega), by rw [List.getElem?_set_ne (by omega)]; exact b1, by rw [List.getElem?_set_ne (by omega)]; exact b2, fun p hp => by simp at hp, by simp⟩
theorem set_tup {i : Nat} {m : EM} {ρ : Slt} {S S' : Sto} {ds : List D} (h : m ρ S = some (.own (.lst ds), S')) : sSet i (eCB fTuple (aCons m aNil)) ρ S = some (.nx, ρ.set i (some (.d (.tup ds))), S') := by
  refine ok.get ?_
  simp [sNext, sIf, sBreak, sCont, sNever, sExpr, sRet, sRetO, sRetN, sSet, sAsg, gNm, gsNil, gsCons, gT, eD, eV, eBox, eNm, eC, eOp, eUn, aNil, aCons, eTup, eLst, eCB, bV, bAnd, bOr, bNot, eAnd, eOr, eNot, eIf, eChain, eCall, eFld, sFldS, sFldA, eMeth, eMake, bYes, fSub, fLt, fLe, fGt, fGe, fDiv, fMod, fPow, fNeg, fAdd, fMul, fIsN, fNotN, Yi.isNon, fEq, fNe, fIn, fInS, fIx, intR, oNo, oPart, fSl, eSl, eRev, sAppO, sExtO, sAug, oIx, oIn, oEq, sPar, sPar3, sSetIx, eDGet, eDIn, eDGet2, sDPutS, eDPop1, eDPop2, eDNewK, eDNewT, oDGet, oDIn, eBM, mApp, mExt, mPopAt, mIdx, cellL, iEv, iR1, iR2, iC, fLen, oLen, fMax, fMin, fAll, fAny, fSum, fSortI, fList, fTuple, fInt, fStr, fIsi, tyD, isLstD, isStrD, isDD, lstD, seqD, stD, eCallF, nAt, iSt, mJoin, mSplit, fAddI, sStar, iEnS, eSortSet, fSet, eLenSet, insAt, lkp, putD, ok_some, ok_none, ok_bind, ok_map, eq_int, eq_bl, sAsg, kb_NoneType_int, kb_NoneType_bool, kb_NoneType_str, kb_NoneType_tuple, kb_NoneType_list, kb_bool_int, kb_bool_bool, kb_bool_str, kb_bool_tuple, kb_bool_list, kb_int_int, kb_int_bool, kb_int_str, kb_int_tuple, kb_int_list, kb_str_int, kb_str_bool, kb_str_str, kb_str_tuple, kb_str_list, kb_tuple_int, kb_tuple_bool, kb_tuple_str, kb_tuple_tuple, kb_tuple_list, kb_list_int, kb_list_bool, kb_list_str, kb_list_tuple, kb_list_list, sz_0, sz_1, sz_2, sz_3, sz_4, sz_5, sz_6, sz_7, sz_8, sz_9, sz_10, sz_11, sz_12, sz_13, sz_14, sz_15, sz_16, ix_1_0, ix_2_0, ix_2_1, ix_3_0, ix_3_1, ix_3_2, ix_4_0, ix_4_1, ix_4_2, ix_4_3, ix_5_0, ix_5_1, ix_5_2, ix_5_3, ix_5_4, ix_6_0, ix_6_1, ix_6_2, ix_6_3, ix_6_4, ix_6_5, ix_7_0, ix_7_1, ix_7_2, ix_7_3, ix_7_4, ix_7_5, ix_7_6, sI_0, sI_1, sI_48271, sI_69621, h]
theorem rules_lc {b : Nat} {S S2 : Sto} {ps : List Pn} {ns : List Nt} {st : Int} {t : Str} {x3 x4 : Option VV} (r : Rd b S S2 ps ns st) (hl : ps.length ≤ 100) :
    eLcC (iC (eFld 0 "found" (eNm 1))) mkI (gNm 5) bYes (eTup (aCons (eCB fTuple (aCons (eOp fIx (eNm 5) (eC (.int 0))) aNil)) (aCons (eOp fIx (eNm 5) (eC (.int 1))) (aCons (eCB fTuple (aCons (eOp fIx (eNm 5) (eC (.int 2))) aNil)) (aCons (eOp fIx (eNm 5) (eC (.int 3))) (aCons (eOp fIx (eNm 5) (eC (.int 4))) aNil)))))) [5] (sl t b x3 x4) S2 = some (.own (.lst (ps.map fun p => rD p.2.2)), S2) := by
  have i1 := r.ins
  unfold eLcC
  have i3 : iC (eFld 0 "found" (eNm 1)) (sl t b x3 x4) S2 = some (b + 1, S2) := by
    refine ok.get ?_
    simp [sl, sNext, sIf, sBreak, sCont, sNever, sExpr, sRet, sRetO, sRetN, sSet, sAsg, gNm, gsNil, gsCons, gT, eD, eV, eBox, eNm, eC, eOp, eUn, aNil, aCons, eTup, eLst, eCB, bV, bAnd, bOr, bNot, eAnd, eOr, eNot, eIf, eChain, eCall, eFld, sFldS, sFldA, eMeth, eMake, bYes, fSub, fLt, fLe, fGt, fGe, fDiv, fMod, fPow, fNeg, fAdd, fMul, fIsN, fNotN, Yi.isNon, fEq, fNe, fIn, fInS, fIx, intR, oNo, oPart, fSl, eSl, eRev, sAppO, sExtO, sAug, oIx, oIn, oEq, sPar, sPar3, sSetIx, eDGet, eDIn, eDGet2, sDPutS, eDPop1, eDPop2, eDNewK, eDNewT, oDGet, oDIn, eBM, mApp, mExt, mPopAt, mIdx, cellL, iEv, iR1, iR2, iC, fLen, oLen, fMax, fMin, fAll, fAny, fSum, fSortI, fList, fTuple, fInt, fStr, fIsi, tyD, isLstD, isStrD, isDD, lstD, seqD, stD, eCallF, nAt, iSt, mJoin, mSplit, fAddI, sStar, iEnS, eSortSet, fSet, eLenSet, lkp, putD, ok_some, ok_none, ok_bind, ok_map, eq_int, eq_bl, sAsg, kb_NoneType_int, kb_NoneType_bool, kb_NoneType_str, kb_NoneType_tuple, kb_NoneType_list, kb_bool_int, kb_bool_bool, kb_bool_str, kb_bool_tuple, kb_bool_list, kb_int_int, kb_int_bool, kb_int_str, kb_int_tuple, kb_int_list, kb_str_int, kb_str_bool, kb_str_str, kb_str_tuple, kb_str_list, kb_tuple_int, kb_tuple_bool, kb_tuple_str, kb_tuple_tuple, kb_tuple_list, kb_list_int, kb_list_bool, kb_list_str, kb_list_tuple, kb_list_list, sz_0, sz_1, sz_2, sz_3, sz_4, sz_5, sz_6, sz_7, sz_8, sz_9, sz_10, sz_11, sz_12, sz_13, sz_14, sz_15, sz_16, ix_1_0, ix_2_0, ix_2_1, ix_3_0, ix_3_1, ix_3_2, ix_4_0, ix_4_1, ix_4_2, ix_4_3, ix_5_0, ix_5_1, ix_5_2, ix_5_3, ix_5_4, ix_6_0, ix_6_1, ix_6_2, ix_6_3, ix_6_4, ix_6_5, ix_7_0, ix_7_1, ix_7_2, ix_7_3, ix_7_4, ix_7_5, ix_7_6, sI_0, sI_1, sI_48271, sI_69621, i1, f_f, r.f]
  rw [i3, Option.bind_some]
  have e : lenC (b + 1) S2 = (ps.map fD).length := by unfold lenC; rw [r.f]
  dsimp only
  rw [e, compC_map (fun i _ => match ps[i]? with | some p => rD p.2.2 | none => .non) r.f (by simp; omega) ?_ (ps.map fD).length 0 [] (by omega) (by simp)]
  · rw [Option.map_some]
    have em : (ps.map fD).mapIdx (fun i _ => match ps[i]? with | some p => rD p.2.2 | none => .non) = ps.map fun p => rD p.2.2 := by
      apply List.ext_getElem?
      intro i
      rw [List.getElem?_mapIdx, List.getElem?_map, List.getElem?_map]
      cases h : ps[i]? with
      | none => rfl
      | some p => simp [h]
    rw [em]
  · intro i d hd
    rw [List.getElem?_map] at hd
    obtain ⟨p, hp, rfl⟩ := Option.map_eq_some_iff.mp hd
    obtain ⟨c1, c2, _⟩ := r.c p (List.mem_of_getElem? hp)
    refine ⟨_, rfl, rfl, ok.get ?_⟩
    rw [hp]
    simp [sl, sNext, sIf, sBreak, sCont, sNever, sExpr, sRet, sRetO, sRetN, sSet, sAsg, gNm, gsNil, gsCons, gT, eD, eV, eBox, eNm, eC, eOp, eUn, aNil, aCons, eTup, eLst, eCB, bV, bAnd, bOr, bNot, eAnd, eOr, eNot, eIf, eChain, eCall, eFld, sFldS, sFldA, eMeth, eMake, bYes, fSub, fLt, fLe, fGt, fGe, fDiv, fMod, fPow, fNeg, fAdd, fMul, fIsN, fNotN, Yi.isNon, fEq, fNe, fIn, fInS, fIx, intR, oNo, oPart, fSl, eSl, eRev, sAppO, sExtO, sAug, oIx, oIn, oEq, sPar, sPar3, sSetIx, eDGet, eDIn, eDGet2, sDPutS, eDPop1, eDPop2, eDNewK, eDNewT, oDGet, oDIn, eBM, mApp, mExt, mPopAt, mIdx, cellL, iEv, iR1, iR2, iC, fLen, oLen, fMax, fMin, fAll, fAny, fSum, fSortI, fList, fTuple, fInt, fStr, fIsi, tyD, isLstD, isStrD, isDD, lstD, seqD, stD, eCallF, nAt, iSt, mJoin, mSplit, fAddI, sStar, iEnS, eSortSet, fSet, eLenSet, insAt, lkp, putD, ok_some, ok_none, ok_bind, ok_map, eq_int, eq_bl, sAsg, kb_NoneType_int, kb_NoneType_bool, kb_NoneType_str, kb_NoneType_tuple, kb_NoneType_list, kb_bool_int, kb_bool_bool, kb_bool_str, kb_bool_tuple, kb_bool_list, kb_int_int, kb_int_bool, kb_int_str, kb_int_tuple, kb_int_list, kb_str_int, kb_str_bool, kb_str_str, kb_str_tuple, kb_str_list, kb_tuple_int, kb_tuple_bool, kb_tuple_str, kb_tuple_tuple, kb_tuple_list, kb_list_int, kb_list_bool, kb_list_str, kb_list_tuple, kb_list_list, sz_0, sz_1, sz_2, sz_3, sz_4, sz_5, sz_6, sz_7, sz_8, sz_9, sz_10, sz_11, sz_12, sz_13, sz_14, sz_15, sz_16, ix_1_0, ix_2_0, ix_2_1, ix_3_0, ix_3_1, ix_3_2, ix_4_0, ix_4_1, ix_4_2, ix_4_3, ix_5_0, ix_5_1, ix_5_2, ix_5_3, ix_5_4, ix_6_0, ix_6_1, ix_6_2, ix_6_3, ix_6_4, ix_6_5, ix_7_0, ix_7_1, ix_7_2, ix_7_3, ix_7_4, ix_7_5, ix_7_6, sI_0, sI_1, sI_48271, sI_69621, mkI, wipeS, fD, atI, ix_5_0, ix_5_1, ix_5_2, ix_5_3, ix_5_4, lstD, c1, c2, sz_5, rD]
theorem read_ok {rs : List Rl} {ns : List Nt} {S : Sto} (h : GoodRs rs) (hn : GoodNs ns rs.length) : ok (d_read [.str (txt rs ns)] S) fun p =>
    p.1 = .d (.tup [.tup (rs.map rD), .ref (S.length + 2)]) ∧ p.2[S.length + 2]? = some (.lst (ns.map nD)) ∧ ∀ n, n < S.length → p.2[n]? = S[n]? := by
  have l6 := h.l6
  have l1 := h.l1
  have l30 := hn.l
  have fl := flatO_len fun r hr => ⟨_, h.g r hr⟩
  refine den_ok rfl (seq_ok ?_)
  obtain ⟨⟨v, S1⟩, e, e1, r1⟩ := init_ok S
  dsimp only at e1 r1
  subst e1
  generalize hT : txt rs ns = t
  have m1 : sSet 1 (eMake 0 d_Reader_init aNil []) ([D.str t].map (fun d => some (VV.d d)) ++ List.replicate (6 - 1) none) S = some (.nx, sl t S.length none none, S1) := by
    refine ok.get ?_
    simp [sNext, sIf, sBreak, sCont, sNever, sExpr, sRet, sRetO, sRetN, sSet, sAsg, gNm, gsNil, gsCons, gT, eD, eV, eBox, eNm, eC, eOp, eUn, aNil, aCons, eTup, eLst, eCB, bV, bAnd, bOr, bNot, eAnd, eOr, eNot, eIf, eChain, eCall, eFld, sFldS, sFldA, eMeth, eMake, bYes, fSub, fLt, fLe, fGt, fGe, fDiv, fMod, fPow, fNeg, fAdd, fMul, fIsN, fNotN, Yi.isNon, fEq, fNe, fIn, fInS, fIx, intR, oNo, oPart, fSl, eSl, eRev, sAppO, sExtO, sAug, oIx, oIn, oEq, sPar, sPar3, sSetIx, eDGet, eDIn, eDGet2, sDPutS, eDPop1, eDPop2, eDNewK, eDNewT, oDGet, oDIn, eBM, mApp, mExt, mPopAt, mIdx, cellL, iEv, iR1, iR2, iC, fLen, oLen, fMax, fMin, fAll, fAny, fSum, fSortI, fList, fTuple, fInt, fStr, fIsi, tyD, isLstD, isStrD, isDD, lstD, seqD, stD, eCallF, nAt, iSt, mJoin, mSplit, fAddI, sStar, iEnS, eSortSet, fSet, eLenSet, insAt, lkp, putD, ok_some, ok_none, ok_bind, ok_map, eq_int, eq_bl, sAsg, kb_NoneType_int, kb_NoneType_bool, kb_NoneType_str, kb_NoneType_tuple, kb_NoneType_list, kb_bool_int, kb_bool_bool, kb_bool_str, kb_bool_tuple, kb_bool_list, kb_int_int, kb_int_bool, kb_int_str, kb_int_tuple, kb_int_list, kb_str_int, kb_str_bool, kb_str_str, kb_str_tuple, kb_str_list, kb_tuple_int, kb_tuple_bool, kb_tuple_str, kb_tuple_tuple, kb_tuple_list, kb_list_int, kb_list_bool, kb_list_str, kb_list_tuple, kb_list_list, sz_0, sz_1, sz_2, sz_3, sz_4, sz_5, sz_6, sz_7, sz_8, sz_9, sz_10, sz_11, sz_12, sz_13, sz_14, sz_15, sz_16, ix_1_0, ix_2_0, ix_2_1, ix_3_0, ix_3_1, ix_3_2, ix_4_0, ix_4_1, ix_4_2, ix_4_3, ix_5_0, ix_5_1, ix_5_2, ix_5_3, ix_5_4, ix_6_0, ix_6_1, ix_6_2, ix_6_3, ix_6_4, ix_6_5, ix_7_0, ix_7_1, ix_7_2, ix_7_3, ix_7_4, ix_7_5, ix_7_6, sI_0, sI_1, sI_48271, sI_69621, e, sl]
  refine (ok_eq m1).mpr ⟨rfl, seq_ok (for_ok ?_)⟩
  have qs : ∀ q ∈ rs.flatMap rowsO ++ ns.map rowO, Rw q := fun q hq => by
    rcases List.mem_append.mp hq with hq | hq
    · obtain ⟨r, hr, hz⟩ := List.mem_flatMap.mp hq
      exact rw_rules (h.g r hr) l6 q hz
    · obtain ⟨n, hm, rfl⟩ := List.mem_map.mp hq
      exact rw_notice hn l6 hm
  have sp : Txt.split t "\n" = (rs.flatMap rowsO ++ ns.map rowO).map rowL := by
    rw [← hT, txt_rows]
    refine split_join (s := 10) (S := []) (by decide +kernel) (by decide +kernel) ?_ fun z hz => ?_
    · cases rs with
      | nil => simp at l1
      | cons r rs => simp [rowsO]
    · obtain ⟨q, hq, rfl⟩ := List.mem_map.mp hz
      exact (qs q hq).free
  have lt : t.length ≤ 200000 := by
    rw [← hT, txt_rows]
    have h1 := join_length ("\n") ((rs.flatMap rowsO ++ ns.map rowO).map rowL)
    have h2 : (((rs.flatMap rowsO ++ ns.map rowO).map rowL).map (·.length)).sum ≤ (((rs.flatMap rowsO ++ ns.map rowO).map rowL).map (·.length)).length * 1000 := sum_le fun n hn => by
      obtain ⟨z, hz, rfl⟩ := List.mem_map.mp hn
      obtain ⟨q, hq, rfl⟩ := List.mem_map.mp hz
      exact rowL_len (qs q hq).o
    rw [l_nl] at h1
    simp only [List.length_map, List.length_append] at h1 h2
    omega
  have it : iEnS (aCons (eBM isStrD mSplit (eNm 0) (aCons (eC (.str "\n")) aNil)) aNil) (sl t S.length none none) S1 = some (enumL 0 ((rs.flatMap rowsO ++ ns.map rowO).map fun q => .str (rowL q)), S1) := by
    have z : szOk (t.length + 2) = true := by simp [szOk]; omega
    have ms : mSplit (.str t) [.str "\n"] S1 = some (.own (.lst ((rs.flatMap rowsO ++ ns.map rowO).map fun q => .str (rowL q))), S1) := by
      show (if (("\n" : Str).length == 0) = false ∧ szOk (t.length + 2) = true then some (VV.own (.lst ((Txt.split t "\n").map .str)), S1) else none) = _
      rw [sp, if_pos ⟨by rw [l_nl]; rfl, z⟩, List.map_map]
      rfl
    generalize rs.flatMap rowsO ++ ns.map rowO = W at ms
    refine ok.get ?_
    simp [iEnS, sl, sNext, sIf, sBreak, sCont, sNever, sExpr, sRet, sRetO, sRetN, sSet, sAsg, gNm, gsNil, gsCons, gT, eD, eV, eBox, eNm, eC, eOp, eUn, aNil, aCons, eTup, eLst, eCB, bV, bAnd, bOr, bNot, eAnd, eOr, eNot, eIf, eChain, eCall, eFld, sFldS, sFldA, eMeth, eMake, bYes, fSub, fLt, fLe, fGt, fGe, fDiv, fMod, fPow, fNeg, fAdd, fMul, fIsN, fNotN, Yi.isNon, fEq, fNe, fIn, fInS, fIx, intR, oNo, oPart, fSl, eSl, eRev, sAppO, sExtO, sAug, oIx, oIn, oEq, sPar, sPar3, sSetIx, eDGet, eDIn, eDGet2, sDPutS, eDPop1, eDPop2, eDNewK, eDNewT, oDGet, oDIn, eBM, mApp, mExt, mPopAt, mIdx, cellL, iEv, iR1, iR2, iC, fLen, oLen, fMax, fMin, fAll, fAny, fSum, fSortI, fList, fTuple, fInt, fStr, fIsi, tyD, isLstD, isStrD, isDD, lstD, seqD, stD, eCallF, nAt, iSt, mJoin, fAddI, sStar, iEnS, eSortSet, fSet, eLenSet, insAt, lkp, putD, ok_some, ok_none, ok_bind, ok_map, eq_int, eq_bl, sAsg, kb_NoneType_int, kb_NoneType_bool, kb_NoneType_str, kb_NoneType_tuple, kb_NoneType_list, kb_bool_int, kb_bool_bool, kb_bool_str, kb_bool_tuple, kb_bool_list, kb_int_int, kb_int_bool, kb_int_str, kb_int_tuple, kb_int_list, kb_str_int, kb_str_bool, kb_str_str, kb_str_tuple, kb_str_list, kb_tuple_int, kb_tuple_bool, kb_tuple_str, kb_tuple_tuple, kb_tuple_list, kb_list_int, kb_list_bool, kb_list_str, kb_list_tuple, kb_list_list, sz_0, sz_1, sz_2, sz_3, sz_4, sz_5, sz_6, sz_7, sz_8, sz_9, sz_10, sz_11, sz_12, sz_13, sz_14, sz_15, sz_16, ix_1_0, ix_2_0, ix_2_1, ix_3_0, ix_3_1, ix_3_2, ix_4_0, ix_4_1, ix_4_2, ix_4_3, ix_5_0, ix_5_1, ix_5_2, ix_5_3, ix_5_4, ix_6_0, ix_6_1, ix_6_2, ix_6_3, ix_6_4, ix_6_5, ix_7_0, ix_7_1, ix_7_2, ix_7_3, ix_7_4, ix_7_5, ix_7_6, sI_0, sI_1, sI_48271, sI_69621, ms]
  refine (ok_eq it).mpr ?_
  have run : Run t S.length 0 (rs.flatMap rowsO ++ ns.map rowO) S1 fun S3 => ∃ ps st, ps.map (fun p => p.2.2) = rs ∧ Rd S.length S S3 ps ns st := by
    refine run_rules rs r1 (by decide) (by simp; omega) (fun r hr => ?_) fun S3 st' k' ps' e3 r3 h3 => ?_
    · have g := h.g r hr
      exact ⟨by have := g.hl; omega, by have := g.gl; omega, rw_rules g l6⟩
    · simp only [List.map_nil, List.nil_append] at e3
      refine run_notices ns r3 (by omega) ?_ (by simp; omega) (fun n hm => rw_notice hn l6 hm) fun S4 st4 r4 => ⟨ps', st4, e3, by simpa using r4⟩
      intro q
      subst q
      rw [← e3] at l1
      simp at l1
  refine (run none none).mono ?_
  rintro ⟨f, ρ, S3⟩ ⟨e3, ⟨x3, x4, e4⟩, ps, st, e5, r3⟩
  dsimp only at e3 e4 r3
  subst e3 e4
  have lp : ps.length = rs.length := by rw [← e5]; simp
  refine ⟨rfl, seq_ok ?_⟩
  have lc := rules_lc (t := t) (x3 := x3) (x4 := x4) r3 (by omega)
  have em : ps.map (fun p => rD p.2.2) = rs.map rD := by rw [← e5, List.map_map]; rfl
  rw [em] at lc
  have s2 : sSet 2 (eCB fTuple (aCons (eLcC (iC (eFld 0 "found" (eNm 1))) mkI (gNm 5) bYes (eTup (aCons (eCB fTuple (aCons (eOp fIx (eNm 5) (eC (.int 0))) aNil)) (aCons (eOp fIx (eNm 5) (eC (.int 1))) (aCons (eCB fTuple (aCons (eOp fIx (eNm 5) (eC (.int 2))) aNil)) (aCons (eOp fIx (eNm 5) (eC (.int 3))) (aCons (eOp fIx (eNm 5) (eC (.int 4))) aNil)))))) [5]) aNil)) (sl t S.length x3 x4) S3
      = some (.nx, [some (.d (.str t)), some (.d (.ref S.length)), some (.d (.tup (rs.map rD))), x3, x4, none], S3) := by
    exact set_tup lc
  refine (ok_eq s2).mpr ⟨rfl, ?_⟩
  have nr := need_rules_ok (S := S3) h
  have nn := need_notices_ok (S := S3) h r3.n l30 hn.g hn.t
  have i1 := r3.ins
  refine seq_ok ?_
  simp [sNext, sIf, sBreak, sCont, sNever, sExpr, sRet, sRetO, sRetN, sSet, sAsg, gNm, gsNil, gsCons, gT, eD, eV, eBox, eNm, eC, eOp, eUn, aNil, aCons, eTup, eLst, eCB, bV, bAnd, bOr, bNot, eAnd, eOr, eNot, eIf, eChain, eCall, eFld, sFldS, sFldA, eMeth, eMake, bYes, fSub, fLt, fLe, fGt, fGe, fDiv, fMod, fPow, fNeg, fAdd, fMul, fIsN, fNotN, Yi.isNon, fEq, fNe, fIn, fInS, fIx, intR, oNo, oPart, fSl, eSl, eRev, sAppO, sExtO, sAug, oIx, oIn, oEq, sPar, sPar3, sSetIx, eDGet, eDIn, eDGet2, sDPutS, eDPop1, eDPop2, eDNewK, eDNewT, oDGet, oDIn, eBM, mApp, mExt, mPopAt, mIdx, cellL, iEv, iR1, iR2, iC, fLen, oLen, fMax, fMin, fAll, fAny, fSum, fSortI, fList, fTuple, fInt, fStr, fIsi, tyD, isLstD, isStrD, isDD, lstD, seqD, stD, eCallF, nAt, iSt, mJoin, mSplit, fAddI, sStar, iEnS, eSortSet, fSet, eLenSet, lkp, putD, ok_some, ok_none, ok_bind, ok_map, eq_int, eq_bl, sAsg, kb_NoneType_int, kb_NoneType_bool, kb_NoneType_str, kb_NoneType_tuple, kb_NoneType_list, kb_bool_int, kb_bool_bool, kb_bool_str, kb_bool_tuple, kb_bool_list, kb_int_int, kb_int_bool, kb_int_str, kb_int_tuple, kb_int_list, kb_str_int, kb_str_bool, kb_str_str, kb_str_tuple, kb_str_list, kb_tuple_int, kb_tuple_bool, kb_tuple_str, kb_tuple_tuple, kb_tuple_list, kb_list_int, kb_list_bool, kb_list_str, kb_list_tuple, kb_list_list, sz_0, sz_1, sz_2, sz_3, sz_4, sz_5, sz_6, sz_7, sz_8, sz_9, sz_10, sz_11, sz_12, sz_13, sz_14, sz_15, sz_16, ix_1_0, ix_2_0, ix_2_1, ix_3_0, ix_3_1, ix_3_2, ix_4_0, ix_4_1, ix_4_2, ix_4_3, ix_5_0, ix_5_1, ix_5_2, ix_5_3, ix_5_4, ix_6_0, ix_6_1, ix_6_2, ix_6_3, ix_6_4, ix_6_5, ix_7_0, ix_7_1, ix_7_2, ix_7_3, ix_7_4, ix_7_5, ix_7_6, sI_0, sI_1, sI_48271, sI_69621, nr]
  refine seq_ok ?_
  simp [sNext, sIf, sBreak, sCont, sNever, sExpr, sRet, sRetO, sRetN, sSet, sAsg, gNm, gsNil, gsCons, gT, eD, eV, eBox, eNm, eC, eOp, eUn, aNil, aCons, eTup, eLst, eCB, bV, bAnd, bOr, bNot, eAnd, eOr, eNot, eIf, eChain, eCall, eFld, sFldS, sFldA, eMeth, eMake, bYes, fSub, fLt, fLe, fGt, fGe, fDiv, fMod, fPow, fNeg, fAdd, fMul, fIsN, fNotN, Yi.isNon, fEq, fNe, fIn, fInS, fIx, intR, oNo, oPart, fSl, eSl, eRev, sAppO, sExtO, sAug, oIx, oIn, oEq, sPar, sPar3, sSetIx, eDGet, eDIn, eDGet2, sDPutS, eDPop1, eDPop2, eDNewK, eDNewT, oDGet, oDIn, eBM, mApp, mExt, mPopAt, mIdx, cellL, iEv, iR1, iR2, iC, fLen, oLen, fMax, fMin, fAll, fAny, fSum, fSortI, fList, fTuple, fInt, fStr, fIsi, tyD, isLstD, isStrD, isDD, lstD, seqD, stD, eCallF, nAt, iSt, mJoin, mSplit, fAddI, sStar, iEnS, eSortSet, fSet, eLenSet, lkp, putD, ok_some, ok_none, ok_bind, ok_map, eq_int, eq_bl, sAsg, kb_NoneType_int, kb_NoneType_bool, kb_NoneType_str, kb_NoneType_tuple, kb_NoneType_list, kb_bool_int, kb_bool_bool, kb_bool_str, kb_bool_tuple, kb_bool_list, kb_int_int, kb_int_bool, kb_int_str, kb_int_tuple, kb_int_list, kb_str_int, kb_str_bool, kb_str_str, kb_str_tuple, kb_str_list, kb_tuple_int, kb_tuple_bool, kb_tuple_str, kb_tuple_tuple, kb_tuple_list, kb_list_int, kb_list_bool, kb_list_str, kb_list_tuple, kb_list_list, sz_0, sz_1, sz_2, sz_3, sz_4, sz_5, sz_6, sz_7, sz_8, sz_9, sz_10, sz_11, sz_12, sz_13, sz_14, sz_15, sz_16, ix_1_0, ix_2_0, ix_2_1, ix_3_0, ix_3_1, ix_3_2, ix_4_0, ix_4_1, ix_4_2, ix_4_3, ix_5_0, ix_5_1, ix_5_2, ix_5_3, ix_5_4, ix_6_0, ix_6_1, ix_6_2, ix_6_3, ix_6_4, ix_6_5, ix_7_0, ix_7_1, ix_7_2, ix_7_3, ix_7_4, ix_7_5, ix_7_6, sI_0, sI_1, sI_48271, sI_69621, i1, f_n, nn]
  exact ⟨r3.n, r3.k⟩
end Wk
namespace Wk
open PySem L2 Yi TL
theorem ow_low {o : Option Int} (h : ∀ i, o = some i → 0 ≤ i ∧ i ≤ 999) : ∀ c ∈ tl (ow o), c < 128 := by
  intro c hc
  cases o with
  | none =>
    rw [show tl (ow none) = [45] from (by decide +kernel : tl ("-" : Str) = [45])] at hc
    simp at hc
    omega
  | some i =>
    obtain ⟨n, rfl⟩ : ∃ n : Nat, i = n := ⟨i.toNat, by have := h i rfl; omega⟩
    have := num_dig (n := n) c hc
    omega
theorem Rw.low {q : Rq} (h : Rw q) : ∀ c ∈ tl (rowL q), c < 128 := by
  intro c hm
  unfold rowL line at hm
  rw [join_eq, tl_join, show tl (" " : Str) = [32] by decide +kernel] at hm
  rcases join_mem hm with h2 | ⟨z, hz, h2⟩
  · omega
  · obtain ⟨p, hp, rfl⟩ := List.mem_map.mp hz
    rcases List.mem_cons.mp hp with e | hp
    · rw [e] at h2; exact h.a c h2
    · obtain ⟨o, ho, rfl⟩ := List.mem_map.mp hp
      exact ow_low (h.o.n o ho) c h2
theorem txt_can {rs : List Rl} {ns : List Nt} (h : GoodRs rs) (hn : GoodNs ns rs.length) : PyData.canLay0 (.str (txt rs ns)) = true := canL fun c hm => by
  rw [txt_rows, join_eq, tl_join, show tl ("\n" : Str) = [10] by decide +kernel] at hm
  rcases join_mem hm with h2 | ⟨z, hz, h2⟩
  · omega
  · obtain ⟨p, hp, rfl⟩ := List.mem_map.mp hz
    obtain ⟨q, hq, rfl⟩ := List.mem_map.mp hp
    refine Rw.low ?_ c h2
    rcases List.mem_append.mp hq with hq | hq
    · obtain ⟨r, hr, hz⟩ := List.mem_flatMap.mp hq
      exact rw_rules (h.g r hr) h.l6 q hz
    · obtain ⟨n, hm, rfl⟩ := List.mem_map.mp hq
      exact rw_notice hn h.l6 hm
theorem alks_map {α : Type} {n : Nat} {S : Sto} {f g : α → D} : ∀ {l : List α}, (∀ a ∈ l, alk n (f a) (g a) S) → alks n (l.map f) (l.map g) S
  | [], _ => by simp only [List.map_nil, alks]
  | a :: r, h => by
    simp only [List.map_cons, alks]
    exact ⟨_, _, rfl, h a (by simp), alks_map fun b hb => h b (by simp [hb])⟩
theorem alk_int {n : Nat} {i : Int} {S : Sto} : alk (n + 1) (.int i) (.int i) S := by simp only [alk]; exact .inr (.inl ⟨i, rfl, rfl⟩)
theorem alk_o {n : Nat} {o : Option Int} {S : Sto} : alk (n + 1) (oD o) (oD o) S := by
  cases o with
  | none => simp only [alk]; exact .inl ⟨rfl, rfl⟩
  | some i => exact alk_int
theorem alk_tup {n : Nat} {ds es : List D} {S : Sto} (hl : ds.length ≤ 1000) (h : alks n ds es S) : alk (n + 1) (.tup ds) (.tup es) S := by
  simp only [alk]
  exact .inr (.inr (.inr (.inl ⟨ds, es, rfl, rfl, hl, h⟩)))
theorem alks_cons {n : Nat} {d e : D} {ds es : List D} {S : Sto} (h1 : alk n d e S) (h2 : alks n ds es S) : alks n (d :: ds) (e :: es) S := by
  simp only [alks]
  exact ⟨e, es, rfl, h1, h2⟩
theorem alks_nil {n : Nat} {S : Sto} : alks n [] [] S := by simp only [alks]
theorem alk_p {n : Nat} {p : Int × Int} {S : Sto} : alk (n + 2) (pD p) (pD p) S := alk_tup (by simp) (alks_cons alk_int (alks_cons alk_int alks_nil))
theorem alk_ps {n : Nat} {l : List (Int × Int)} {S : Sto} (hl : l.length ≤ 1000) : alk (n + 3) (.tup (l.map pD)) (.tup (l.map pD)) S := alk_tup (by simpa using hl) (alks_map fun _ _ => alk_p)
theorem alk_n {n : Nat} {x : Nt} {S : Sto} : alk (n + 2) (nD x) (nD x) S := alk_tup (by simp) (alks_cons alk_int (alks_cons alk_int (alks_cons alk_int (alks_cons alk_int alks_nil))))
theorem alk_r {n m : Nat} {r : Rl} {S : Sto} (g : r.Good m) : alk (n + 4) (rD r) (rD r) S :=
  alk_tup (by simp) (alks_cons (alk_ps (by have := g.hl; omega)) (alks_cons alk_int (alks_cons (alk_ps (by have := g.gl; omega)) (alks_cons alk_o (alks_cons alk_o alks_nil)))))
theorem alk_found {rs : List Rl} {ns : List Nt} {n : Nat} {S : Sto} (h : GoodRs rs) (hn : GoodNs ns rs.length) (hS : S[n]? = some (.lst (ns.map nD))) :
    alk 8 (.tup [.tup (rs.map rD), .ref n]) (.tup [.tup (rs.map rD), .fl (ns.map nD)]) S := by
  have l6 := h.l6
  have l30 := hn.l
  refine alk_tup (by simp) (alks_cons (alk_tup (by simp; omega) (alks_map fun r hr => alk_r (h.g r hr))) (alks_cons ?_ alks_nil))
  simp only [alk]
  exact .inr (.inr (.inr (.inr ⟨_, _, by simp only [lstD, hS], rfl, by simp; omega, alks_map fun _ _ => alk_n⟩)))
theorem handed_eq {ns : List Nt} {n : Nat} {S : Sto} (hS : S[n]? = some (.lst (ns.map nD))) : eqD (.ref n) (.fl (ns.map nD)) S = some true := by
  have hs : shps 11 (ns.map nD) (ns.map fun n => .tuple [.int n.person, .int n.rank, .int n.kind, .int n.born]) S := shps_map fun n _ => by simp [nD, shp, shps]
  refine eqD_same (p := .list (ns.map fun n => .tuple [.int n.person, .int n.rank, .int n.kind, .int n.born])) ?_ ?_
  · simp only [shp]
    exact ⟨_, _, hS, rfl, hs⟩
  · simp only [shp]
    exact ⟨_, rfl, hs⟩
/-! ### the law -/
def InvA (ls : List Int) (rs : List Rl) (ns : List Nt) (h : Nat) (_ : Nat) (ρ : Slt) (S : Sto) : Prop := Box S ∧ S[h]? = some (.lst (ns.map nD)) ∧ ∃ x2 x5 x8 : Option VV,
  ρ = [some (.d (.lk ls)), some (.d (.ref 1)), x2, some (.d (.tup (rs.map rD))), some (.d (.fl (ns.map nD))), x5, some (.d (.str (txt rs ns))), some (.d (.ref h)), x8]
theorem box_keep {S S' : Sto} (hb : Box S) (hk : ∀ n, n < S.length → S'[n]? = S[n]?) : Box S' := by
  obtain ⟨ns, z, e0, e1⟩ := hb
  exact ⟨ns, z, by rw [hk 0 (lt_of_get e0)]; exact e0, by rw [hk 1 (lt_of_get e1)]; exact e1⟩
theorem box_set {S : Sto} {n : Nat} {c : Cell} (hb : Box S) (h2 : 2 ≤ n) : Box (S.set n c) := by
  obtain ⟨ns, z, e0, e1⟩ := hb
  exact ⟨ns, z, by rw [List.getElem?_set_ne (by omega)]; exact e0, by rw [List.getElem?_set_ne (by omega)]; exact e1⟩
theorem box_len {S : Sto} (hb : Box S) : 2 ≤ S.length := by
  obtain ⟨ns, z, e0, e1⟩ := hb
  exact lt_of_get e1
theorem law_1_ok {ls : List Int} {rs : List Rl} {ns : List Nt} {h : Nat} (g : GoodRs rs) (gn : GoodNs ns rs.length) (i : Nat) (d : D) (ρ : Slt) (S : Sto) (hp : InvA ls rs ns h i ρ S) :
    ok (gNm 5 d ρ) fun ρ1 => ok (m_law_1 ρ1 S) fun p => p.1 = .nx ∧ InvA ls rs ns h (i + 1) p.2.1 p.2.2 := by
  obtain ⟨hb, hh, x2, x5, x8, rfl⟩ := hp
  have l2 := box_len hb
  have l30 := gn.l
  have lh := lt_of_get hh
  simp only [gNm, ok_some, List.set_cons_succ, List.set_cons_zero]
  unfold m_law_1
  obtain ⟨⟨v, S3⟩, er, e1, rn, rk⟩ := read_ok (S := S) g gn
  dsimp only at e1 rn rk
  subst e1
  have hh3 : S3[h]? = some (.lst (ns.map nD)) := by rw [rk h lh]; exact hh
  have hb3 := box_keep hb rk
  have wr := written_ok (S := S3) g gn hh3
  have al1 : d_law_alike [.str (txt rs ns), .str (txt rs ns)] S3 = some (.d (.bl true), S3) := alike_ok 8 (by
    simp only [alk]
    exact .inr (.inr (.inl ⟨_, rfl, rfl, txt_can g gn⟩)))
  have he := handed_eq hh3
  have al2 : d_law_alike [.tup [.tup (rs.map rD), .ref (S.length + 2)], .tup [.tup (rs.map rD), .fl (ns.map nD)]] S3 = some (.d (.bl true), S3) := alike_ok 8 (alk_found g gn rn)
  generalize hT : txt rs ns = t at *
  generalize hR : rs.map rD = R at *
  refine seq_ok ?_
  simp [sNext, sIf, sBreak, sCont, sNever, sExpr, sRet, sRetO, sRetN, sSet, sAsg, gNm, gsNil, gsCons, gT, eD, eV, eBox, eNm, eC, eOp, eUn, aNil, aCons, eTup, eLst, eCB, bV, bAnd, bOr, bNot, eAnd, eOr, eNot, eIf, eChain, eCall, eFld, sFldS, sFldA, eMeth, eMake, bYes, fSub, fLt, fLe, fGt, fGe, fDiv, fMod, fPow, fNeg, fAdd, fMul, fIsN, fNotN, Yi.isNon, fEq, fNe, fIn, fInS, fIx, intR, oNo, oPart, fSl, eSl, eRev, sAppO, sExtO, sAug, oIx, oIn, oEq, sPar, sPar3, sSetIx, eDGet, eDIn, eDGet2, sDPutS, eDPop1, eDPop2, eDNewK, eDNewT, oDGet, oDIn, eBM, mApp, mExt, mPopAt, mIdx, cellL, iEv, iR1, iR2, iC, fLen, oLen, fMax, fMin, fAll, fAny, fSum, fSortI, fList, fTuple, fInt, fStr, fIsi, tyD, isLstD, isStrD, isDD, lstD, seqD, stD, eCallF, nAt, iSt, mJoin, mSplit, fAddI, sStar, iEnS, eSortSet, fSet, eLenSet, insAt, lkp, putD, ok_some, ok_none, ok_bind, ok_map, eq_int, eq_bl, sAsg, kb_NoneType_int, kb_NoneType_bool, kb_NoneType_str, kb_NoneType_tuple, kb_NoneType_list, kb_bool_int, kb_bool_bool, kb_bool_str, kb_bool_tuple, kb_bool_list, kb_int_int, kb_int_bool, kb_int_str, kb_int_tuple, kb_int_list, kb_str_int, kb_str_bool, kb_str_str, kb_str_tuple, kb_str_list, kb_tuple_int, kb_tuple_bool, kb_tuple_str, kb_tuple_tuple, kb_tuple_list, kb_list_int, kb_list_bool, kb_list_str, kb_list_tuple, kb_list_list, sz_0, sz_1, sz_2, sz_3, sz_4, sz_5, sz_6, sz_7, sz_8, sz_9, sz_10, sz_11, sz_12, sz_13, sz_14, sz_15, sz_16, ix_1_0, ix_2_0, ix_2_1, ix_3_0, ix_3_1, ix_3_2, ix_4_0, ix_4_1, ix_4_2, ix_4_3, ix_5_0, ix_5_1, ix_5_2, ix_5_3, ix_5_4, ix_6_0, ix_6_1, ix_6_2, ix_6_3, ix_6_4, ix_6_5, ix_7_0, ix_7_1, ix_7_2, ix_7_3, ix_7_4, ix_7_5, ix_7_6, sI_0, sI_1, sI_48271, sI_69621, er]
  refine seq_ok ?_
  simp [sNext, sIf, sBreak, sCont, sNever, sExpr, sRet, sRetO, sRetN, sSet, sAsg, gNm, gsNil, gsCons, gT, eD, eV, eBox, eNm, eC, eOp, eUn, aNil, aCons, eTup, eLst, eCB, bV, bAnd, bOr, bNot, eAnd, eOr, eNot, eIf, eChain, eCall, eFld, sFldS, sFldA, eMeth, eMake, bYes, fSub, fLt, fLe, fGt, fGe, fDiv, fMod, fPow, fNeg, fAdd, fMul, fIsN, fNotN, Yi.isNon, fEq, fNe, fIn, fInS, fIx, intR, oNo, oPart, fSl, eSl, eRev, sAppO, sExtO, sAug, oIx, oIn, oEq, sPar, sPar3, sSetIx, eDGet, eDIn, eDGet2, sDPutS, eDPop1, eDPop2, eDNewK, eDNewT, oDGet, oDIn, eBM, mApp, mExt, mPopAt, mIdx, cellL, iEv, iR1, iR2, iC, fLen, oLen, fMax, fMin, fAll, fAny, fSum, fSortI, fList, fTuple, fInt, fStr, fIsi, tyD, isLstD, isStrD, isDD, lstD, seqD, stD, eCallF, nAt, iSt, mJoin, mSplit, fAddI, sStar, iEnS, eSortSet, fSet, eLenSet, insAt, lkp, putD, ok_some, ok_none, ok_bind, ok_map, eq_int, eq_bl, sAsg, kb_NoneType_int, kb_NoneType_bool, kb_NoneType_str, kb_NoneType_tuple, kb_NoneType_list, kb_bool_int, kb_bool_bool, kb_bool_str, kb_bool_tuple, kb_bool_list, kb_int_int, kb_int_bool, kb_int_str, kb_int_tuple, kb_int_list, kb_str_int, kb_str_bool, kb_str_str, kb_str_tuple, kb_str_list, kb_tuple_int, kb_tuple_bool, kb_tuple_str, kb_tuple_tuple, kb_tuple_list, kb_list_int, kb_list_bool, kb_list_str, kb_list_tuple, kb_list_list, sz_0, sz_1, sz_2, sz_3, sz_4, sz_5, sz_6, sz_7, sz_8, sz_9, sz_10, sz_11, sz_12, sz_13, sz_14, sz_15, sz_16, ix_1_0, ix_2_0, ix_2_1, ix_3_0, ix_3_1, ix_3_2, ix_4_0, ix_4_1, ix_4_2, ix_4_3, ix_5_0, ix_5_1, ix_5_2, ix_5_3, ix_5_4, ix_6_0, ix_6_1, ix_6_2, ix_6_3, ix_6_4, ix_6_5, ix_7_0, ix_7_1, ix_7_2, ix_7_3, ix_7_4, ix_7_5, ix_7_6, sI_0, sI_1, sI_48271, sI_69621, wr, al1, he]
  refine seq_ok ?_
  simp [sNext, sIf, sBreak, sCont, sNever, sExpr, sRet, sRetO, sRetN, sSet, sAsg, gNm, gsNil, gsCons, gT, eD, eV, eBox, eNm, eC, eOp, eUn, aNil, aCons, eTup, eLst, eCB, bV, bAnd, bOr, bNot, eAnd, eOr, eNot, eIf, eChain, eCall, eFld, sFldS, sFldA, eMeth, eMake, bYes, fSub, fLt, fLe, fGt, fGe, fDiv, fMod, fPow, fNeg, fAdd, fMul, fIsN, fNotN, Yi.isNon, fEq, fNe, fIn, fInS, fIx, intR, oNo, oPart, fSl, eSl, eRev, sAppO, sExtO, sAug, oIx, oIn, oEq, sPar, sPar3, sSetIx, eDGet, eDIn, eDGet2, sDPutS, eDPop1, eDPop2, eDNewK, eDNewT, oDGet, oDIn, eBM, mApp, mExt, mPopAt, mIdx, cellL, iEv, iR1, iR2, iC, fLen, oLen, fMax, fMin, fAll, fAny, fSum, fSortI, fList, fTuple, fInt, fStr, fIsi, tyD, isLstD, isStrD, isDD, lstD, seqD, stD, eCallF, nAt, iSt, mJoin, mSplit, fAddI, sStar, iEnS, eSortSet, fSet, eLenSet, insAt, lkp, putD, ok_some, ok_none, ok_bind, ok_map, eq_int, eq_bl, sAsg, kb_NoneType_int, kb_NoneType_bool, kb_NoneType_str, kb_NoneType_tuple, kb_NoneType_list, kb_bool_int, kb_bool_bool, kb_bool_str, kb_bool_tuple, kb_bool_list, kb_int_int, kb_int_bool, kb_int_str, kb_int_tuple, kb_int_list, kb_str_int, kb_str_bool, kb_str_str, kb_str_tuple, kb_str_list, kb_tuple_int, kb_tuple_bool, kb_tuple_str, kb_tuple_tuple, kb_tuple_list, kb_list_int, kb_list_bool, kb_list_str, kb_list_tuple, kb_list_list, sz_0, sz_1, sz_2, sz_3, sz_4, sz_5, sz_6, sz_7, sz_8, sz_9, sz_10, sz_11, sz_12, sz_13, sz_14, sz_15, sz_16, ix_1_0, ix_2_0, ix_2_1, ix_3_0, ix_3_1, ix_3_2, ix_4_0, ix_4_1, ix_4_2, ix_4_3, ix_5_0, ix_5_1, ix_5_2, ix_5_3, ix_5_4, ix_6_0, ix_6_1, ix_6_2, ix_6_3, ix_6_4, ix_6_5, ix_7_0, ix_7_1, ix_7_2, ix_7_3, ix_7_4, ix_7_5, ix_7_6, sI_0, sI_1, sI_48271, sI_69621, al2, sz_2]
  have z : szOk ns.length = true := by simp [szOk]; omega
  simp [sNext, sIf, sBreak, sCont, sNever, sExpr, sRet, sRetO, sRetN, sSet, sAsg, gNm, gsNil, gsCons, gT, eD, eV, eBox, eNm, eC, eOp, eUn, aNil, aCons, eTup, eLst, eCB, bV, bAnd, bOr, bNot, eAnd, eOr, eNot, eIf, eChain, eCall, eFld, sFldS, sFldA, eMeth, eMake, bYes, fSub, fLt, fLe, fGt, fGe, fDiv, fMod, fPow, fNeg, fAdd, fMul, fIsN, fNotN, Yi.isNon, fEq, fNe, fIn, fInS, fIx, intR, oNo, oPart, fSl, eSl, eRev, sAppO, sExtO, sAug, oIx, oIn, oEq, sPar, sPar3, sSetIx, eDGet, eDIn, eDGet2, sDPutS, eDPop1, eDPop2, eDNewK, eDNewT, oDGet, oDIn, eBM, mApp, mExt, mPopAt, mIdx, cellL, iEv, iR1, iR2, iC, fLen, oLen, fMax, fMin, fAll, fAny, fSum, fSortI, fList, fTuple, fInt, fStr, fIsi, tyD, isLstD, isStrD, isDD, lstD, seqD, stD, eCallF, nAt, iSt, mJoin, mSplit, fAddI, sStar, iEnS, eSortSet, fSet, eLenSet, insAt, lkp, putD, ok_some, ok_none, ok_bind, ok_map, eq_int, eq_bl, sAsg, kb_NoneType_int, kb_NoneType_bool, kb_NoneType_str, kb_NoneType_tuple, kb_NoneType_list, kb_bool_int, kb_bool_bool, kb_bool_str, kb_bool_tuple, kb_bool_list, kb_int_int, kb_int_bool, kb_int_str, kb_int_tuple, kb_int_list, kb_str_int, kb_str_bool, kb_str_str, kb_str_tuple, kb_str_list, kb_tuple_int, kb_tuple_bool, kb_tuple_str, kb_tuple_tuple, kb_tuple_list, kb_list_int, kb_list_bool, kb_list_str, kb_list_tuple, kb_list_list, sz_0, sz_1, sz_2, sz_3, sz_4, sz_5, sz_6, sz_7, sz_8, sz_9, sz_10, sz_11, sz_12, sz_13, sz_14, sz_15, sz_16, ix_1_0, ix_2_0, ix_2_1, ix_3_0, ix_3_1, ix_3_2, ix_4_0, ix_4_1, ix_4_2, ix_4_3, ix_5_0, ix_5_1, ix_5_2, ix_5_3, ix_5_4, ix_6_0, ix_6_1, ix_6_2, ix_6_3, ix_6_4, ix_6_5, ix_7_0, ix_7_1, ix_7_2, ix_7_3, ix_7_4, ix_7_5, ix_7_6, sI_0, sI_1, sI_48271, sI_69621, atI, ix_2_1, rn, z, lstD]
  subst hT hR
  refine ⟨box_set hb3 (by omega), ?_, _, _, _, rfl⟩
  rw [List.getElem?_set_ne (by omega)]
  exact hh3
def InvB (ls : List Int) (_ : Nat) (ρ : Slt) (S : Sto) : Prop := Box S ∧ ∃ x2 x3 x4 x5 x6 x7 x8 : Option VV, ρ = [some (.d (.lk ls)), some (.d (.ref 1)), x2, x3, x4, x5, x6, x7, x8]
theorem law_2_ok {ls : List Int} (i : Nat) (d : D) (ρ : Slt) (S : Sto) (hp : InvB ls i ρ S) : ok (gNm 2 d ρ) fun ρ1 => ok (m_law_2 ρ1 S) fun p => p.1 = .nx ∧ InvB ls (i + 1) p.2.1 p.2.2 := by
  obtain ⟨hb, x2, x3, x4, x5, x6, x7, x8, rfl⟩ := hp
  simp only [gNm, ok_some, List.set_cons_succ, List.set_cons_zero]
  unfold m_law_2
  refine seq_ok ?_
  simp [sNext, sIf, sBreak, sCont, sNever, sExpr, sRet, sRetO, sRetN, sSet, sAsg, gNm, gsNil, gsCons, gT, eD, eV, eBox, eNm, eC, eOp, eUn, aNil, aCons, eTup, eLst, eCB, bV, bAnd, bOr, bNot, eAnd, eOr, eNot, eIf, eChain, eCall, eFld, sFldS, sFldA, eMeth, eMake, bYes, fSub, fLt, fLe, fGt, fGe, fDiv, fMod, fPow, fNeg, fAdd, fMul, fIsN, fNotN, Yi.isNon, fEq, fNe, fIn, fInS, fIx, intR, oNo, oPart, fSl, eSl, eRev, sAppO, sExtO, sAug, oIx, oIn, oEq, sPar, sPar3, sSetIx, eDGet, eDIn, eDGet2, sDPutS, eDPop1, eDPop2, eDNewK, eDNewT, oDGet, oDIn, eBM, mApp, mExt, mPopAt, mIdx, cellL, iEv, iR1, iR2, iC, fLen, oLen, fMax, fMin, fAll, fAny, fSum, fSortI, fList, fTuple, fInt, fStr, fIsi, tyD, isLstD, isStrD, isDD, lstD, seqD, stD, eCallF, nAt, iSt, mJoin, mSplit, fAddI, sStar, iEnS, eSortSet, fSet, eLenSet, insAt, lkp, putD, ok_some, ok_none, ok_bind, ok_map, eq_int, eq_bl, sAsg, kb_NoneType_int, kb_NoneType_bool, kb_NoneType_str, kb_NoneType_tuple, kb_NoneType_list, kb_bool_int, kb_bool_bool, kb_bool_str, kb_bool_tuple, kb_bool_list, kb_int_int, kb_int_bool, kb_int_str, kb_int_tuple, kb_int_list, kb_str_int, kb_str_bool, kb_str_str, kb_str_tuple, kb_str_list, kb_tuple_int, kb_tuple_bool, kb_tuple_str, kb_tuple_tuple, kb_tuple_list, kb_list_int, kb_list_bool, kb_list_str, kb_list_tuple, kb_list_list, sz_0, sz_1, sz_2, sz_3, sz_4, sz_5, sz_6, sz_7, sz_8, sz_9, sz_10, sz_11, sz_12, sz_13, sz_14, sz_15, sz_16, ix_1_0, ix_2_0, ix_2_1, ix_3_0, ix_3_1, ix_3_2, ix_4_0, ix_4_1, ix_4_2, ix_4_3, ix_5_0, ix_5_1, ix_5_2, ix_5_3, ix_5_4, ix_6_0, ix_6_1, ix_6_2, ix_6_3, ix_6_4, ix_6_5, ix_7_0, ix_7_1, ix_7_2, ix_7_3, ix_7_4, ix_7_5, ix_7_6, sI_0, sI_1, sI_48271, sI_69621]
  refine rules_ok hb fun rs S1 g b1 k1 => ?_
  refine seq_ok ?_
  simp [sNext, sIf, sBreak, sCont, sNever, sExpr, sRet, sRetO, sRetN, sSet, sAsg, gNm, gsNil, gsCons, gT, eD, eV, eBox, eNm, eC, eOp, eUn, aNil, aCons, eTup, eLst, eCB, bV, bAnd, bOr, bNot, eAnd, eOr, eNot, eIf, eChain, eCall, eFld, sFldS, sFldA, eMeth, eMake, bYes, fSub, fLt, fLe, fGt, fGe, fDiv, fMod, fPow, fNeg, fAdd, fMul, fIsN, fNotN, Yi.isNon, fEq, fNe, fIn, fInS, fIx, intR, oNo, oPart, fSl, eSl, eRev, sAppO, sExtO, sAug, oIx, oIn, oEq, sPar, sPar3, sSetIx, eDGet, eDIn, eDGet2, sDPutS, eDPop1, eDPop2, eDNewK, eDNewT, oDGet, oDIn, eBM, mApp, mExt, mPopAt, mIdx, cellL, iEv, iR1, iR2, iC, fLen, oLen, fMax, fMin, fAll, fAny, fSum, fSortI, fList, fTuple, fInt, fStr, fIsi, tyD, isLstD, isStrD, isDD, lstD, seqD, stD, eCallF, nAt, iSt, mJoin, mSplit, fAddI, sStar, iEnS, eSortSet, fSet, eLenSet, insAt, lkp, putD, ok_some, ok_none, ok_bind, ok_map, eq_int, eq_bl, sAsg, kb_NoneType_int, kb_NoneType_bool, kb_NoneType_str, kb_NoneType_tuple, kb_NoneType_list, kb_bool_int, kb_bool_bool, kb_bool_str, kb_bool_tuple, kb_bool_list, kb_int_int, kb_int_bool, kb_int_str, kb_int_tuple, kb_int_list, kb_str_int, kb_str_bool, kb_str_str, kb_str_tuple, kb_str_list, kb_tuple_int, kb_tuple_bool, kb_tuple_str, kb_tuple_tuple, kb_tuple_list, kb_list_int, kb_list_bool, kb_list_str, kb_list_tuple, kb_list_list, sz_0, sz_1, sz_2, sz_3, sz_4, sz_5, sz_6, sz_7, sz_8, sz_9, sz_10, sz_11, sz_12, sz_13, sz_14, sz_15, sz_16, ix_1_0, ix_2_0, ix_2_1, ix_3_0, ix_3_1, ix_3_2, ix_4_0, ix_4_1, ix_4_2, ix_4_3, ix_5_0, ix_5_1, ix_5_2, ix_5_3, ix_5_4, ix_6_0, ix_6_1, ix_6_2, ix_6_3, ix_6_4, ix_6_5, ix_7_0, ix_7_1, ix_7_2, ix_7_3, ix_7_4, ix_7_5, ix_7_6, sI_0, sI_1, sI_48271, sI_69621]
  refine notices_ok (most := 9) b1 g (by decide) fun ns S2 l9 gn t b2 k2 => ?_
  have gs : GoodNs ns rs.length := ⟨by omega, gn, t⟩
  have tx := law_text_ok (S := S2) g gs
  refine ok_some.mpr (seq_ok ?_)
  simp [sNext, sIf, sBreak, sCont, sNever, sExpr, sRet, sRetO, sRetN, sSet, sAsg, gNm, gsNil, gsCons, gT, eD, eV, eBox, eNm, eC, eOp, eUn, aNil, aCons, eTup, eLst, eCB, bV, bAnd, bOr, bNot, eAnd, eOr, eNot, eIf, eChain, eCall, eFld, sFldS, sFldA, eMeth, eMake, bYes, fSub, fLt, fLe, fGt, fGe, fDiv, fMod, fPow, fNeg, fAdd, fMul, fIsN, fNotN, Yi.isNon, fEq, fNe, fIn, fInS, fIx, intR, oNo, oPart, fSl, eSl, eRev, sAppO, sExtO, sAug, oIx, oIn, oEq, sPar, sPar3, sSetIx, eDGet, eDIn, eDGet2, sDPutS, eDPop1, eDPop2, eDNewK, eDNewT, oDGet, oDIn, eBM, mApp, mExt, mPopAt, mIdx, cellL, iEv, iR1, iR2, iC, fLen, oLen, fMax, fMin, fAll, fAny, fSum, fSortI, fList, fTuple, fInt, fStr, fIsi, tyD, isLstD, isStrD, isDD, lstD, seqD, stD, eCallF, nAt, iSt, mJoin, mSplit, fAddI, sStar, iEnS, eSortSet, fSet, eLenSet, insAt, lkp, putD, ok_some, ok_none, ok_bind, ok_map, eq_int, eq_bl, sAsg, kb_NoneType_int, kb_NoneType_bool, kb_NoneType_str, kb_NoneType_tuple, kb_NoneType_list, kb_bool_int, kb_bool_bool, kb_bool_str, kb_bool_tuple, kb_bool_list, kb_int_int, kb_int_bool, kb_int_str, kb_int_tuple, kb_int_list, kb_str_int, kb_str_bool, kb_str_str, kb_str_tuple, kb_str_list, kb_tuple_int, kb_tuple_bool, kb_tuple_str, kb_tuple_tuple, kb_tuple_list, kb_list_int, kb_list_bool, kb_list_str, kb_list_tuple, kb_list_list, sz_0, sz_1, sz_2, sz_3, sz_4, sz_5, sz_6, sz_7, sz_8, sz_9, sz_10, sz_11, sz_12, sz_13, sz_14, sz_15, sz_16, ix_1_0, ix_2_0, ix_2_1, ix_3_0, ix_3_1, ix_3_2, ix_4_0, ix_4_1, ix_4_2, ix_4_3, ix_5_0, ix_5_1, ix_5_2, ix_5_3, ix_5_4, ix_6_0, ix_6_1, ix_6_2, ix_6_3, ix_6_4, ix_6_5, ix_7_0, ix_7_1, ix_7_2, ix_7_3, ix_7_4, ix_7_5, ix_7_6, sI_0, sI_1, sI_48271, sI_69621, tx]
  refine for_ok ?_
  refine (ok_eq (iR1_eq (S' := S2 ++ [.lst (ns.map nD)]) (n := 2) rfl (by decide))).mpr ?_
  refine (forL_ok (InvA ls rs ns S2.length) (rngL 0 2) 0 ⟨?_, get_new, _, _, _, rfl⟩ fun i d hd ρ S hp => by rw [Nat.zero_add] at hp ⊢; exact law_1_ok g gs i d ρ S hp).mono ?_
  · exact box_keep b2 fun n hn => List.getElem?_append_left hn
  · rintro ⟨f, ρ, S3⟩ ⟨e, b3, _, y2, y5, y8, e2⟩
    dsimp only at e e2
    subst e e2
    exact ⟨rfl, b3, _, _, _, _, _, _, _, rfl⟩
theorem begun_ok (ls : List Int) : ∃ z, d_law_begun [.lk ls] [] = some (.own (.lst [.ref 0, .int z]), [.lst (ls.map .int)]) := by
  have key : ok (d_law_begun [.lk ls] []) fun p => ∃ z, p = (.own (.lst [.ref 0, .int z]), [.lst (ls.map .int)]) := by
    refine den_ok rfl (seq_ok ?_)
    simp [sNext, sIf, sBreak, sCont, sNever, sExpr, sRet, sRetO, sRetN, sSet, sAsg, gNm, gsNil, gsCons, gT, eD, eV, eBox, eNm, eC, eOp, eUn, aNil, aCons, eTup, eLst, eCB, bV, bAnd, bOr, bNot, eAnd, eOr, eNot, eIf, eChain, eCall, eFld, sFldS, sFldA, eMeth, eMake, bYes, fSub, fLt, fLe, fGt, fGe, fDiv, fMod, fPow, fNeg, fAdd, fMul, fIsN, fNotN, Yi.isNon, fEq, fNe, fIn, fInS, fIx, intR, oNo, oPart, fSl, eSl, eRev, sAppO, sExtO, sAug, oIx, oIn, oEq, sPar, sPar3, sSetIx, eDGet, eDIn, eDGet2, sDPutS, eDPop1, eDPop2, eDNewK, eDNewT, oDGet, oDIn, eBM, mApp, mExt, mPopAt, mIdx, cellL, iEv, iR1, iR2, iC, fLen, oLen, fMax, fMin, fAll, fAny, fSum, fSortI, fList, fTuple, fInt, fStr, fIsi, tyD, isLstD, isStrD, isDD, lstD, seqD, stD, eCallF, nAt, iSt, mJoin, mSplit, fAddI, sStar, iEnS, eSortSet, fSet, eLenSet, insAt, lkp, putD, ok_some, ok_none, ok_bind, ok_map, eq_int, eq_bl, sAsg, kb_NoneType_int, kb_NoneType_bool, kb_NoneType_str, kb_NoneType_tuple, kb_NoneType_list, kb_bool_int, kb_bool_bool, kb_bool_str, kb_bool_tuple, kb_bool_list, kb_int_int, kb_int_bool, kb_int_str, kb_int_tuple, kb_int_list, kb_str_int, kb_str_bool, kb_str_str, kb_str_tuple, kb_str_list, kb_tuple_int, kb_tuple_bool, kb_tuple_str, kb_tuple_tuple, kb_tuple_list, kb_list_int, kb_list_bool, kb_list_str, kb_list_tuple, kb_list_list, sz_0, sz_1, sz_2, sz_3, sz_4, sz_5, sz_6, sz_7, sz_8, sz_9, sz_10, sz_11, sz_12, sz_13, sz_14, sz_15, sz_16, ix_1_0, ix_2_0, ix_2_1, ix_3_0, ix_3_1, ix_3_2, ix_4_0, ix_4_1, ix_4_2, ix_4_3, ix_5_0, ix_5_1, ix_5_2, ix_5_3, ix_5_4, ix_6_0, ix_6_1, ix_6_2, ix_6_3, ix_6_4, ix_6_5, ix_7_0, ix_7_1, ix_7_2, ix_7_3, ix_7_4, ix_7_5, ix_7_6, sI_0, sI_1, sI_48271, sI_69621]
    refine seq_ok (for_ok ?_)
    refine (ok_eq (show iEv (eNm 0) [some (.d (.lk ls)), some (.d (.int 0)), none] [] = some (ls.map .int, []) from rfl)).mpr ?_
    refine (forL_ok (fun _ ρ S => S = [] ∧ ∃ (z : Int) (x : Option VV), ρ = [some (.d (.lk ls)), some (.d (.int z)), x]) (ls.map .int) 0 ⟨rfl, 0, none, rfl⟩ ?_).mono ?_
    · rintro i d hd ρ S ⟨rfl, z, x, rfl⟩
      rw [List.getElem?_map] at hd
      obtain ⟨c, hc, rfl⟩ := Option.map_eq_some_iff.mp hd
      simp [sNext, sIf, sBreak, sCont, sNever, sExpr, sRet, sRetO, sRetN, sSet, sAsg, gNm, gsNil, gsCons, gT, eD, eV, eBox, eNm, eC, eOp, eUn, aNil, aCons, eTup, eLst, eCB, bV, bAnd, bOr, bNot, eAnd, eOr, eNot, eIf, eChain, eCall, eFld, sFldS, sFldA, eMeth, eMake, bYes, fSub, fLt, fLe, fGt, fGe, fDiv, fMod, fPow, fNeg, fAdd, fMul, fIsN, fNotN, Yi.isNon, fEq, fNe, fIn, fInS, fIx, intR, oNo, oPart, fSl, eSl, eRev, sAppO, sExtO, sAug, oIx, oIn, oEq, sPar, sPar3, sSetIx, eDGet, eDIn, eDGet2, sDPutS, eDPop1, eDPop2, eDNewK, eDNewT, oDGet, oDIn, eBM, mApp, mExt, mPopAt, mIdx, cellL, iEv, iR1, iR2, iC, fLen, oLen, fMax, fMin, fAll, fAny, fSum, fSortI, fList, fTuple, fInt, fStr, fIsi, tyD, isLstD, isStrD, isDD, lstD, seqD, stD, eCallF, nAt, iSt, mJoin, mSplit, fAddI, sStar, iEnS, eSortSet, fSet, eLenSet, insAt, lkp, putD, ok_some, ok_none, ok_bind, ok_map, eq_int, eq_bl, sAsg, kb_NoneType_int, kb_NoneType_bool, kb_NoneType_str, kb_NoneType_tuple, kb_NoneType_list, kb_bool_int, kb_bool_bool, kb_bool_str, kb_bool_tuple, kb_bool_list, kb_int_int, kb_int_bool, kb_int_str, kb_int_tuple, kb_int_list, kb_str_int, kb_str_bool, kb_str_str, kb_str_tuple, kb_str_list, kb_tuple_int, kb_tuple_bool, kb_tuple_str, kb_tuple_tuple, kb_tuple_list, kb_list_int, kb_list_bool, kb_list_str, kb_list_tuple, kb_list_list, sz_0, sz_1, sz_2, sz_3, sz_4, sz_5, sz_6, sz_7, sz_8, sz_9, sz_10, sz_11, sz_12, sz_13, sz_14, sz_15, sz_16, ix_1_0, ix_2_0, ix_2_1, ix_3_0, ix_3_1, ix_3_2, ix_4_0, ix_4_1, ix_4_2, ix_4_3, ix_5_0, ix_5_1, ix_5_2, ix_5_3, ix_5_4, ix_6_0, ix_6_1, ix_6_2, ix_6_3, ix_6_4, ix_6_5, ix_7_0, ix_7_1, ix_7_2, ix_7_3, ix_7_4, ix_7_5, ix_7_6, sI_0, sI_1, sI_48271, sI_69621, m_law_begun_1, sI_48271, sI_69621]
    · rintro ⟨f, ρ, S⟩ ⟨e, e1, z, x, e2⟩
      dsimp only at e e1 e2
      subst e e1 e2
      have sb : ∀ b : Bool, smallI (if b = true then 1 else 0) = true := by intro b; cases b <;> decide
      by_cases hl : 2 < (ls.length : Int)
      · simp [sNext, sIf, sBreak, sCont, sNever, sExpr, sRet, sRetO, sRetN, sSet, sAsg, gNm, gsNil, gsCons, gT, eD, eV, eBox, eNm, eC, eOp, eUn, aNil, aCons, eTup, eLst, eCB, bV, bAnd, bOr, bNot, eAnd, eOr, eNot, eIf, eChain, eCall, eFld, sFldS, sFldA, eMeth, eMake, bYes, fSub, fLt, fLe, fGt, fGe, fDiv, fMod, fPow, fNeg, fAdd, fMul, fIsN, fNotN, Yi.isNon, fEq, fNe, fIn, fInS, fIx, intR, oNo, oPart, fSl, eSl, eRev, sAppO, sExtO, sAug, oIx, oIn, oEq, sPar, sPar3, sSetIx, eDGet, eDIn, eDGet2, sDPutS, eDPop1, eDPop2, eDNewK, eDNewT, oDGet, oDIn, eBM, mApp, mExt, mPopAt, mIdx, cellL, iEv, iR1, iR2, iC, fLen, oLen, fMax, fMin, fAll, fAny, fSum, fSortI, fList, fTuple, fInt, fStr, fIsi, tyD, isLstD, isStrD, isDD, lstD, seqD, stD, eCallF, nAt, iSt, mJoin, mSplit, fAddI, sStar, iEnS, eSortSet, fSet, eLenSet, insAt, lkp, putD, ok_some, ok_none, ok_bind, ok_map, eq_int, eq_bl, sAsg, kb_NoneType_int, kb_NoneType_bool, kb_NoneType_str, kb_NoneType_tuple, kb_NoneType_list, kb_bool_int, kb_bool_bool, kb_bool_str, kb_bool_tuple, kb_bool_list, kb_int_int, kb_int_bool, kb_int_str, kb_int_tuple, kb_int_list, kb_str_int, kb_str_bool, kb_str_str, kb_str_tuple, kb_str_list, kb_tuple_int, kb_tuple_bool, kb_tuple_str, kb_tuple_tuple, kb_tuple_list, kb_list_int, kb_list_bool, kb_list_str, kb_list_tuple, kb_list_list, sz_0, sz_1, sz_2, sz_3, sz_4, sz_5, sz_6, sz_7, sz_8, sz_9, sz_10, sz_11, sz_12, sz_13, sz_14, sz_15, sz_16, ix_1_0, ix_2_0, ix_2_1, ix_3_0, ix_3_1, ix_3_2, ix_4_0, ix_4_1, ix_4_2, ix_4_3, ix_5_0, ix_5_1, ix_5_2, ix_5_3, ix_5_4, ix_6_0, ix_6_1, ix_6_2, ix_6_3, ix_6_4, ix_6_5, ix_7_0, ix_7_1, ix_7_2, ix_7_3, ix_7_4, ix_7_5, ix_7_6, sI_0, sI_1, sI_48271, sI_69621, hl, sz_2, sI_1]
      · simp [sNext, sIf, sBreak, sCont, sNever, sExpr, sRet, sRetO, sRetN, sSet, sAsg, gNm, gsNil, gsCons, gT, eD, eV, eBox, eNm, eC, eOp, eUn, aNil, aCons, eTup, eLst, eCB, bV, bAnd, bOr, bNot, eAnd, eOr, eNot, eIf, eChain, eCall, eFld, sFldS, sFldA, eMeth, eMake, bYes, fSub, fLt, fLe, fGt, fGe, fDiv, fMod, fPow, fNeg, fAdd, fMul, fIsN, fNotN, Yi.isNon, fEq, fNe, fIn, fInS, fIx, intR, oNo, oPart, fSl, eSl, eRev, sAppO, sExtO, sAug, oIx, oIn, oEq, sPar, sPar3, sSetIx, eDGet, eDIn, eDGet2, sDPutS, eDPop1, eDPop2, eDNewK, eDNewT, oDGet, oDIn, eBM, mApp, mExt, mPopAt, mIdx, cellL, iEv, iR1, iR2, iC, fLen, oLen, fMax, fMin, fAll, fAny, fSum, fSortI, fList, fTuple, fInt, fStr, fIsi, tyD, isLstD, isStrD, isDD, lstD, seqD, stD, eCallF, nAt, iSt, mJoin, mSplit, fAddI, sStar, iEnS, eSortSet, fSet, eLenSet, insAt, lkp, putD, ok_some, ok_none, ok_bind, ok_map, eq_int, eq_bl, sAsg, kb_NoneType_int, kb_NoneType_bool, kb_NoneType_str, kb_NoneType_tuple, kb_NoneType_list, kb_bool_int, kb_bool_bool, kb_bool_str, kb_bool_tuple, kb_bool_list, kb_int_int, kb_int_bool, kb_int_str, kb_int_tuple, kb_int_list, kb_str_int, kb_str_bool, kb_str_str, kb_str_tuple, kb_str_list, kb_tuple_int, kb_tuple_bool, kb_tuple_str, kb_tuple_tuple, kb_tuple_list, kb_list_int, kb_list_bool, kb_list_str, kb_list_tuple, kb_list_list, sz_0, sz_1, sz_2, sz_3, sz_4, sz_5, sz_6, sz_7, sz_8, sz_9, sz_10, sz_11, sz_12, sz_13, sz_14, sz_15, sz_16, ix_1_0, ix_2_0, ix_2_1, ix_3_0, ix_3_1, ix_3_2, ix_4_0, ix_4_1, ix_4_2, ix_4_3, ix_5_0, ix_5_1, ix_5_2, ix_5_3, ix_5_4, ix_6_0, ix_6_1, ix_6_2, ix_6_3, ix_6_4, ix_6_5, ix_7_0, ix_7_1, ix_7_2, ix_7_3, ix_7_4, ix_7_5, ix_7_6, sI_0, sI_1, sI_48271, sI_69621, hl, sz_2, sI_0]
  obtain ⟨p, e, z, rfl⟩ := key
  exact ⟨z, e⟩
theorem plain : ∀ ns : List Int, ns.length ≤ 63 → ∃ S', d_law [.lk ns] [] = some (.d (.bl true), S') := by
  intro ls _
  obtain ⟨z, be⟩ := begun_ok ls
  have key : ok (d_law [.lk ls] []) fun p => p.1 = .d (.bl true) := by
    refine den_ok rfl (seq_ok ?_)
    have e1 : sSet 1 (eBox (eCall d_law_begun (aCons (eNm 0) aNil) [])) ([D.lk ls].map (fun d => some (VV.d d)) ++ List.replicate (9 - 1) none) [] = some (.nx, [some (.d (.lk ls)), some (.d (.ref 1)), none, none, none, none, none, none, none], [.lst (ls.map .int), .lst [.ref 0, .int z]]) := by
      refine ok.get ?_
      simp [sNext, sIf, sBreak, sCont, sNever, sExpr, sRet, sRetO, sRetN, sSet, sAsg, gNm, gsNil, gsCons, gT, eD, eV, eBox, eNm, eC, eOp, eUn, aNil, aCons, eTup, eLst, eCB, bV, bAnd, bOr, bNot, eAnd, eOr, eNot, eIf, eChain, eCall, eFld, sFldS, sFldA, eMeth, eMake, bYes, fSub, fLt, fLe, fGt, fGe, fDiv, fMod, fPow, fNeg, fAdd, fMul, fIsN, fNotN, Yi.isNon, fEq, fNe, fIn, fInS, fIx, intR, oNo, oPart, fSl, eSl, eRev, sAppO, sExtO, sAug, oIx, oIn, oEq, sPar, sPar3, sSetIx, eDGet, eDIn, eDGet2, sDPutS, eDPop1, eDPop2, eDNewK, eDNewT, oDGet, oDIn, eBM, mApp, mExt, mPopAt, mIdx, cellL, iEv, iR1, iR2, iC, fLen, oLen, fMax, fMin, fAll, fAny, fSum, fSortI, fList, fTuple, fInt, fStr, fIsi, tyD, isLstD, isStrD, isDD, lstD, seqD, stD, eCallF, nAt, iSt, mJoin, mSplit, fAddI, sStar, iEnS, eSortSet, fSet, eLenSet, insAt, lkp, putD, ok_some, ok_none, ok_bind, ok_map, eq_int, eq_bl, sAsg, kb_NoneType_int, kb_NoneType_bool, kb_NoneType_str, kb_NoneType_tuple, kb_NoneType_list, kb_bool_int, kb_bool_bool, kb_bool_str, kb_bool_tuple, kb_bool_list, kb_int_int, kb_int_bool, kb_int_str, kb_int_tuple, kb_int_list, kb_str_int, kb_str_bool, kb_str_str, kb_str_tuple, kb_str_list, kb_tuple_int, kb_tuple_bool, kb_tuple_str, kb_tuple_tuple, kb_tuple_list, kb_list_int, kb_list_bool, kb_list_str, kb_list_tuple, kb_list_list, sz_0, sz_1, sz_2, sz_3, sz_4, sz_5, sz_6, sz_7, sz_8, sz_9, sz_10, sz_11, sz_12, sz_13, sz_14, sz_15, sz_16, ix_1_0, ix_2_0, ix_2_1, ix_3_0, ix_3_1, ix_3_2, ix_4_0, ix_4_1, ix_4_2, ix_4_3, ix_5_0, ix_5_1, ix_5_2, ix_5_3, ix_5_4, ix_6_0, ix_6_1, ix_6_2, ix_6_3, ix_6_4, ix_6_5, ix_7_0, ix_7_1, ix_7_2, ix_7_3, ix_7_4, ix_7_5, ix_7_6, sI_0, sI_1, sI_48271, sI_69621, be]
    refine (ok_eq e1).mpr ⟨rfl, seq_ok (for_ok ?_)⟩
    refine (ok_eq (iR1_eq (S' := [.lst (ls.map .int), .lst [.ref 0, .int z]]) (n := 5) rfl (by decide))).mpr ?_
    refine (forL_ok (InvB ls) (rngL 0 5) 0 ⟨⟨ls, z, rfl, rfl⟩, _, _, _, _, _, _, _, rfl⟩ fun i d hd ρ S hp => by rw [Nat.zero_add] at hp ⊢; exact law_2_ok i d ρ S hp).mono ?_
    rintro ⟨f, ρ, S3⟩ ⟨e, b3, x2, x3, x4, x5, x6, x7, x8, e2⟩
    dsimp only at e e2
    subst e e2
    exact ⟨rfl, ⟨_, rfl, rfl⟩⟩
  obtain ⟨⟨v, S'⟩, e, e1⟩ := key
  dsimp only at e1
  subst e1
  exact ⟨S', e⟩
end Wk
namespace Wk
open PySem L2 Yi
/-! ### what the top has left -/
structure Ad where
  f_is_number : Addr
  fd_is_number : FuncData
  f_is_stretch : Addr
  fd_is_stretch : FuncData
  f_is_gathered : Addr
  fd_is_gathered : FuncData
  f_are_pairs : Addr
  fd_are_pairs : FuncData
  f_bad_part : Addr
  fd_bad_part : FuncData
  f_need_rules : Addr
  fd_need_rules : FuncData
  f_need_notices : Addr
  fd_need_notices : FuncData
  f_word_of : Addr
  fd_word_of : FuncData
  f_written : Addr
  fd_written : FuncData
  f_Reader_init : Addr
  fd_Reader_init : FuncData
  f_number_of : Addr
  fd_number_of : FuncData
  f_Reader_take : Addr
  fd_Reader_take : FuncData
  f_read : Addr
  fd_read : FuncData
  f_law_begun : Addr
  fd_law_begun : FuncData
  f_law_alike : Addr
  fd_law_alike : FuncData
  f_law_take : Addr
  fd_law_take : FuncData
  f_law_stretches : Addr
  fd_law_stretches : FuncData
  f_law_rule : Addr
  fd_law_rule : FuncData
  f_law_rules : Addr
  fd_law_rules : FuncData
  f_law_notices : Addr
  fd_law_notices : FuncData
  f_law_text : Addr
  fd_law_text : FuncData
  f_law : Addr
  fd_law : FuncData
  c_Reader : Addr
def gm (K : PySem.W.Frag) (A : Ad) : Gm := ⟨K, fun n => match n with | 0 => A.c_Reader | _ => 0, fun n => match n with | 0 => A.f_is_gathered | 1 => A.f_is_stretch | _ => 0⟩
structure Txt (K : PySem.W.Frag) (mg : Str → Option Value) (A : Ad) : Prop where
  F_is_number : Fun K "is_number" "is_number" s_is_number A.f_is_number A.fd_is_number
  b_is_number : Binds K A.fd_is_number ["part", "low", "high"] []
  g_is_number : mg "is_number" = some (.ref A.f_is_number)
  F_is_stretch : Fun K "is_stretch" "is_stretch" s_is_stretch A.f_is_stretch A.fd_is_stretch
  b_is_stretch : Binds K A.fd_is_stretch ["pair"] []
  g_is_stretch : mg "is_stretch" = some (.ref A.f_is_stretch)
  F_is_gathered : Fun K "is_gathered" "is_gathered" s_is_gathered A.f_is_gathered A.fd_is_gathered
  b_is_gathered : Binds K A.fd_is_gathered ["pair"] []
  g_is_gathered : mg "is_gathered" = some (.ref A.f_is_gathered)
  F_are_pairs : Fun K "are_pairs" "are_pairs" s_are_pairs A.f_are_pairs A.fd_are_pairs
  b_are_pairs : Binds K A.fd_are_pairs ["some", "most", "is_good"] []
  g_are_pairs : mg "are_pairs" = some (.ref A.f_are_pairs)
  F_bad_part : Fun K "bad_part" "bad_part" s_bad_part A.f_bad_part A.fd_bad_part
  b_bad_part : Binds K A.fd_bad_part ["rule", "many"] []
  g_bad_part : mg "bad_part" = some (.ref A.f_bad_part)
  F_need_rules : Fun K "need_rules" "need_rules" s_need_rules A.f_need_rules A.fd_need_rules
  b_need_rules : Binds K A.fd_need_rules ["rules"] []
  g_need_rules : mg "need_rules" = some (.ref A.f_need_rules)
  F_need_notices : Fun K "need_notices" "need_notices" s_need_notices A.f_need_notices A.fd_need_notices
  b_need_notices : Binds K A.fd_need_notices ["rules", "notices"] []
  g_need_notices : mg "need_notices" = some (.ref A.f_need_notices)
  F_word_of : Fun K "word_of" "word_of" s_word_of A.f_word_of A.fd_word_of
  b_word_of : Binds K A.fd_word_of ["part"] []
  g_word_of : mg "word_of" = some (.ref A.f_word_of)
  F_written : Fun K "written" "written" s_written A.f_written A.fd_written
  b_written : Binds K A.fd_written ["rules", "notices"] []
  g_written : mg "written" = some (.ref A.f_written)
  F_Reader_init : Fun K "__init__" "Reader.__init__" s_Reader_init A.f_Reader_init A.fd_Reader_init
  b_Reader_init : Binds K A.fd_Reader_init ["self"] []
  F_number_of : Fun K "number_of" "number_of" s_number_of A.f_number_of A.fd_number_of
  b_number_of : Binds K A.fd_number_of ["word"] []
  g_number_of : mg "number_of" = some (.ref A.f_number_of)
  F_Reader_take : Fun K "take" "Reader.take" s_Reader_take A.f_Reader_take A.fd_Reader_take
  b_Reader_take : Binds K A.fd_Reader_take ["self", "words", "row"] []
  me_Reader_take : Meth K A.c_Reader "take" A.f_Reader_take
  F_read : Fun K "read" "read" s_read A.f_read A.fd_read
  b_read : Binds K A.fd_read ["text"] []
  g_read : mg "read" = some (.ref A.f_read)
  F_law_begun : Fun K "_law_begun" "_law_begun" s_law_begun A.f_law_begun A.fd_law_begun
  b_law_begun : Binds K A.fd_law_begun ["_law_script"] []
  g_law_begun : mg "_law_begun" = some (.ref A.f_law_begun)
  F_law_alike : Fun K "_law_alike" "_law_alike" s_law_alike A.f_law_alike A.fd_law_alike
  b_law_alike : Binds K A.fd_law_alike ["_law_found", "_law_due"] []
  g_law_alike : mg "_law_alike" = some (.ref A.f_law_alike)
  F_law_take : Fun K "_law_take" "_law_take" s_law_take A.f_law_take A.fd_law_take
  b_law_take : Binds K A.fd_law_take ["_law_box", "_law_many"] []
  g_law_take : mg "_law_take" = some (.ref A.f_law_take)
  F_law_stretches : Fun K "_law_stretches" "_law_stretches" s_law_stretches A.f_law_stretches A.fd_law_stretches
  b_law_stretches : Binds K A.fd_law_stretches ["_law_box"] []
  g_law_stretches : mg "_law_stretches" = some (.ref A.f_law_stretches)
  F_law_rule : Fun K "_law_rule" "_law_rule" s_law_rule A.f_law_rule A.fd_law_rule
  b_law_rule : Binds K A.fd_law_rule ["_law_box", "_law_many"] []
  g_law_rule : mg "_law_rule" = some (.ref A.f_law_rule)
  F_law_rules : Fun K "_law_rules" "_law_rules" s_law_rules A.f_law_rules A.fd_law_rules
  b_law_rules : Binds K A.fd_law_rules ["_law_box"] []
  g_law_rules : mg "_law_rules" = some (.ref A.f_law_rules)
  F_law_notices : Fun K "_law_notices" "_law_notices" s_law_notices A.f_law_notices A.fd_law_notices
  b_law_notices : Binds K A.fd_law_notices ["_law_box", "_law_rules_here", "_law_most"] []
  g_law_notices : mg "_law_notices" = some (.ref A.f_law_notices)
  F_law_text : Fun K "_law_text" "_law_text" s_law_text A.f_law_text A.fd_law_text
  b_law_text : Binds K A.fd_law_text ["_law_rules_here", "_law_notices_here"] []
  g_law_text : mg "_law_text" = some (.ref A.f_law_text)
  F_law : Fun K "law" "law" s_law A.f_law A.fd_law
  g_law : mg "law" = some (.ref A.f_law)
  c_Reader : Cls K A.c_Reader
  m_Reader : Mk K A.c_Reader A.f_Reader_init
  gc_Reader : mg "Reader" = some (.ref A.c_Reader)
  x_Reader_found : FldOk (gm K A) 0 "found"
  x_Reader_notices : FldOk (gm K A) 0 "notices"
  x_Reader_stage : FldOk (gm K A) 0 "stage"
  n_all : mg "all" = none
  n_bool : mg "bool" = none
  n_enumerate : mg "enumerate" = none
  n_int : mg "int" = none
  n_isinstance : mg "isinstance" = none
  n_len : mg "len" = none
  n_list : mg "list" = none
  n_min : mg "min" = none
  n_range : mg "range" = none
  n_set : mg "set" = none
  n_sorted : mg "sorted" = none
  n_str : mg "str" = none
  n_tuple : mg "tuple" = none
  g_DAY : ∃ t, mg "DAY" = some (.int 24 t)
  g_FIGURES : ∃ t, mg "FIGURES" = some (.str "0123456789" t)
  g_GATHER : ∃ t, mg "GATHER" = some (.str "gather" t)
  g_HUSH : ∃ t, mg "HUSH" = some (.str "hush" t)
  g_LINE : ∃ t, mg "LINE" = some (.str "\n" t)
  g_MOST_BORN : ∃ t, mg "MOST_BORN" = some (.int 300 t)
  g_MOST_GATHERED : ∃ t, mg "MOST_GATHERED" = some (.int 4 t)
  g_MOST_HUSHED : ∃ t, mg "MOST_HUSHED" = some (.int 3 t)
  g_MOST_KIND : ∃ t, mg "MOST_KIND" = some (.int 7 t)
  g_MOST_NOTICES : ∃ t, mg "MOST_NOTICES" = some (.int 30 t)
  g_MOST_PERSONS : ∃ t, mg "MOST_PERSONS" = some (.int 6 t)
  g_MOST_RANK : ∃ t, mg "MOST_RANK" = some (.int 3 t)
  g_MOST_SPAN : ∃ t, mg "MOST_SPAN" = some (.int 12 t)
  g_MOST_WAIT : ∃ t, mg "MOST_WAIT" = some (.int 24 t)
  g_NONE : ∃ t, mg "NONE" = some (.str "-" t)
  g_NOTICE : ∃ t, mg "NOTICE" = some (.str "notice" t)
  g_PERSON : ∃ t, mg "PERSON" = some (.str "person" t)
section
variable {P : Program} {w : World} {K : PySem.W.Frag} {mg : Str → Option Value} {base : Heap} {A : Ad}
theorem ok_is_number (T : Txt K mg A) : FnOk P w K mg base CX0 1 A.f_is_number A.fd_is_number ["part", "low", "high"] (spI (gm K A) 3 d_is_number) := by
  refine fn_I T.F_is_number sc_is_number fun cdv A0 outer s H E hr => ?_
  refine ⟨_, (pss_one (ps_ret (pe_and (pe_callB (call_isiK K) (by rfl) T.n_isinstance PyProof.Rows.boot_isinstance (pa_cons (pv 0) (pa_cons (pe_bltn (v := .ty "int") (by rfl) T.n_int PyProof.Rows.boot_int rfl) pa_nil))) (pe_and (pe_not (pe_callB (call_isiK K) (by rfl) T.n_isinstance PyProof.Rows.boot_isinstance (pa_cons (pv 0) (pa_cons (pe_bltn (v := .ty "bool") (by rfl) T.n_bool PyProof.Rows.boot_bool rfl) pa_nil)))) (pe_one (pe_chain op_le op_le (pv 1) (pv 0) (pv 2))))))), ?_⟩
  exact (snd_ret (snd_andV (snd_cb snd_isi (snd_cons (snd_nm 0) (snd_cons snd_ty snd_nil))) (snd_andV (snd_notV (snd_cb snd_isi (snd_cons (snd_nm 0) (snd_cons snd_ty snd_nil)))) (snd_chain snd_le snd_le (snd_nm 1) (snd_nm 0) (snd_nm 2)))))
theorem ok_is_stretch (T : Txt K mg A) : FnOk P w K mg base CX0 2 A.f_is_stretch A.fd_is_stretch ["pair"] (spI (gm K A) 1 d_is_stretch) := by
  refine fn_I T.F_is_stretch sc_is_stretch fun cdv A0 outer s H E hr => ?_
  refine ⟨_, (pss_one (ps_ret (pe_and (pe_call (ok_is_number T) (hr.mono (by decide)) rfl T.g_is_number T.F_is_number.kp T.b_is_number .nil pass0 (pa_cons (pe_ix (ix_seqK K) (pv 0) pe_int (fun _ _ => rfl)) (pa_cons pe_int (pa_cons (pe_op op_sub (pe_glob (v := .int 24) rfl T.g_DAY.choose_spec ⟨_, rfl⟩) pe_int) pa_nil)))) (pe_and (pe_call (ok_is_number T) (hr.mono (by decide)) rfl T.g_is_number T.F_is_number.kp T.b_is_number .nil pass0 (pa_cons (pe_ix (ix_seqK K) (pv 0) pe_int (fun _ _ => rfl)) (pa_cons pe_int (pa_cons (pe_op op_sub (pe_glob (v := .int 24) rfl T.g_DAY.choose_spec ⟨_, rfl⟩) pe_int) pa_nil)))) (pe_one (pe_cmpR (op_neK K hr.units) (pe_ix (ix_seqK K) (pv 0) pe_int (fun _ _ => rfl)) (pe_ix (ix_seqK K) (pv 0) pe_int (fun _ _ => rfl)) (nomark _))))))), ?_⟩
  exact (snd_ret (snd_andV (snd_call (dvs := []) (snd_cons (snd_op snd_ix (snd_nm 0) snd_int) (snd_cons snd_int (snd_cons (snd_op snd_sub snd_int snd_int) snd_nil))) nod den_len) (snd_andV (snd_call (dvs := []) (snd_cons (snd_op snd_ix (snd_nm 0) snd_int) (snd_cons snd_int (snd_cons (snd_op snd_sub snd_int snd_int) snd_nil))) nod den_len) (snd_op snd_ne (snd_op snd_ix (snd_nm 0) snd_int) (snd_op snd_ix (snd_nm 0) snd_int)))))
theorem ok_is_gathered (T : Txt K mg A) : FnOk P w K mg base CX0 2 A.f_is_gathered A.fd_is_gathered ["pair"] (spI (gm K A) 1 d_is_gathered) := by
  refine fn_I T.F_is_gathered sc_is_gathered fun cdv A0 outer s H E hr => ?_
  refine ⟨_, (pss_one (ps_ret (pe_and (pe_call (ok_is_number T) (hr.mono (by decide)) rfl T.g_is_number T.F_is_number.kp T.b_is_number .nil pass0 (pa_cons (pe_ix (ix_seqK K) (pv 0) pe_int (fun _ _ => rfl)) (pa_cons pe_int (pa_cons (pe_glob (v := .int 7) rfl T.g_MOST_KIND.choose_spec ⟨_, rfl⟩) pa_nil)))) (pe_one (pe_call (ok_is_number T) (hr.mono (by decide)) rfl T.g_is_number T.F_is_number.kp T.b_is_number .nil pass0 (pa_cons (pe_ix (ix_seqK K) (pv 0) pe_int (fun _ _ => rfl)) (pa_cons pe_int (pa_cons (pe_glob (v := .int 12) rfl T.g_MOST_SPAN.choose_spec ⟨_, rfl⟩) pa_nil)))))))), ?_⟩
  exact (snd_ret (snd_andV (snd_call (dvs := []) (snd_cons (snd_op snd_ix (snd_nm 0) snd_int) (snd_cons snd_int (snd_cons snd_int snd_nil))) nod den_len) (snd_call (dvs := []) (snd_cons (snd_op snd_ix (snd_nm 0) snd_int) (snd_cons snd_int (snd_cons snd_int snd_nil))) nod den_len)))
abbrev sp_are_pairs_is_good (G : Gm) : Nat → Option Sp := fun n => (fns_are_pairs_is_good n).map fun f => spI G 1 f
theorem fns_are_pairs_is_good_ok {n : Nat} {f : Den} (h : fns_are_pairs_is_good n = some f) : ∀ ds S w S', f ds S = some (w, S') → ds.length = 1 := by
  unfold fns_are_pairs_is_good at h
  split at h <;> first | (cases h; exact den_len) | cases h
theorem held_are_pairs_is_good (T : Txt K mg A) (n : Nat) (sp : Sp) (h : sp_are_pairs_is_good (gm K A) n = some sp) : Held P w K mg base 2 ((gm K A).fn n) sp := by
  obtain ⟨f, h1, h2⟩ := Option.map_eq_some_iff.mp h
  subst h2
  unfold fns_are_pairs_is_good at h1
  split at h1
  · cases h1
    exact ⟨_, _, ok_is_stretch T, T.F_is_stretch.kp, T.b_is_stretch⟩
  · cases h1
    exact ⟨_, _, ok_is_gathered T, T.F_is_gathered.kp, T.b_is_gathered⟩
  · cases h1
theorem ok_are_pairs (T : Txt K mg A) : FnOk P w K mg base CX0 3 A.f_are_pairs A.fd_are_pairs ["some", "most", "is_good"] (spI (gm K A) 3 d_are_pairs) := by
  refine fn_I T.F_are_pairs sc_are_pairs fun cdv A0 outer s H E hr => ?_
  refine ⟨_, (pss_cons (ps_if (PW.pt (pw_or (pt_not (pt_val (pe_callB (call_isiK K) (by rfl) T.n_isinstance PyProof.Rows.boot_isinstance (pa_cons (pv 0) (pa_cons (pe_bltn (v := .ty "tuple") (by rfl) T.n_tuple PyProof.Rows.boot_tuple rfl) pa_nil))))) (pw_or1 (pt_cmpR op_gt (pe_callB (call_lenK K) (by rfl) T.n_len PySem.boot_len (pa_cons (pv 0) pa_nil)) (pv 1) (nomark _))))) (pss_one (ps_ret pe_bl)) pss_nil)
    (pss_one (ps_ret (pe_callB (call_allK K rfl) (by rfl) T.n_all PyProof.Rows.boot_all (pa_cons (pe_lc (own := [("pair", 3)]) rfl sc_are_pairs.nd (pi_seqK K (pv 0)) (blkOk_by (N := n_are_pairs) (sc := defScope s_are_pairs) (own := [("pair", 3)]) (by decide +kernel)) (fun _ _ _ _ _ => (pg_name (i := 3) sc_are_pairs.nd rfl (by first | exact Or.inl rfl | exact Or.inr rfl))) (fun _ _ _ _ _ => pts_nil) (fun _ _ _ _ _ => (pe_and (pe_callB (call_isiK K) (by rfl) T.n_isinstance PyProof.Rows.boot_isinstance (pa_cons (pv 3) (pa_cons (pe_bltn (v := .ty "tuple") (by rfl) T.n_tuple PyProof.Rows.boot_tuple rfl) pa_nil))) (pe_and (pe_cmpR (op_eqK K hr.units) (pe_callB (call_lenK K) (by rfl) T.n_len PySem.boot_len (pa_cons (pv 3) pa_nil)) pe_int (nomark _)) (pe_one (pe_callF (i := 2) (SP := sp_are_pairs_is_good (gm K A)) (held_are_pairs_is_good T) (hr.mono (by decide)) rfl (by first | exact Or.inl rfl | exact Or.inr (Or.inl rfl) | exact Or.inr (Or.inr rfl)) (pa_cons (pv 3) pa_nil))))))) pa_nil))))), ?_⟩
  exact (snd_seq (snd_ifS (snd_or (snd_not (snd_tB (snd_cb snd_isi (snd_cons (snd_nm 0) (snd_cons snd_ty snd_nil))))) (snd_test (snd_op snd_gt (snd_cb snd_len (snd_cons (snd_nm 0) snd_nil)) (snd_nm 1)))) (snd_ret snd_bl) snd_next)
    (snd_ret (snd_cb snd_all (snd_cons (snd_lc (snd_iseq (snd_nm 0)) (snd_gname (i := 3)) snd_yes (snd_andV (snd_cb snd_isi (snd_cons (snd_nm 3) (snd_cons snd_ty snd_nil))) (snd_andV (snd_op snd_eq (snd_cb snd_len (snd_cons (snd_nm 3) snd_nil)) snd_int) (snd_callF (i := 2) fns_are_pairs_is_good_ok (snd_cons (snd_nm 3) snd_nil)))) (by decide)) snd_nil))))
theorem ok_bad_part (T : Txt K mg A) : FnOk P w K mg base CX0 4 A.f_bad_part A.fd_bad_part ["rule", "many"] (spI (gm K A) 2 d_bad_part) := by
  refine fn_I T.F_bad_part sc_bad_part fun cdv A0 outer s H E hr => ?_
  refine ⟨_, (pss_cons (ps_if (PW.pt (pw_or (pt_not (pt_val (pe_callB (call_isiK K) (by rfl) T.n_isinstance PyProof.Rows.boot_isinstance (pa_cons (pv 0) (pa_cons (pe_bltn (v := .ty "tuple") (by rfl) T.n_tuple PyProof.Rows.boot_tuple rfl) pa_nil))))) (pw_or1 (pt_cmpR (op_neK K hr.units) (pe_callB (call_lenK K) (by rfl) T.n_len PySem.boot_len (pa_cons (pv 0) pa_nil)) pe_int (nomark _))))) (pss_one (ps_ret (pe_un un_neg pe_int))) pss_nil)
    (pss_cons (ps_asg (pv 0) (pg_tupK (n := 5) K rfl (pgs_cons (pg_name (i := 4) sc_bad_part.nd rfl (by first | exact Or.inl rfl | exact Or.inr rfl)) (pgs_cons (pg_name (i := 5) sc_bad_part.nd rfl (by first | exact Or.inl rfl | exact Or.inr rfl)) (pgs_cons (pg_name (i := 6) sc_bad_part.nd rfl (by first | exact Or.inl rfl | exact Or.inr rfl)) (pgs_cons (pg_name (i := 7) sc_bad_part.nd rfl (by first | exact Or.inl rfl | exact Or.inr rfl)) (pgs_cons (pg_name (i := 8) sc_bad_part.nd rfl (by first | exact Or.inl rfl | exact Or.inr rfl)) pgs_nil)))))))
    (pss_cons (ps_set (i := 2) sc_bad_part.nd rfl (by first | exact Or.inl rfl | exact Or.inr rfl) (pe_ifExp (pt_val (pe_call (ok_are_pairs T) (hr.mono (by decide)) rfl T.g_are_pairs T.F_are_pairs.kp T.b_are_pairs .nil pass0 (pa_cons (pv 6) (pa_cons (pe_glob (v := .int 4) rfl T.g_MOST_GATHERED.choose_spec ⟨_, rfl⟩) (pa_cons (pe_glob (v := .ref A.f_is_gathered) rfl T.g_is_gathered rfl) pa_nil))))) (pe_lc (own := [("pair", 9)]) rfl sc_bad_part.nd (pi_seqK K (pv 6)) (blkOk_by (N := n_bad_part) (sc := defScope s_bad_part) (own := [("pair", 9)]) (by decide +kernel)) (fun _ _ _ _ _ => (pg_name (i := 9) sc_bad_part.nd rfl (by first | exact Or.inl rfl | exact Or.inr rfl))) (fun _ _ _ _ _ => pts_nil) (fun _ _ _ _ _ => (pe_ix (ix_seqK K) (pv 9) pe_int (fun _ _ => rfl)))) (pe_lst (pa_cons pe_int (pa_cons pe_int pa_nil)))))
    (pss_cons (ps_set (i := 3) sc_bad_part.nd rfl (by first | exact Or.inl rfl | exact Or.inr rfl) (pe_lst (pa_cons (pe_call (ok_are_pairs T) (hr.mono (by decide)) rfl T.g_are_pairs T.F_are_pairs.kp T.b_are_pairs .nil pass0 (pa_cons (pv 4) (pa_cons (pe_glob (v := .int 3) rfl T.g_MOST_HUSHED.choose_spec ⟨_, rfl⟩) (pa_cons (pe_glob (v := .ref A.f_is_stretch) rfl T.g_is_stretch rfl) pa_nil)))) (pa_cons (pe_call (ok_is_number T) (hr.mono (by decide)) rfl T.g_is_number T.F_is_number.kp T.b_is_number .nil pass0 (pa_cons (pv 5) (pa_cons pe_int (pa_cons (pe_op (op_addK K) (pe_glob (v := .int 3) rfl T.g_MOST_RANK.choose_spec ⟨_, rfl⟩) pe_int) pa_nil)))) pa_nil))))
    (pss_cons (ps_aug (i := 3) sc_bad_part.nd rfl (by first | exact Or.inl rfl | exact Or.inr rfl) (pe_lst (pa_cons (pe_cmpR (op_eqK K hr.units) (pv 2) (pe_sortSetK K rfl rfl T.n_sorted rfl T.n_set (pv 2)) (nomark _)) (pa_cons (pe_or (pe_cmpR op_isN (pv 7) pe_non (nomark _)) (pe_one (pe_call (ok_is_number T) (hr.mono (by decide)) rfl T.g_is_number T.F_is_number.kp T.b_is_number .nil pass0 (pa_cons (pv 7) (pa_cons pe_int (pa_cons (pe_glob (v := .int 24) rfl T.g_MOST_WAIT.choose_spec ⟨_, rfl⟩) pa_nil)))))) pa_nil))) iop_ext)
    (pss_cons (ps_expr (pe_bmK K PySem.F.plainAttrs_list PySem.F.slot_list_append PySem.F.type_list_append mt_append (pv 3) (pa_cons (pe_or (pe_cmpR op_isN (pv 8) pe_non (nomark _)) (pe_one (pe_call (ok_is_number T) (hr.mono (by decide)) rfl T.g_is_number T.F_is_number.kp T.b_is_number .nil pass0 (pa_cons (pv 8) (pa_cons pe_int (pa_cons (pe_op op_sub (pv 1) pe_int) pa_nil)))))) pa_nil)))
    (pss_one (ps_ret (pe_ifExp (pt_cmpR (op_inK K) pe_bl (pv 3) (by with_unfolding_all rfl)) (pe_bmK K PySem.F.plainAttrs_list PySem.F.slot_list_index PySem.F.type_list_index (mt_indexK K) (pv 3) (pa_cons pe_bl pa_nil)) pe_non))))))))), ?_⟩
  exact (snd_seq (snd_ifS (snd_or (snd_not (snd_tB (snd_cb snd_isi (snd_cons (snd_nm 0) (snd_cons snd_ty snd_nil))))) (snd_test (snd_op snd_ne (snd_cb snd_len (snd_cons (snd_nm 0) snd_nil)) snd_int))) (snd_ret (snd_un snd_neg snd_int)) snd_next)
    (snd_seq (snd_asg (snd_nm 0) (snd_gtup (n := 5) (snd_gcons (snd_gname (i := 4)) (snd_gcons (snd_gname (i := 5)) (snd_gcons (snd_gname (i := 6)) (snd_gcons (snd_gname (i := 7)) (snd_gcons (snd_gname (i := 8)) snd_gnil)))))))
    (snd_seq (snd_set (i := 2) (snd_v (snd_d (snd_if (snd_tB (snd_call (dvs := []) (snd_cons (snd_nm 6) (snd_cons snd_int (snd_cons (snd_fn (n := 0)) snd_nil))) nod den_len)) (snd_lc (snd_iseq (snd_nm 6)) (snd_gname (i := 9)) snd_yes (snd_op snd_ix (snd_nm 9) snd_int) (by decide)) (snd_lst (snd_cons snd_int (snd_cons snd_int snd_nil)))))))
    (snd_seq (snd_set (i := 3) (snd_lst (snd_cons (snd_call (dvs := []) (snd_cons (snd_nm 4) (snd_cons snd_int (snd_cons (snd_fn (n := 1)) snd_nil))) nod den_len) (snd_cons (snd_call (dvs := []) (snd_cons (snd_nm 5) (snd_cons snd_int (snd_cons (snd_op snd_add snd_int snd_int) snd_nil))) nod den_len) snd_nil))))
    (snd_seq (snd_extO (i := 3) (snd_lst (snd_cons (snd_op snd_eq (snd_nm 2) (snd_sortSet (snd_nm 2))) (snd_cons (snd_orV (snd_op snd_isN (snd_nm 7) snd_non) (snd_call (dvs := []) (snd_cons (snd_nm 7) (snd_cons snd_int (snd_cons snd_int snd_nil))) nod den_len)) snd_nil))))
    (snd_seq (snd_appO (i := 3) (snd_orV (snd_op snd_isN (snd_nm 8) snd_non) (snd_call (dvs := []) (snd_cons (snd_nm 8) (snd_cons snd_int (snd_cons (snd_op snd_sub (snd_nm 1) snd_int) snd_nil))) nod den_len)))
    (snd_frz 3 (snd_ret (snd_if (snd_test (snd_op snd_in snd_bl (snd_nm 3))) (snd_bm ty_lst snd_mIdx (snd_nm 3) (snd_cons snd_bl snd_nil)) snd_non)))))))))
theorem ok_need_rules (T : Txt K mg A) : FnOk P w K mg base CX0 5 A.f_need_rules A.fd_need_rules ["rules"] (spI (gm K A) 1 d_need_rules) := by
  refine fn_I T.F_need_rules sc_need_rules fun cdv A0 outer s H E hr => ?_
  refine ⟨_, (pss_cons (ps_if (PW.pt (pw_or (pt_not (pt_val (pe_callB (call_isiK K) (by rfl) T.n_isinstance PyProof.Rows.boot_isinstance (pa_cons (pv 0) (pa_cons (pe_bltn (v := .ty "tuple") (by rfl) T.n_tuple PyProof.Rows.boot_tuple rfl) pa_nil))))) (pw_or1 (pt_cmpR (op_eqK K hr.units) (pv 0) (pe_tup pa_nil) (nomark _))))) (pss_one ps_never) pss_nil)
    (pss_one (ps_for PassesOwn.never rfl (pi_enumSK K (by rfl) T.n_enumerate (pa_cons (pv 0) pa_nil)) (pg_tupK (n := 2) K rfl (pgs_cons (pg_name (i := 1) sc_need_rules.nd rfl (by first | exact Or.inl rfl | exact Or.inr rfl)) (pgs_cons (pg_name (i := 2) sc_need_rules.nd rfl (by first | exact Or.inl rfl | exact Or.inr rfl)) pgs_nil))) (pss_cons (ps_set (i := 3) sc_need_rules.nd rfl (by first | exact Or.inl rfl | exact Or.inr rfl) (pe_call (ok_bad_part T) (hr.mono (by decide)) rfl T.g_bad_part T.F_bad_part.kp T.b_bad_part .nil pass0 (pa_cons (pv 2) (pa_cons (pe_callB (call_lenK K) (by rfl) T.n_len PySem.boot_len (pa_cons (pv 0) pa_nil)) pa_nil))))
    (pss_one (ps_if (PW.pt (pw_or (pt_cmpR op_ge (pv 1) (pe_glob (v := .int 6) rfl T.g_MOST_PERSONS.choose_spec ⟨_, rfl⟩) (nomark _)) (pw_or1 (pt_cmpR op_notN (pv 3) pe_non (nomark _))))) (pss_one ps_never) pss_nil)))))), ?_⟩
  exact (snd_seq (snd_ifS (snd_or (snd_not (snd_tB (snd_cb snd_isi (snd_cons (snd_nm 0) (snd_cons snd_ty snd_nil))))) (snd_test (snd_op snd_eq (snd_nm 0) (snd_tup snd_nil)))) snd_never snd_next)
    (snd_for (mb := m_need_rules_1) (snd_ienS (snd_cons (snd_nm 0) snd_nil)) (snd_gtup (n := 2) (snd_gcons (snd_gname (i := 1)) (snd_gcons (snd_gname (i := 2)) snd_gnil))) (snd_seq (snd_set (i := 3) (snd_call (dvs := []) (snd_cons (snd_nm 2) (snd_cons (snd_cb snd_len (snd_cons (snd_nm 0) snd_nil)) snd_nil)) nod den_len))
    (snd_ifS (snd_or (snd_test (snd_op snd_ge (snd_nm 1) snd_int)) (snd_test (snd_op snd_notN (snd_nm 3) snd_non))) snd_never snd_next))))
theorem ok_need_notices (T : Txt K mg A) : FnOk P w K mg base CX0 2 A.f_need_notices A.fd_need_notices ["rules", "notices"] (spI (gm K A) 2 d_need_notices) := by
  refine fn_I T.F_need_notices sc_need_notices fun cdv A0 outer s H E hr => ?_
  refine ⟨_, (pss_cons (ps_set (i := 2) sc_need_notices.nd rfl (by first | exact Or.inl rfl | exact Or.inr rfl) pe_int)
    (pss_one (ps_for PassesOwn.never rfl (pi_enumK K (by rfl) T.n_enumerate (pa_cons (pv 1) pa_nil)) (pg_tupK (n := 2) K rfl (pgs_cons (pg_name (i := 3) sc_need_notices.nd rfl (by first | exact Or.inl rfl | exact Or.inr rfl)) (pgs_cons (pg_name (i := 4) sc_need_notices.nd rfl (by first | exact Or.inl rfl | exact Or.inr rfl)) pgs_nil))) (pss_cons (ps_if (PW.pt (pw_or (pt_cmpR op_ge (pv 3) (pe_glob (v := .int 30) rfl T.g_MOST_NOTICES.choose_spec ⟨_, rfl⟩) (nomark _)) (pw_or (pt_not (pt_val (pe_callB (call_isiK K) (by rfl) T.n_isinstance PyProof.Rows.boot_isinstance (pa_cons (pv 4) (pa_cons (pe_bltn (v := .ty "tuple") (by rfl) T.n_tuple PyProof.Rows.boot_tuple rfl) pa_nil))))) (pw_or1 (pt_cmpR (op_neK K hr.units) (pe_callB (call_lenK K) (by rfl) T.n_len PySem.boot_len (pa_cons (pv 4) pa_nil)) pe_int (nomark _)))))) (pss_one ps_never) pss_nil)
    (pss_cons (ps_asg (pv 4) (pg_tupK (n := 4) K rfl (pgs_cons (pg_name (i := 6) sc_need_notices.nd rfl (by first | exact Or.inl rfl | exact Or.inr rfl)) (pgs_cons (pg_name (i := 7) sc_need_notices.nd rfl (by first | exact Or.inl rfl | exact Or.inr rfl)) (pgs_cons (pg_name (i := 8) sc_need_notices.nd rfl (by first | exact Or.inl rfl | exact Or.inr rfl)) (pgs_cons (pg_name (i := 9) sc_need_notices.nd rfl (by first | exact Or.inl rfl | exact Or.inr rfl)) pgs_nil))))))
    (pss_cons (ps_set (i := 5) sc_need_notices.nd rfl (by first | exact Or.inl rfl | exact Or.inr rfl) (pe_and (pe_call (ok_is_number T) (hr.mono (by decide)) rfl T.g_is_number T.F_is_number.kp T.b_is_number .nil pass0 (pa_cons (pv 6) (pa_cons pe_int (pa_cons (pe_op op_sub (pe_callB (call_lenK K) (by rfl) T.n_len PySem.boot_len (pa_cons (pv 0) pa_nil)) pe_int) pa_nil)))) (pe_one (pe_call (ok_is_number T) (hr.mono (by decide)) rfl T.g_is_number T.F_is_number.kp T.b_is_number .nil pass0 (pa_cons (pv 7) (pa_cons pe_int (pa_cons (pe_glob (v := .int 3) rfl T.g_MOST_RANK.choose_spec ⟨_, rfl⟩) pa_nil)))))))
    (pss_cons (ps_if (PW.pt (pw_or (pt_not (pt_val (pv 5))) (pw_or (pt_not (pt_val (pe_call (ok_is_number T) (hr.mono (by decide)) rfl T.g_is_number T.F_is_number.kp T.b_is_number .nil pass0 (pa_cons (pv 8) (pa_cons pe_int (pa_cons (pe_glob (v := .int 7) rfl T.g_MOST_KIND.choose_spec ⟨_, rfl⟩) pa_nil)))))) (pw_or1 (pt_not (pt_val (pe_call (ok_is_number T) (hr.mono (by decide)) rfl T.g_is_number T.F_is_number.kp T.b_is_number .nil pass0 (pa_cons (pv 9) (pa_cons (pv 2) (pa_cons (pe_glob (v := .int 300) rfl T.g_MOST_BORN.choose_spec ⟨_, rfl⟩) pa_nil)))))))))) (pss_one ps_never) pss_nil)
    (pss_one (ps_set (i := 2) sc_need_notices.nd rfl (by first | exact Or.inl rfl | exact Or.inr rfl) (pv 9)))))))))), ?_⟩
  exact (snd_seq (snd_set (i := 2) snd_int)
    (snd_forC (mb := m_need_notices_1) (snd_iCE (snd_nm 1)) (snd_gtup (n := 2) (snd_gcons (snd_gname (i := 3)) (snd_gcons (snd_gname (i := 4)) snd_gnil))) (snd_seq (snd_ifS (snd_or (snd_test (snd_op snd_ge (snd_nm 3) snd_int)) (snd_or (snd_not (snd_tB (snd_cb snd_isi (snd_cons (snd_nm 4) (snd_cons snd_ty snd_nil))))) (snd_test (snd_op snd_ne (snd_cb snd_len (snd_cons (snd_nm 4) snd_nil)) snd_int)))) snd_never snd_next)
    (snd_seq (snd_asg (snd_nm 4) (snd_gtup (n := 4) (snd_gcons (snd_gname (i := 6)) (snd_gcons (snd_gname (i := 7)) (snd_gcons (snd_gname (i := 8)) (snd_gcons (snd_gname (i := 9)) snd_gnil))))))
    (snd_seq (snd_set (i := 5) (snd_andV (snd_call (dvs := []) (snd_cons (snd_nm 6) (snd_cons snd_int (snd_cons (snd_op snd_sub (snd_cb snd_len (snd_cons (snd_nm 0) snd_nil)) snd_int) snd_nil))) nod den_len) (snd_call (dvs := []) (snd_cons (snd_nm 7) (snd_cons snd_int (snd_cons snd_int snd_nil))) nod den_len)))
    (snd_seq (snd_ifS (snd_or (snd_not (snd_tB (snd_nm 5))) (snd_or (snd_not (snd_tB (snd_call (dvs := []) (snd_cons (snd_nm 8) (snd_cons snd_int (snd_cons snd_int snd_nil))) nod den_len))) (snd_not (snd_tB (snd_call (dvs := []) (snd_cons (snd_nm 9) (snd_cons (snd_nm 2) (snd_cons snd_int snd_nil))) nod den_len))))) snd_never snd_next)
    (snd_set (i := 2) (snd_nm 9))))))))
theorem ok_word_of (T : Txt K mg A) : FnOk P w K mg base CX0 1 A.f_word_of A.fd_word_of ["part"] (spI (gm K A) 1 d_word_of) := by
  refine fn_I T.F_word_of sc_word_of fun cdv A0 outer s H E hr => ?_
  refine ⟨_, (pss_one (ps_ret (pe_ifExp (pt_cmpR op_isN (pv 0) pe_non (nomark _)) (pe_glob (v := .str "-") rfl T.g_NONE.choose_spec ⟨_, rfl⟩) (pe_callTy call_str_int (by rfl) T.n_str PyProof.Rows.boot_str (pa_cons (pv 0) pa_nil))))), ?_⟩
  exact (snd_ret (snd_if (snd_test (snd_op snd_isN (snd_nm 0) snd_non)) snd_str (snd_cb snd_fstr (snd_cons (snd_nm 0) snd_nil))))
theorem ok_written (T : Txt K mg A) : FnOk P w K mg base CX0 6 A.f_written A.fd_written ["rules", "notices"] (spI (gm K A) 2 d_written) := by
  refine fn_I T.F_written sc_written fun cdv A0 outer s H E hr => ?_
  refine ⟨_, (pss_cons (ps_expr (pe_call (ok_need_rules T) (hr.mono (by decide)) rfl T.g_need_rules T.F_need_rules.kp T.b_need_rules .nil pass0 (pa_cons (pv 0) pa_nil)))
    (pss_cons (ps_expr (pe_call (ok_need_notices T) (hr.mono (by decide)) rfl T.g_need_notices T.F_need_notices.kp T.b_need_notices .nil pass0 (pa_cons (pv 0) (pa_cons (pv 1) pa_nil))))
    (pss_cons (ps_set (i := 2) sc_written.nd rfl (by first | exact Or.inl rfl | exact Or.inr rfl) (pe_lst pa_nil))
    (pss_cons (ps_for PassesOwn.never rfl (pi_seqK K (pv 0)) (pg_tupK (n := 5) K rfl (pgs_cons (pg_name (i := 3) sc_written.nd rfl (by first | exact Or.inl rfl | exact Or.inr rfl)) (pgs_cons (pg_name (i := 4) sc_written.nd rfl (by first | exact Or.inl rfl | exact Or.inr rfl)) (pgs_cons (pg_name (i := 5) sc_written.nd rfl (by first | exact Or.inl rfl | exact Or.inr rfl)) (pgs_cons (pg_name (i := 6) sc_written.nd rfl (by first | exact Or.inl rfl | exact Or.inr rfl)) (pgs_cons (pg_name (i := 7) sc_written.nd rfl (by first | exact Or.inl rfl | exact Or.inr rfl)) pgs_nil)))))) (pss_cons (ps_expr (pe_bmK K PySem.F.plainAttrs_list PySem.F.slot_list_append PySem.F.type_list_append mt_append (pv 2) (pa_cons (pe_lst (pa_cons (pe_glob (v := .str "person") rfl T.g_PERSON.choose_spec ⟨_, rfl⟩) (pa_cons (pv 4) (pa_cons (pv 6) (pa_cons (pv 7) pa_nil))))) pa_nil)))
    (pss_cons (ps_aug (i := 2) sc_written.nd rfl (by first | exact Or.inl rfl | exact Or.inr rfl) (pe_lc (own := [("begin", 10), ("end", 11)]) rfl sc_written.nd (pi_seqK K (pv 3)) (blkOk_by (N := n_written) (sc := defScope s_written) (own := [("begin", 10), ("end", 11)]) (by decide +kernel)) (fun _ _ _ _ _ => (pg_tupK (n := 2) K rfl (pgs_cons (pg_name (i := 10) sc_written.nd rfl (by first | exact Or.inl rfl | exact Or.inr rfl)) (pgs_cons (pg_name (i := 11) sc_written.nd rfl (by first | exact Or.inl rfl | exact Or.inr rfl)) pgs_nil)))) (fun _ _ _ _ _ => pts_nil) (fun _ _ _ _ _ => (pe_lst (pa_cons (pe_glob (v := .str "hush") rfl T.g_HUSH.choose_spec ⟨_, rfl⟩) (pa_cons (pv 10) (pa_cons (pv 11) pa_nil)))))) iop_ext)
    (pss_one (ps_aug (i := 2) sc_written.nd rfl (by first | exact Or.inl rfl | exact Or.inr rfl) (pe_lc (own := [("kind", 12), ("span", 13)]) rfl sc_written.nd (pi_seqK K (pv 5)) (blkOk_by (N := n_written) (sc := defScope s_written) (own := [("kind", 12), ("span", 13)]) (by decide +kernel)) (fun _ _ _ _ _ => (pg_tupK (n := 2) K rfl (pgs_cons (pg_name (i := 12) sc_written.nd rfl (by first | exact Or.inl rfl | exact Or.inr rfl)) (pgs_cons (pg_name (i := 13) sc_written.nd rfl (by first | exact Or.inl rfl | exact Or.inr rfl)) pgs_nil)))) (fun _ _ _ _ _ => pts_nil) (fun _ _ _ _ _ => (pe_lst (pa_cons (pe_glob (v := .str "gather") rfl T.g_GATHER.choose_spec ⟨_, rfl⟩) (pa_cons (pv 12) (pa_cons (pv 13) pa_nil)))))) iop_ext)))))
    (pss_cons (ps_aug (i := 2) sc_written.nd rfl (by first | exact Or.inl rfl | exact Or.inr rfl) (pe_lc (own := [("notice", 8)]) rfl sc_written.nd (pi_seqK K (pv 1)) (blkOk_by (N := n_written) (sc := defScope s_written) (own := [("notice", 8)]) (by decide +kernel)) (fun _ _ _ _ _ => (pg_name (i := 8) sc_written.nd rfl (by first | exact Or.inl rfl | exact Or.inr rfl))) (fun _ _ _ _ _ => pts_nil) (fun _ _ _ _ _ => (pe_op (op_addK K) (pe_lst (pa_cons (pe_glob (v := .str "notice") rfl T.g_NOTICE.choose_spec ⟨_, rfl⟩) pa_nil)) (pe_callTy (call_listK K) (by rfl) T.n_list PyProof.Rows.boot_list (pa_cons (pv 8) pa_nil))))) iop_ext)
    (pss_one (ps_ret (pe_joinK K (pe_glob (v := .str "\n") rfl T.g_LINE.choose_spec ⟨_, rfl⟩) (pe_lc (own := [("row", 9)]) rfl sc_written.nd (pi_seqK K (pv 2)) (blkOk_by (N := n_written) (sc := defScope s_written) (own := [("row", 9)]) (by decide +kernel)) (fun _ _ _ _ _ => (pg_name (i := 9) sc_written.nd rfl (by first | exact Or.inl rfl | exact Or.inr rfl))) (fun _ _ _ _ _ => pts_nil) (fun _ _ _ _ _ => (pe_joinK K pe_str (pe_op (op_addK K) (pe_lst (pa_cons (pe_ix (ix_seqK K) (pv 9) pe_int (fun _ _ => rfl)) pa_nil)) (pe_lc (own := [("part", 14)]) rfl sc_written.nd (pi_seqK K (pe_slice (sl_anyK K) (pv 9) (po_some pe_int) po_none)) (blkOk_by (N := n_written) (own := [("part", 14)]) (by kernel_rfl)) (fun _ _ _ _ _ => (pg_name (i := 14) sc_written.nd rfl (by first | exact Or.inl rfl | exact Or.inr rfl))) (fun _ _ _ _ _ => pts_nil) (fun _ _ _ _ _ => (pe_call (ok_word_of T) (hr.mono (by decide)) rfl T.g_word_of T.F_word_of.kp T.b_word_of .nil pass0 (pa_cons (pv 14) pa_nil)))))))))))))))), ?_⟩
  exact (snd_seq (snd_expr (snd_call (dvs := []) (snd_cons (snd_nm 0) snd_nil) nod den_len))
    (snd_seq (snd_expr (snd_call (dvs := []) (snd_cons (snd_nm 0) (snd_cons (snd_nm 1) snd_nil)) nod den_len))
    (snd_seq (snd_set (i := 2) (snd_lst snd_nil))
    (snd_seq (snd_for (mb := m_written_1) (snd_iseq (snd_nm 0)) (snd_gtup (n := 5) (snd_gcons (snd_gname (i := 3)) (snd_gcons (snd_gname (i := 4)) (snd_gcons (snd_gname (i := 5)) (snd_gcons (snd_gname (i := 6)) (snd_gcons (snd_gname (i := 7)) snd_gnil)))))) (snd_seq (snd_appO (i := 2) (snd_lst (snd_cons snd_str (snd_cons (snd_nm 4) (snd_cons (snd_nm 6) (snd_cons (snd_nm 7) snd_nil))))))
    (snd_seq (snd_extO (i := 2) (snd_lc (snd_iseq (snd_nm 3)) (snd_gtup (n := 2) (snd_gcons (snd_gname (i := 10)) (snd_gcons (snd_gname (i := 11)) snd_gnil))) snd_yes (snd_lst (snd_cons snd_str (snd_cons (snd_nm 10) (snd_cons (snd_nm 11) snd_nil)))) (by decide)))
    (snd_extO (i := 2) (snd_lc (snd_iseq (snd_nm 5)) (snd_gtup (n := 2) (snd_gcons (snd_gname (i := 12)) (snd_gcons (snd_gname (i := 13)) snd_gnil))) snd_yes (snd_lst (snd_cons snd_str (snd_cons (snd_nm 12) (snd_cons (snd_nm 13) snd_nil)))) (by decide))))))
    (snd_seq (snd_extO (i := 2) (snd_lcC (snd_iC (snd_nm 1)) (snd_gname (i := 8)) snd_yes (snd_op snd_add (snd_lst (snd_cons snd_str snd_nil)) (snd_cb snd_list (snd_cons (snd_nm 8) snd_nil))) (by decide)))
    (snd_frz 2 (snd_ret (snd_tM1 snd_mJoin snd_str (snd_lc (snd_iseq (snd_nm 2)) (snd_gname (i := 9)) snd_yes (snd_tM1 snd_mJoin snd_str (snd_op snd_add (snd_lst (snd_cons (snd_op snd_ix (snd_nm 9) snd_int) snd_nil)) (snd_lc (snd_iseq (snd_sl (snd_nm 9) (snd_oPart snd_int) snd_oNo)) (snd_gname (i := 14)) snd_yes (snd_call (dvs := []) (snd_cons (snd_nm 14) snd_nil) nod den_len) (by decide)))) (by decide))))))))))
theorem ok_Reader_init (T : Txt K mg A) : FnOk P w K mg base CX0 1 A.f_Reader_init A.fd_Reader_init ["self"] (spI (gm K A) 1 d_Reader_init) := by
  refine fn_I T.F_Reader_init sc_Reader_init fun cdv A0 outer s H E hr => ?_
  refine ⟨_, (pss_cons (ps_fld (pv 0) (pe_lst pa_nil) rfl)
    (pss_cons (ps_fld (pv 0) (pe_lst pa_nil) rfl)
    (pss_one (ps_fld (pv 0) pe_int rfl)))), ?_⟩
  exact (snd_seq (snd_fldS (c := 0) T.x_Reader_found (snd_nm 0) (snd_box (snd_lst snd_nil)))
    (snd_seq (snd_fldS (c := 0) T.x_Reader_notices (snd_nm 0) (snd_box (snd_lst snd_nil)))
    (snd_fldS (c := 0) T.x_Reader_stage (snd_nm 0) snd_int)))
theorem ok_number_of (T : Txt K mg A) : FnOk P w K mg base CX0 1 A.f_number_of A.fd_number_of ["word"] (spI (gm K A) 1 d_number_of) := by
  refine fn_I T.F_number_of sc_number_of fun cdv A0 outer s H E hr => ?_
  refine ⟨_, (pss_cons (ps_if (PW.pt (pw_or (pt_not (pt_chain op_le op_le pe_int (pe_callB (call_lenK K) (by rfl) T.n_len PySem.boot_len (pa_cons (pv 0) pa_nil)) pe_int)) (pw_or1 (pt_not (pt_val (pe_callB (call_allK K rfl) (by rfl) T.n_all PyProof.Rows.boot_all (pa_cons (pe_lc (own := [("sign", 1)]) rfl sc_number_of.nd (pi_str (pv 0)) (blkOk_by (N := n_number_of) (sc := defScope s_number_of) (own := [("sign", 1)]) (by decide +kernel)) (fun _ _ _ _ _ => (pg_name (i := 1) sc_number_of.nd rfl (by first | exact Or.inl rfl | exact Or.inr rfl))) (fun _ _ _ _ _ => pts_nil) (fun _ _ _ _ _ => (pe_cmpR op_in_sign (pv 1) (pe_glob (v := .str "0123456789") rfl T.g_FIGURES.choose_spec ⟨_, rfl⟩) rfl))) pa_nil))))))) (pss_one (ps_ret (pe_un un_neg pe_int))) pss_nil)
    (pss_one (ps_ret (pe_ifExp (PW.pt (pw_or (pt_cmpR (op_eqK K hr.units) (pv 0) pe_str (nomark _)) (pw_or1 (pt_cmpR (op_neK K hr.units) (pe_ix (ix_seqK K) (pv 0) pe_int (fun _ _ => rfl)) pe_str (nomark _))))) (pe_callTy call_intA (by rfl) T.n_int PyProof.Rows.boot_int (pa_cons (pv 0) pa_nil)) (pe_un un_neg pe_int))))), ?_⟩
  exact (snd_seq (snd_ifS (snd_or (snd_not (snd_test (snd_chain snd_le snd_le snd_int (snd_cb snd_len (snd_cons (snd_nm 0) snd_nil)) snd_int))) (snd_not (snd_tB (snd_cb snd_all (snd_cons (snd_lc (snd_istr (snd_nm 0)) (snd_gname (i := 1)) snd_yes (snd_op snd_inS (snd_nm 1) snd_str) (by decide)) snd_nil))))) (snd_ret (snd_un snd_neg snd_int)) snd_next)
    (snd_ret (snd_if (snd_or (snd_test (snd_op snd_eq (snd_nm 0) snd_str)) (snd_test (snd_op snd_ne (snd_op snd_ix (snd_nm 0) snd_int) snd_str))) (snd_cb snd_fint (snd_cons (snd_nm 0) snd_nil)) (snd_un snd_neg snd_int))))
theorem ok_Reader_take (T : Txt K mg A) : FnOk P w K mg base CX0 2 A.f_Reader_take A.fd_Reader_take ["self", "words", "row"] (spI (gm K A) 3 d_Reader_take) := by
  refine fn_I T.F_Reader_take sc_Reader_take fun cdv A0 outer s H E hr => ?_
  refine ⟨_, (pss_cons (ps_asg (pv 1) (pg_starK K (i := 6) (j := 7) rfl sc_Reader_take.nd rfl rfl (by first | exact Or.inl rfl | exact Or.inr rfl) (by first | exact Or.inl rfl | exact Or.inr rfl)))
    (pss_cons (ps_setLc (i := 3) (own := [("word", 8)]) rfl sc_Reader_take.nd rfl rfl (sw_true rfl rfl rfl (by decide +kernel)) (pi_seqK K (pv 7)) (blkOk_by (N := n_Reader_take) (sc := defScope s_Reader_take) (own := [("word", 8)]) (by decide +kernel)) (fun _ _ _ _ _ => (pg_name (i := 8) sc_Reader_take.nd rfl (by first | exact Or.inl rfl | exact Or.inr rfl))) (fun _ _ _ _ _ => pts_nil) (fun _ _ _ _ _ => (pe_ifExp (pt_cmpR (op_eqK K hr.units) (pv 8) (pe_glob (v := .str "-") rfl T.g_NONE.choose_spec ⟨_, rfl⟩) (nomark _)) pe_non (pe_call (ok_number_of T) (hr.mono (by decide)) rfl T.g_number_of T.F_number_of.kp T.b_number_of .nil pass0 (pa_cons (pv 8) pa_nil)))))
    (pss_cons (ps_set (i := 4) sc_Reader_take.nd rfl (by first | exact Or.inl rfl | exact Or.inr rfl) (pe_disp (pps_cons (pe_glob (v := .str "person") rfl T.g_PERSON.choose_spec ⟨_, rfl⟩) pe_int (pps_cons (pe_glob (v := .str "hush") rfl T.g_HUSH.choose_spec ⟨_, rfl⟩) pe_int (pps_cons (pe_glob (v := .str "gather") rfl T.g_GATHER.choose_spec ⟨_, rfl⟩) pe_int (pps_cons (pe_glob (v := .str "notice") rfl T.g_NOTICE.choose_spec ⟨_, rfl⟩) pe_int pps_nil)))) (by rfl) (by rfl) (fun z => by cases z) (by decide)))
    (pss_cons (ps_set (i := 5) sc_Reader_take.nd rfl (by first | exact Or.inl rfl | exact Or.inr rfl) (pe_disp (pps_cons (pe_glob (v := .str "person") rfl T.g_PERSON.choose_spec ⟨_, rfl⟩) pe_int (pps_cons (pe_glob (v := .str "hush") rfl T.g_HUSH.choose_spec ⟨_, rfl⟩) pe_int (pps_cons (pe_glob (v := .str "gather") rfl T.g_GATHER.choose_spec ⟨_, rfl⟩) pe_int (pps_cons (pe_glob (v := .str "notice") rfl T.g_NOTICE.choose_spec ⟨_, rfl⟩) pe_int pps_nil)))) (by rfl) (by rfl) (fun z => by cases z) (by decide)))
    (pss_cons (ps_if (PW.pt (pw_or (pt_cmp (pc_dnotin (hu_of hr) (pv 6) (pv 4))) (pw_or (pt_cmpR (op_neK K hr.units) (pe_callB (call_lenK K) (by rfl) T.n_len PySem.boot_len (pa_cons (pv 7) pa_nil)) (pe_dget (hu_of hr) (pv 5) (pv 6) (fun _ _ => rfl)) (nomark _)) (pw_or (pt_cmpR (op_inK K) (pe_un un_neg pe_int) (pv 3) (by with_unfolding_all rfl)) (pw_or1 (pt_cmpR (op_inK K) pe_non (pe_slice (sl_anyK K) (pv 3) po_none (po_some pe_int)) (by with_unfolding_all rfl))))))) (pss_one ps_never) pss_nil)
    (pss_cons (ps_if (PW.pt (pw_and (pt_cmpR (op_neK K hr.units) (pv 6) (pe_glob (v := .str "person") rfl T.g_PERSON.choose_spec ⟨_, rfl⟩) (nomark _)) (pw_and1 (PW.pt (pw_or (pt_cmpR (op_inK K) pe_non (pv 3) (by with_unfolding_all rfl)) (pw_or (pt_cmpR (op_eqK K hr.units) (pe_fldK K (pv 0) rfl) (pe_lst pa_nil) (nomark _)) (pw_or1 (pt_cmpR op_lt (pe_dget (hu_of hr) (pv 4) (pv 6) (fun _ _ => rfl)) (pe_fldK K (pv 0) rfl) (nomark _))))))))) (pss_one ps_never) pss_nil)
    (pss_cons (ps_if (PW.pt (pw_and (pt_cmpR (op_eqK K hr.units) (pv 6) (pe_glob (v := .str "person") rfl T.g_PERSON.choose_spec ⟨_, rfl⟩) (nomark _)) (pw_and1 (pt_cmpR (op_eqK K hr.units) (pe_fldK K (pv 0) rfl) pe_int (nomark _))))) (pss_one ps_never) pss_nil)
    (pss_cons (ps_fld (pv 0) (pe_dget (hu_of hr) (pv 4) (pv 6) (fun _ _ => rfl)) rfl)
    (pss_one (ps_if (pt_cmpR (op_eqK K hr.units) (pv 6) (pe_glob (v := .str "person") rfl T.g_PERSON.choose_spec ⟨_, rfl⟩) (nomark _)) (pss_one (ps_expr (pe_bmK K PySem.F.plainAttrs_list PySem.F.slot_list_append PySem.F.type_list_append mt_append (pe_fldK K (pv 0) rfl) (pa_cons (pe_lst (pa_cons (pe_lst pa_nil) (pa_cons (pe_ix (ix_seqK K) (pv 3) pe_int (fun _ _ => rfl)) (pa_cons (pe_lst pa_nil) (pa_cons (pe_ix (ix_seqK K) (pv 3) pe_int (fun _ _ => rfl)) (pa_cons (pe_ix (ix_seqK K) (pv 3) pe_int (fun _ _ => rfl)) pa_nil)))))) pa_nil)))) (pss_one (ps_if (pt_cmpR (op_eqK K hr.units) (pv 6) (pe_glob (v := .str "notice") rfl T.g_NOTICE.choose_spec ⟨_, rfl⟩) (nomark _)) (pss_one (ps_expr (pe_bmK K PySem.F.plainAttrs_list PySem.F.slot_list_append PySem.F.type_list_append mt_append (pe_fldK K (pv 0) rfl) (pa_cons (pe_callTy (call_tupleK K) (by rfl) T.n_tuple PyProof.Rows.boot_tuple (pa_cons (pv 3) pa_nil)) pa_nil)))) (pss_one (ps_expr (pe_bmK K PySem.F.plainAttrs_list PySem.F.slot_list_append PySem.F.type_list_append mt_append (pe_ix (ix_seqK K) (pe_ix (ix_seqK K) (pe_fldK K (pv 0) rfl) (pe_un un_neg pe_int) (fun _ _ => rfl)) (pe_ifExp (pt_cmpR (op_eqK K hr.units) (pv 6) (pe_glob (v := .str "hush") rfl T.g_HUSH.choose_spec ⟨_, rfl⟩) (nomark _)) pe_int pe_int) (fun _ _ => rfl)) (pa_cons (pe_callTy (call_tupleK K) (by rfl) T.n_tuple PyProof.Rows.boot_tuple (pa_cons (pv 3) pa_nil)) pa_nil)))))))))))))))), ?_⟩
  exact (snd_seq (snd_star (i := 6) (j := 7) (snd_nm 1))
    (snd_seq (snd_set (i := 3) (snd_v (snd_d (snd_lc (snd_iseq (snd_nm 7)) (snd_gname (i := 8)) snd_yes (snd_if (snd_test (snd_op snd_eq (snd_nm 8) snd_str)) snd_non (snd_call (dvs := []) (snd_cons (snd_nm 8) snd_nil) nod den_len)) (by decide)))))
    (snd_seq (snd_set (i := 4) (snd_disp (ps_cons snd_str snd_int (ps_cons snd_str snd_int (ps_cons snd_str snd_int (ps_cons snd_str snd_int ps_nil))))))
    (snd_seq (snd_set (i := 5) (snd_disp (ps_cons snd_str snd_int (ps_cons snd_str snd_int (ps_cons snd_str snd_int (ps_cons snd_str snd_int ps_nil))))))
    (snd_seq (snd_ifS (snd_or (snd_tB (snd_oDNotIn (snd_nm 6))) (snd_or (snd_test (snd_op snd_ne (snd_cb snd_len (snd_cons (snd_nm 7) snd_nil)) (snd_oDGet (snd_nm 6)))) (snd_or (snd_test (snd_op snd_in (snd_un snd_neg snd_int) (snd_nm 3))) (snd_test (snd_op snd_in snd_non (snd_sl (snd_nm 3) snd_oNo (snd_oPart snd_int))))))) snd_never snd_next)
    (snd_seq (snd_ifS (snd_and (snd_test (snd_op snd_ne (snd_nm 6) snd_str)) (snd_or (snd_test (snd_op snd_in snd_non (snd_nm 3))) (snd_or (snd_test (snd_op snd_eq (snd_fld (c := 0) T.x_Reader_found (snd_nm 0)) (snd_box (snd_lst snd_nil)))) (snd_test (snd_op snd_lt (snd_oDGet (snd_nm 6)) (snd_fld (c := 0) T.x_Reader_stage (snd_nm 0))))))) snd_never snd_next)
    (snd_seq (snd_ifS (snd_and (snd_test (snd_op snd_eq (snd_nm 6) snd_str)) (snd_test (snd_op snd_eq (snd_fld (c := 0) T.x_Reader_stage (snd_nm 0)) snd_int))) snd_never snd_next)
    (snd_seq (snd_fldS (c := 0) T.x_Reader_stage (snd_nm 0) (snd_oDGet (snd_nm 6)))
    (snd_ifS (snd_test (snd_op snd_eq (snd_nm 6) snd_str)) (snd_expr (snd_bm ty_lst snd_mApp (snd_fld (c := 0) T.x_Reader_found (snd_nm 0)) (snd_cons (snd_lst (snd_cons (snd_box (snd_lst snd_nil)) (snd_cons (snd_op snd_ix (snd_nm 3) snd_int) (snd_cons (snd_box (snd_lst snd_nil)) (snd_cons (snd_op snd_ix (snd_nm 3) snd_int) (snd_cons (snd_op snd_ix (snd_nm 3) snd_int) snd_nil)))))) snd_nil))) (snd_ifS (snd_test (snd_op snd_eq (snd_nm 6) snd_str)) (snd_expr (snd_bm ty_lst snd_mApp (snd_fld (c := 0) T.x_Reader_notices (snd_nm 0)) (snd_cons (snd_cb snd_tuple (snd_cons (snd_nm 3) snd_nil)) snd_nil))) (snd_expr (snd_bm ty_lst snd_mApp (snd_op snd_ix (snd_op snd_ix (snd_fld (c := 0) T.x_Reader_found (snd_nm 0)) (snd_un snd_neg snd_int)) (snd_if (snd_test (snd_op snd_eq (snd_nm 6) snd_str)) snd_int snd_int)) (snd_cons (snd_cb snd_tuple (snd_cons (snd_nm 3) snd_nil)) snd_nil)))))))))))))
theorem ok_read (T : Txt K mg A) : FnOk P w K mg base CX0 6 A.f_read A.fd_read ["text"] (spI (gm K A) 1 d_read) := by
  refine fn_I T.F_read sc_read fun cdv A0 outer s H E hr => ?_
  refine ⟨_, (pss_cons (ps_set (i := 1) sc_read.nd rfl (by first | exact Or.inl rfl | exact Or.inr rfl) (pe_make0 T.m_Reader (ok_Reader_init T) (hr.mono (by decide)) rfl T.gc_Reader T.b_Reader_init .nil pass0))
    (pss_cons (ps_for PassesOwn.never rfl (pi_enumSK K (by rfl) T.n_enumerate (pa_cons (pe_split (pv 0) (pe_glob (v := .str "\n") rfl T.g_LINE.choose_spec ⟨_, rfl⟩)) pa_nil)) (pg_tupK (n := 2) K rfl (pgs_cons (pg_name (i := 3) sc_read.nd rfl (by first | exact Or.inl rfl | exact Or.inr rfl)) (pgs_cons (pg_name (i := 4) sc_read.nd rfl (by first | exact Or.inl rfl | exact Or.inr rfl)) pgs_nil))) (pss_one (ps_expr (pe_meth (pv 1) T.c_Reader T.me_Reader_take (ok_Reader_take T) (hr.mono (by decide)) T.b_Reader_take .nil pass0 (pa_cons (pe_split (pv 4) pe_str) (pa_cons (pv 3) pa_nil))))))
    (pss_cons (ps_set (i := 2) sc_read.nd rfl (by first | exact Or.inl rfl | exact Or.inr rfl) (pe_callTy (call_tupleK K) (by rfl) T.n_tuple PyProof.Rows.boot_tuple (pa_cons (pe_lc (own := [("one", 5)]) rfl sc_read.nd (pi_seqK K (pe_fldK K (pv 1) rfl)) (blkOk_by (N := n_read) (sc := defScope s_read) (own := [("one", 5)]) (by decide +kernel)) (fun _ _ _ _ _ => (pg_name (i := 5) sc_read.nd rfl (by first | exact Or.inl rfl | exact Or.inr rfl))) (fun _ _ _ _ _ => pts_nil) (fun _ _ _ _ _ => (pe_tup (pa_cons (pe_callTy (call_tupleK K) (by rfl) T.n_tuple PyProof.Rows.boot_tuple (pa_cons (pe_ix (ix_seqK K) (pv 5) pe_int (fun _ _ => rfl)) pa_nil)) (pa_cons (pe_ix (ix_seqK K) (pv 5) pe_int (fun _ _ => rfl)) (pa_cons (pe_callTy (call_tupleK K) (by rfl) T.n_tuple PyProof.Rows.boot_tuple (pa_cons (pe_ix (ix_seqK K) (pv 5) pe_int (fun _ _ => rfl)) pa_nil)) (pa_cons (pe_ix (ix_seqK K) (pv 5) pe_int (fun _ _ => rfl)) (pa_cons (pe_ix (ix_seqK K) (pv 5) pe_int (fun _ _ => rfl)) pa_nil)))))))) pa_nil)))
    (pss_cons (ps_expr (pe_call (ok_need_rules T) (hr.mono (by decide)) rfl T.g_need_rules T.F_need_rules.kp T.b_need_rules .nil pass0 (pa_cons (pv 2) pa_nil)))
    (pss_cons (ps_expr (pe_call (ok_need_notices T) (hr.mono (by decide)) rfl T.g_need_notices T.F_need_notices.kp T.b_need_notices .nil pass0 (pa_cons (pv 2) (pa_cons (pe_fldK K (pv 1) rfl) pa_nil))))
    (pss_one (ps_ret (pe_tup (pa_cons (pv 2) (pa_cons (pe_fldK K (pv 1) rfl) pa_nil)))))))))), ?_⟩
  exact (snd_seq (snd_set (i := 1) (snd_make (c := 0) (dvs := []) snd_nil nod den_len))
    (snd_seq (snd_for (mb := m_read_1) (snd_ienS (snd_cons (snd_tM1 snd_mSplit (snd_nm 0) snd_str) snd_nil)) (snd_gtup (n := 2) (snd_gcons (snd_gname (i := 3)) (snd_gcons (snd_gname (i := 4)) snd_gnil))) (snd_expr (snd_meth (c := 0) (dvs := []) (snd_nm 1) (snd_cons (snd_tM1 snd_mSplit (snd_nm 4) snd_str) (snd_cons (snd_nm 3) snd_nil)) nod den_len)))
    (snd_seq (snd_set (i := 2) (snd_cb snd_tuple (snd_cons (snd_lcC (snd_iC (snd_fld (c := 0) T.x_Reader_found (snd_nm 1))) (snd_gname (i := 5)) snd_yes (snd_tup (snd_cons (snd_cb snd_tuple (snd_cons (snd_op snd_ix (snd_nm 5) snd_int) snd_nil)) (snd_cons (snd_op snd_ix (snd_nm 5) snd_int) (snd_cons (snd_cb snd_tuple (snd_cons (snd_op snd_ix (snd_nm 5) snd_int) snd_nil)) (snd_cons (snd_op snd_ix (snd_nm 5) snd_int) (snd_cons (snd_op snd_ix (snd_nm 5) snd_int) snd_nil)))))) (by decide)) snd_nil)))
    (snd_seq (snd_expr (snd_call (dvs := []) (snd_cons (snd_nm 2) snd_nil) nod den_len))
    (snd_seq (snd_expr (snd_call (dvs := []) (snd_cons (snd_nm 2) (snd_cons (snd_fld (c := 0) T.x_Reader_notices (snd_nm 1)) snd_nil)) nod den_len))
    (snd_ret (snd_tup (snd_cons (snd_nm 2) (snd_cons (snd_fld (c := 0) T.x_Reader_notices (snd_nm 1)) snd_nil)))))))))
theorem ok_law_begun (T : Txt K mg A) : FnOk P w K mg base CX0 1 A.f_law_begun A.fd_law_begun ["_law_script"] (spI (gm K A) 1 d_law_begun) := by
  refine fn_I T.F_law_begun sc_law_begun fun cdv A0 outer s H E hr => ?_
  refine ⟨_, (pss_cons (ps_set (i := 1) sc_law_begun.nd rfl (by first | exact Or.inl rfl | exact Or.inr rfl) pe_int)
    (pss_cons (ps_for PassesOwn.never rfl (pi_seqK K (pv 0)) (pg_name (i := 2) sc_law_begun.nd rfl (by first | exact Or.inl rfl | exact Or.inr rfl)) (pss_one (ps_set (i := 1) sc_law_begun.nd rfl (by first | exact Or.inl rfl | exact Or.inr rfl) (pe_op op_mod (pe_op (op_addK K) (pe_op (op_addK K) (pe_op op_mulA (pv 1) pe_int) (pe_op op_mulA (pv 2) pe_int)) pe_int) pe_int))))
    (pss_one (ps_ret (pe_lst (pa_cons (pe_callTy (call_listK K) (by rfl) T.n_list PyProof.Rows.boot_list (pa_cons (pv 0) pa_nil)) (pa_cons (pe_op op_mulA (pv 1) (pe_callTy call_intA (by rfl) T.n_int PyProof.Rows.boot_int (pa_cons (pe_cmpR op_gt (pe_callB (call_lenK K) (by rfl) T.n_len PySem.boot_len (pa_cons (pv 0) pa_nil)) pe_int (nomark _)) pa_nil))) pa_nil))))))), ?_⟩
  exact (snd_seq (snd_set (i := 1) snd_int)
    (snd_seq (snd_for (mb := m_law_begun_1) (snd_iseq (snd_nm 0)) (snd_gname (i := 2)) (snd_set (i := 1) (snd_op snd_mod (snd_op snd_add (snd_op snd_add (snd_op snd_mul (snd_nm 1) snd_int) (snd_op snd_mul (snd_nm 2) snd_int)) snd_int) snd_int)))
    (snd_ret (snd_lst (snd_cons (snd_box (snd_cb snd_list (snd_cons (snd_nm 0) snd_nil))) (snd_cons (snd_op snd_mul (snd_nm 1) (snd_cb snd_fint (snd_cons (snd_op snd_gt (snd_cb snd_len (snd_cons (snd_nm 0) snd_nil)) snd_int) snd_nil))) snd_nil))))))
theorem okr_law_alike (T : Txt K mg A) : ∀ n : Nat, FnOk P w K mg base CX0 (1 + n) A.f_law_alike A.fd_law_alike ["_law_found", "_law_due"] (spI (gm K A) 2 (dr_law_alike n))
  | 0 => fn_0 T.F_law_alike sc_law_alike
  | n + 1 => by
    have hn : ∀ ds S w S', dr_law_alike n ds S = some (w, S') → ds.length = 2 := by cases n with | zero => exact fun _ _ _ _ e => by cases e | succ n => exact den_len
    refine fn_I T.F_law_alike sc_law_alike fun cdv A0 outer s H E hr => ?_
    have ih := okr_law_alike T n
    generalize dr_law_alike n = fr at ih hn ⊢
    refine ⟨_, (pss_cons (ps_if (pt_cmpR op_isN (pv 1) pe_non (nomark _)) (pss_one (ps_ret (pe_cmpR op_isN (pv 0) pe_non (nomark _)))) pss_nil)
    (pss_cons (ps_if (pt_val (pe_callB (call_isiK K) (by rfl) T.n_isinstance PyProof.Rows.boot_isinstance (pa_cons (pv 1) (pa_cons (pe_bltn (v := .ty "bool") (by rfl) T.n_bool PyProof.Rows.boot_bool rfl) pa_nil)))) (pss_one (ps_ret (pe_and (pe_callB (call_isiK K) (by rfl) T.n_isinstance PyProof.Rows.boot_isinstance (pa_cons (pv 0) (pa_cons (pe_bltn (v := .ty "bool") (by rfl) T.n_bool PyProof.Rows.boot_bool rfl) pa_nil))) (pe_one (pe_cmpR (op_eqK K hr.units) (pv 0) (pv 1) (nomark _)))))) pss_nil)
    (pss_cons (ps_if (pt_val (pe_callB (call_isiK K) (by rfl) T.n_isinstance PyProof.Rows.boot_isinstance (pa_cons (pv 1) (pa_cons (pe_bltn (v := .ty "int") (by rfl) T.n_int PyProof.Rows.boot_int rfl) pa_nil)))) (pss_one (ps_ret (pe_and (pe_callB (call_isiK K) (by rfl) T.n_isinstance PyProof.Rows.boot_isinstance (pa_cons (pv 0) (pa_cons (pe_bltn (v := .ty "int") (by rfl) T.n_int PyProof.Rows.boot_int rfl) pa_nil))) (pe_and (pe_not (pe_callB (call_isiK K) (by rfl) T.n_isinstance PyProof.Rows.boot_isinstance (pa_cons (pv 0) (pa_cons (pe_bltn (v := .ty "bool") (by rfl) T.n_bool PyProof.Rows.boot_bool rfl) pa_nil)))) (pe_one (pe_cmpR (op_eqK K hr.units) (pv 0) (pv 1) (nomark _))))))) pss_nil)
    (pss_cons (ps_if (pt_val (pe_callB (call_isiK K) (by rfl) T.n_isinstance PyProof.Rows.boot_isinstance (pa_cons (pv 1) (pa_cons (pe_bltn (v := .ty "str") (by rfl) T.n_str PyProof.Rows.boot_str rfl) pa_nil)))) (pss_one (ps_ret (pe_and (pe_callB (call_isiK K) (by rfl) T.n_isinstance PyProof.Rows.boot_isinstance (pa_cons (pv 0) (pa_cons (pe_bltn (v := .ty "str") (by rfl) T.n_str PyProof.Rows.boot_str rfl) pa_nil))) (pe_one (pe_cmpR (op_eqK K hr.units) (pv 0) (pv 1) (nomark _)))))) pss_nil)
    (pss_cons (ps_if (PW.pt (pw_or (pt_cmpR (op_neK K hr.units) (pe_callB (call_isiK K) (by rfl) T.n_isinstance PyProof.Rows.boot_isinstance (pa_cons (pv 1) (pa_cons (pe_bltn (v := .ty "tuple") (by rfl) T.n_tuple PyProof.Rows.boot_tuple rfl) pa_nil))) (pe_callB (call_isiK K) (by rfl) T.n_isinstance PyProof.Rows.boot_isinstance (pa_cons (pv 0) (pa_cons (pe_bltn (v := .ty "tuple") (by rfl) T.n_tuple PyProof.Rows.boot_tuple rfl) pa_nil))) (nomark _)) (pw_or1 (pt_cmpR (op_neK K hr.units) (pe_callB (call_isiK K) (by rfl) T.n_isinstance PyProof.Rows.boot_isinstance (pa_cons (pv 1) (pa_cons (pe_bltn (v := .ty "list") (by rfl) T.n_list PyProof.Rows.boot_list rfl) pa_nil))) (pe_callB (call_isiK K) (by rfl) T.n_isinstance PyProof.Rows.boot_isinstance (pa_cons (pv 0) (pa_cons (pe_bltn (v := .ty "list") (by rfl) T.n_list PyProof.Rows.boot_list rfl) pa_nil))) (nomark _))))) (pss_one (ps_ret pe_bl)) pss_nil)
    (pss_cons (ps_if (pt_cmpR (op_neK K hr.units) (pe_callB (call_lenK K) (by rfl) T.n_len PySem.boot_len (pa_cons (pv 0) pa_nil)) (pe_callB (call_lenK K) (by rfl) T.n_len PySem.boot_len (pa_cons (pv 1) pa_nil)) (nomark _)) (pss_one (ps_ret pe_bl)) pss_nil)
    (pss_cons (ps_for PassesOwn.never rfl (pi_range1 (by rfl) T.n_range (pa_cons (pe_callB (call_lenK K) (by rfl) T.n_len PySem.boot_len (pa_cons (pv 1) pa_nil)) pa_nil)) (pg_name (i := 2) sc_law_alike.nd rfl (by first | exact Or.inl rfl | exact Or.inr rfl)) (pss_one (ps_if (pt_not (pt_val (pe_call ih (hr.mono (Nat.le_refl _)) rfl T.g_law_alike T.F_law_alike.kp T.b_law_alike .nil pass0 (pa_cons (pe_ix (ix_seqK K) (pv 0) (pv 2) (fun _ _ => rfl)) (pa_cons (pe_ix (ix_seqK K) (pv 1) (pv 2) (fun _ _ => rfl)) pa_nil))))) (pss_one (ps_ret pe_bl)) pss_nil)))
    (pss_one (ps_ret pe_bl))))))))), ?_⟩
    exact (snd_seq (snd_ifS (snd_test (snd_op snd_isN (snd_nm 1) snd_non)) (snd_ret (snd_op snd_isN (snd_nm 0) snd_non)) snd_next)
    (snd_seq (snd_ifS (snd_tB (snd_cb snd_isi (snd_cons (snd_nm 1) (snd_cons snd_ty snd_nil)))) (snd_ret (snd_andV (snd_cb snd_isi (snd_cons (snd_nm 0) (snd_cons snd_ty snd_nil))) (snd_op snd_eq (snd_nm 0) (snd_nm 1)))) snd_next)
    (snd_seq (snd_ifS (snd_tB (snd_cb snd_isi (snd_cons (snd_nm 1) (snd_cons snd_ty snd_nil)))) (snd_ret (snd_andV (snd_cb snd_isi (snd_cons (snd_nm 0) (snd_cons snd_ty snd_nil))) (snd_andV (snd_notV (snd_cb snd_isi (snd_cons (snd_nm 0) (snd_cons snd_ty snd_nil)))) (snd_op snd_eq (snd_nm 0) (snd_nm 1))))) snd_next)
    (snd_seq (snd_ifS (snd_tB (snd_cb snd_isi (snd_cons (snd_nm 1) (snd_cons snd_ty snd_nil)))) (snd_ret (snd_andV (snd_cb snd_isi (snd_cons (snd_nm 0) (snd_cons snd_ty snd_nil))) (snd_op snd_eq (snd_nm 0) (snd_nm 1)))) snd_next)
    (snd_seq (snd_ifS (snd_or (snd_test (snd_op snd_ne (snd_cb snd_isi (snd_cons (snd_nm 1) (snd_cons snd_ty snd_nil))) (snd_cb snd_isi (snd_cons (snd_nm 0) (snd_cons snd_ty snd_nil))))) (snd_test (snd_op snd_ne (snd_cb snd_isi (snd_cons (snd_nm 1) (snd_cons snd_ty snd_nil))) (snd_cb snd_isi (snd_cons (snd_nm 0) (snd_cons snd_ty snd_nil)))))) (snd_ret snd_bl) snd_next)
    (snd_seq (snd_ifS (snd_test (snd_op snd_ne (snd_cb snd_len (snd_cons (snd_nm 0) snd_nil)) (snd_cb snd_len (snd_cons (snd_nm 1) snd_nil)))) (snd_ret snd_bl) snd_next)
    (snd_seq (snd_for (mb := m_law_alike_1 fr) (snd_ir1 (snd_cons (snd_cb snd_len (snd_cons (snd_nm 1) snd_nil)) snd_nil)) (snd_gname (i := 2)) (snd_ifS (snd_not (snd_tB (snd_call (dvs := []) (snd_cons (snd_op snd_ix (snd_nm 0) (snd_nm 2)) (snd_cons (snd_op snd_ix (snd_nm 1) (snd_nm 2)) snd_nil)) nod hn))) (snd_ret snd_bl) snd_next))
    (snd_ret snd_bl))))))))
theorem d_law_alike_len : ∀ ds S w S', d_law_alike ds S = some (w, S') → ds.length = 2 := den_len
theorem ok_law_alike (T : Txt K mg A) : FnOk P w K mg base CX0 9 A.f_law_alike A.fd_law_alike ["_law_found", "_law_due"] (spI (gm K A) 2 d_law_alike) := okr_law_alike T 8
theorem ok_law_take (T : Txt K mg A) : FnOk P w K mg base CX0 1 A.f_law_take A.fd_law_take ["_law_box", "_law_many"] (spI (gm K A) 2 d_law_take) := by
  refine fn_I T.F_law_take sc_law_take fun cdv A0 outer s H E hr => ?_
  refine ⟨_, (pss_cons (ps_if (pt_cmpR (op_eqK K hr.units) (pe_ix (ix_seqK K) (pv 0) pe_int (fun _ _ => rfl)) (pe_lst pa_nil) (nomark _)) (pss_cons (ps_asg (pe_op op_mod (pe_op op_mulA (pe_ix (ix_seqK K) (pv 0) pe_int (fun _ _ => rfl)) pe_int) pe_int) (pg_sub (pv 0) pe_int set_list (fun _ => rfl)))
    (pss_one (ps_ret (pe_op op_mod (pe_op op_fdivW (pe_ix (ix_seqK K) (pv 0) pe_int (fun _ _ => rfl)) pe_int) (pv 1))))) pss_nil)
    (pss_cons (ps_set (i := 2) sc_law_take.nd rfl (by first | exact Or.inl rfl | exact Or.inr rfl) (pe_ix (ix_seqK K) (pe_ix (ix_seqK K) (pv 0) pe_int (fun _ _ => rfl)) pe_int (fun _ _ => rfl)))
    (pss_cons (ps_asg (pe_op op_fdivW (pv 2) (pv 1)) (pg_sub (pe_ix (ix_seqK K) (pv 0) pe_int (fun _ _ => rfl)) pe_int set_list (fun _ => rfl)))
    (pss_cons (ps_if (PW.pt (pw_or (pt_cmpR (op_eqK K hr.units) (pe_ix (ix_seqK K) (pe_ix (ix_seqK K) (pv 0) pe_int (fun _ _ => rfl)) pe_int (fun _ _ => rfl)) pe_int (nomark _)) (pw_or1 (pt_cmpR (op_eqK K hr.units) (pe_ix (ix_seqK K) (pe_ix (ix_seqK K) (pv 0) pe_int (fun _ _ => rfl)) pe_int (fun _ _ => rfl)) (pe_un un_neg pe_int) (nomark _))))) (pss_one (ps_expr (pe_bmK K PySem.F.plainAttrs_list PySem.F.slot_list_pop PySem.F.type_list_pop mt_popAt (pe_ix (ix_seqK K) (pv 0) pe_int (fun _ _ => rfl)) (pa_cons pe_int pa_nil)))) pss_nil)
    (pss_one (ps_ret (pe_op op_mod (pv 2) (pv 1)))))))), ?_⟩
  exact (snd_seq (snd_ifS (snd_test (snd_op snd_eq (snd_op snd_ix (snd_nm 0) snd_int) (snd_lst snd_nil))) (snd_seq (snd_setIx (snd_nm 0) snd_int (snd_op snd_mod (snd_op snd_mul (snd_op snd_ix (snd_nm 0) snd_int) snd_int) snd_int))
    (snd_ret (snd_op snd_mod (snd_op snd_div (snd_op snd_ix (snd_nm 0) snd_int) snd_int) (snd_nm 1)))) snd_next)
    (snd_seq (snd_set (i := 2) (snd_op snd_ix (snd_op snd_ix (snd_nm 0) snd_int) snd_int))
    (snd_seq (snd_setIx (snd_op snd_ix (snd_nm 0) snd_int) snd_int (snd_op snd_div (snd_nm 2) (snd_nm 1)))
    (snd_seq (snd_ifS (snd_or (snd_test (snd_op snd_eq (snd_op snd_ix (snd_op snd_ix (snd_nm 0) snd_int) snd_int) snd_int)) (snd_test (snd_op snd_eq (snd_op snd_ix (snd_op snd_ix (snd_nm 0) snd_int) snd_int) (snd_un snd_neg snd_int)))) (snd_expr (snd_bm ty_lst snd_mPopAt (snd_op snd_ix (snd_nm 0) snd_int) (snd_cons snd_int snd_nil))) snd_next)
    (snd_ret (snd_op snd_mod (snd_nm 2) (snd_nm 1)))))))
theorem ok_law_stretches (T : Txt K mg A) : FnOk P w K mg base CX0 2 A.f_law_stretches A.fd_law_stretches ["_law_box"] (spI (gm K A) 1 d_law_stretches) := by
  refine fn_I T.F_law_stretches sc_law_stretches fun cdv A0 outer s H E hr => ?_
  refine ⟨_, (pss_cons (ps_set (i := 1) sc_law_stretches.nd rfl (by first | exact Or.inl rfl | exact Or.inr rfl) (pe_lst pa_nil))
    (pss_cons (ps_for PassesOwn.never rfl (pi_range1 (by rfl) T.n_range (pa_cons (pe_call (ok_law_take T) (hr.mono (by decide)) rfl T.g_law_take T.F_law_take.kp T.b_law_take .nil pass0 (pa_cons (pv 0) (pa_cons pe_int pa_nil))) pa_nil)) (pg_name (i := 2) sc_law_stretches.nd rfl (by first | exact Or.inl rfl | exact Or.inr rfl)) (pss_cons (ps_set (i := 3) sc_law_stretches.nd rfl (by first | exact Or.inl rfl | exact Or.inr rfl) (pe_call (ok_law_take T) (hr.mono (by decide)) rfl T.g_law_take T.F_law_take.kp T.b_law_take .nil pass0 (pa_cons (pv 0) (pa_cons pe_int pa_nil))))
    (pss_one (ps_expr (pe_bmK K PySem.F.plainAttrs_list PySem.F.slot_list_append PySem.F.type_list_append mt_append (pv 1) (pa_cons (pe_tup (pa_cons (pv 3) (pa_cons (pe_op op_mod (pe_op (op_addK K) (pe_op (op_addK K) (pv 3) pe_int) (pe_call (ok_law_take T) (hr.mono (by decide)) rfl T.g_law_take T.F_law_take.kp T.b_law_take .nil pass0 (pa_cons (pv 0) (pa_cons (pe_ix (ix_seqK K) (pe_lst (pa_cons pe_int (pa_cons pe_int pa_nil))) (pe_call (ok_law_take T) (hr.mono (by decide)) rfl T.g_law_take T.F_law_take.kp T.b_law_take .nil pass0 (pa_cons (pv 0) (pa_cons pe_int pa_nil))) (fun _ _ => rfl)) pa_nil)))) pe_int) pa_nil))) pa_nil))))))
    (pss_one (ps_ret (pe_callTy (call_tupleK K) (by rfl) T.n_tuple PyProof.Rows.boot_tuple (pa_cons (pv 1) pa_nil)))))), ?_⟩
  exact (snd_seq (snd_set (i := 1) (snd_lst snd_nil))
    (snd_seq (snd_for (mb := m_law_stretches_1) (snd_ir1 (snd_cons (snd_call (dvs := []) (snd_cons (snd_nm 0) (snd_cons snd_int snd_nil)) nod den_len) snd_nil)) (snd_gname (i := 2)) (snd_seq (snd_set (i := 3) (snd_call (dvs := []) (snd_cons (snd_nm 0) (snd_cons snd_int snd_nil)) nod den_len))
    (snd_appO (i := 1) (snd_tup (snd_cons (snd_nm 3) (snd_cons (snd_op snd_mod (snd_op snd_add (snd_op snd_add (snd_nm 3) snd_int) (snd_call (dvs := []) (snd_cons (snd_nm 0) (snd_cons (snd_op snd_ix (snd_lst (snd_cons snd_int (snd_cons snd_int snd_nil))) (snd_call (dvs := []) (snd_cons (snd_nm 0) (snd_cons snd_int snd_nil)) nod den_len)) snd_nil)) nod den_len)) snd_int) snd_nil))))))
    (snd_frz 1 (snd_ret (snd_cb snd_tuple (snd_cons (snd_nm 1) snd_nil))))))
theorem ok_law_rule (T : Txt K mg A) : FnOk P w K mg base CX0 3 A.f_law_rule A.fd_law_rule ["_law_box", "_law_many"] (spI (gm K A) 2 d_law_rule) := by
  refine fn_I T.F_law_rule sc_law_rule fun cdv A0 outer s H E hr => ?_
  refine ⟨_, (pss_cons (ps_set (i := 2) sc_law_rule.nd rfl (by first | exact Or.inl rfl | exact Or.inr rfl) (pe_lst pa_nil))
    (pss_cons (ps_for PassesOwn.never rfl (pi_range1 (by rfl) T.n_range (pa_cons pe_int pa_nil)) (pg_name (i := 3) sc_law_rule.nd rfl (by first | exact Or.inl rfl | exact Or.inr rfl)) (pss_one (ps_if (PW.pt (pw_and (pt_cmpR op_lt (pe_callB (call_lenK K) (by rfl) T.n_len PySem.boot_len (pa_cons (pv 2) pa_nil)) pe_int (nomark _)) (pw_and1 (pt_cmpR (op_eqK K hr.units) (pe_call (ok_law_take T) (hr.mono (by decide)) rfl T.g_law_take T.F_law_take.kp T.b_law_take .nil pass0 (pa_cons (pv 0) (pa_cons pe_int pa_nil))) pe_int (nomark _))))) (pss_one (ps_expr (pe_bmK K PySem.F.plainAttrs_list PySem.F.slot_list_append PySem.F.type_list_append mt_append (pv 2) (pa_cons (pe_tup (pa_cons (pv 3) (pa_cons (pe_op (op_addK K) pe_int (pe_call (ok_law_take T) (hr.mono (by decide)) rfl T.g_law_take T.F_law_take.kp T.b_law_take .nil pass0 (pa_cons (pv 0) (pa_cons (pe_ix (ix_seqK K) (pe_lst (pa_cons pe_int (pa_cons pe_int pa_nil))) (pe_call (ok_law_take T) (hr.mono (by decide)) rfl T.g_law_take T.F_law_take.kp T.b_law_take .nil pass0 (pa_cons (pv 0) (pa_cons pe_int pa_nil))) (fun _ _ => rfl)) pa_nil)))) pa_nil))) pa_nil)))) pss_nil)))
    (pss_cons (ps_set (i := 4) sc_law_rule.nd rfl (by first | exact Or.inl rfl | exact Or.inr rfl) (pe_ix (ix_seqK K) (pe_lst (pa_cons pe_non (pa_cons (pe_op (op_addK K) pe_int (pe_call (ok_law_take T) (hr.mono (by decide)) rfl T.g_law_take T.F_law_take.kp T.b_law_take .nil pass0 (pa_cons (pv 0) (pa_cons (pe_ix (ix_seqK K) (pe_lst (pa_cons pe_int (pa_cons pe_int pa_nil))) (pe_call (ok_law_take T) (hr.mono (by decide)) rfl T.g_law_take T.F_law_take.kp T.b_law_take .nil pass0 (pa_cons (pv 0) (pa_cons pe_int pa_nil))) (fun _ _ => rfl)) pa_nil)))) (pa_cons pe_int pa_nil)))) (pe_call (ok_law_take T) (hr.mono (by decide)) rfl T.g_law_take T.F_law_take.kp T.b_law_take .nil pass0 (pa_cons (pv 0) (pa_cons pe_int pa_nil))) (fun _ _ => rfl)))
    (pss_cons (ps_set (i := 5) sc_law_rule.nd rfl (by first | exact Or.inl rfl | exact Or.inr rfl) (pe_ix (ix_seqK K) (pe_lst (pa_cons pe_non (pa_cons (pe_call (ok_law_take T) (hr.mono (by decide)) rfl T.g_law_take T.F_law_take.kp T.b_law_take .nil pass0 (pa_cons (pv 0) (pa_cons (pv 1) pa_nil))) (pa_cons (pe_call (ok_law_take T) (hr.mono (by decide)) rfl T.g_law_take T.F_law_take.kp T.b_law_take .nil pass0 (pa_cons (pv 0) (pa_cons (pv 1) pa_nil))) pa_nil)))) (pe_call (ok_law_take T) (hr.mono (by decide)) rfl T.g_law_take T.F_law_take.kp T.b_law_take .nil pass0 (pa_cons (pv 0) (pa_cons pe_int pa_nil))) (fun _ _ => rfl)))
    (pss_one (ps_ret (pe_tup (pa_cons (pe_call (ok_law_stretches T) (hr.mono (by decide)) rfl T.g_law_stretches T.F_law_stretches.kp T.b_law_stretches .nil pass0 (pa_cons (pv 0) pa_nil)) (pa_cons (pe_call (ok_law_take T) (hr.mono (by decide)) rfl T.g_law_take T.F_law_take.kp T.b_law_take .nil pass0 (pa_cons (pv 0) (pa_cons pe_int pa_nil))) (pa_cons (pe_callTy (call_tupleK K) (by rfl) T.n_tuple PyProof.Rows.boot_tuple (pa_cons (pv 2) pa_nil)) (pa_cons (pv 4) (pa_cons (pv 5) pa_nil)))))))))))), ?_⟩
  exact (snd_seq (snd_set (i := 2) (snd_lst snd_nil))
    (snd_seq (snd_for (mb := m_law_rule_1) (snd_ir1 (snd_cons snd_int snd_nil)) (snd_gname (i := 3)) (snd_ifS (snd_and (snd_test (snd_op snd_lt (snd_oLen (i := 2)) snd_int)) (snd_test (snd_op snd_eq (snd_call (dvs := []) (snd_cons (snd_nm 0) (snd_cons snd_int snd_nil)) nod den_len) snd_int))) (snd_appO (i := 2) (snd_tup (snd_cons (snd_nm 3) (snd_cons (snd_op snd_add snd_int (snd_call (dvs := []) (snd_cons (snd_nm 0) (snd_cons (snd_op snd_ix (snd_lst (snd_cons snd_int (snd_cons snd_int snd_nil))) (snd_call (dvs := []) (snd_cons (snd_nm 0) (snd_cons snd_int snd_nil)) nod den_len)) snd_nil)) nod den_len)) snd_nil)))) snd_next))
    (snd_seq (snd_set (i := 4) (snd_op snd_ix (snd_lst (snd_cons snd_non (snd_cons (snd_op snd_add snd_int (snd_call (dvs := []) (snd_cons (snd_nm 0) (snd_cons (snd_op snd_ix (snd_lst (snd_cons snd_int (snd_cons snd_int snd_nil))) (snd_call (dvs := []) (snd_cons (snd_nm 0) (snd_cons snd_int snd_nil)) nod den_len)) snd_nil)) nod den_len)) (snd_cons snd_int snd_nil)))) (snd_call (dvs := []) (snd_cons (snd_nm 0) (snd_cons snd_int snd_nil)) nod den_len)))
    (snd_seq (snd_set (i := 5) (snd_op snd_ix (snd_lst (snd_cons snd_non (snd_cons (snd_call (dvs := []) (snd_cons (snd_nm 0) (snd_cons (snd_nm 1) snd_nil)) nod den_len) (snd_cons (snd_call (dvs := []) (snd_cons (snd_nm 0) (snd_cons (snd_nm 1) snd_nil)) nod den_len) snd_nil)))) (snd_call (dvs := []) (snd_cons (snd_nm 0) (snd_cons snd_int snd_nil)) nod den_len)))
    (snd_frz 2 (snd_ret (snd_tup (snd_cons (snd_call (dvs := []) (snd_cons (snd_nm 0) snd_nil) nod den_len) (snd_cons (snd_call (dvs := []) (snd_cons (snd_nm 0) (snd_cons snd_int snd_nil)) nod den_len) (snd_cons (snd_cb snd_tuple (snd_cons (snd_nm 2) snd_nil)) (snd_cons (snd_nm 4) (snd_cons (snd_nm 5) snd_nil))))))))))))
theorem ok_law_rules (T : Txt K mg A) : FnOk P w K mg base CX0 4 A.f_law_rules A.fd_law_rules ["_law_box"] (spI (gm K A) 1 d_law_rules) := by
  refine fn_I T.F_law_rules sc_law_rules fun cdv A0 outer s H E hr => ?_
  refine ⟨_, (pss_cons (ps_set (i := 1) sc_law_rules.nd rfl (by first | exact Or.inl rfl | exact Or.inr rfl) (pe_op (op_addK K) pe_int (pe_call (ok_law_take T) (hr.mono (by decide)) rfl T.g_law_take T.F_law_take.kp T.b_law_take .nil pass0 (pa_cons (pv 0) (pa_cons pe_int pa_nil)))))
    (pss_one (ps_ret (pe_callTy (call_tupleK K) (by rfl) T.n_tuple PyProof.Rows.boot_tuple (pa_cons (pe_lc (own := [("_law_person", 2)]) rfl sc_law_rules.nd (pi_range1 (by rfl) T.n_range (pa_cons (pv 1) pa_nil)) (blkOk_by (N := n_law_rules) (sc := defScope s_law_rules) (own := [("_law_person", 2)]) (by decide +kernel)) (fun _ _ _ _ _ => (pg_name (i := 2) sc_law_rules.nd rfl (by first | exact Or.inl rfl | exact Or.inr rfl))) (fun _ _ _ _ _ => pts_nil) (fun _ _ _ _ _ => (pe_call (ok_law_rule T) (hr.mono (by decide)) rfl T.g_law_rule T.F_law_rule.kp T.b_law_rule .nil pass0 (pa_cons (pv 0) (pa_cons (pv 1) pa_nil))))) pa_nil))))), ?_⟩
  exact (snd_seq (snd_set (i := 1) (snd_op snd_add snd_int (snd_call (dvs := []) (snd_cons (snd_nm 0) (snd_cons snd_int snd_nil)) nod den_len)))
    (snd_ret (snd_cb snd_tuple (snd_cons (snd_lc (snd_ir1 (snd_cons (snd_nm 1) snd_nil)) (snd_gname (i := 2)) snd_yes (snd_call (dvs := []) (snd_cons (snd_nm 0) (snd_cons (snd_nm 1) snd_nil)) nod den_len) (by decide)) snd_nil))))
theorem ok_law_notices (T : Txt K mg A) : FnOk P w K mg base CX0 2 A.f_law_notices A.fd_law_notices ["_law_box", "_law_rules_here", "_law_most"] (spI (gm K A) 3 d_law_notices) := by
  refine fn_I T.F_law_notices sc_law_notices fun cdv A0 outer s H E hr => ?_
  refine ⟨_, (pss_cons (ps_par3 (i := 4) (j := 5) (l := 6) rfl sc_law_notices.nd rfl rfl rfl (by decide) (by decide) (by decide) rfl rfl rfl (pa_cons (pe_lst pa_nil) (pa_cons (pe_call (ok_law_take T) (hr.mono (by decide)) rfl T.g_law_take T.F_law_take.kp T.b_law_take .nil pass0 (pa_cons (pv 0) (pa_cons pe_int pa_nil))) (pa_cons (pe_ix (ix_seqK K) (pe_lst (pa_cons pe_int (pa_cons pe_int pa_nil))) (pe_call (ok_law_take T) (hr.mono (by decide)) rfl T.g_law_take T.F_law_take.kp T.b_law_take .nil pass0 (pa_cons (pv 0) (pa_cons pe_int pa_nil))) (fun _ _ => rfl)) pa_nil))) (by rfl))
    (pss_cons (ps_for PassesOwn.never rfl (pi_range1 (by rfl) T.n_range (pa_cons (pe_call (ok_law_take T) (hr.mono (by decide)) rfl T.g_law_take T.F_law_take.kp T.b_law_take .nil pass0 (pa_cons (pv 0) (pa_cons (pe_op (op_addK K) (pv 2) pe_int) pa_nil))) pa_nil)) (pg_name (i := 3) sc_law_notices.nd rfl (by first | exact Or.inl rfl | exact Or.inr rfl)) (pss_cons (ps_set (i := 5) sc_law_notices.nd rfl (by first | exact Or.inl rfl | exact Or.inr rfl) (pe_callB (call_minK K rfl) (by rfl) T.n_min PyProof.Rows.boot_min (pa_cons pe_int (pa_cons (pe_op (op_addK K) (pv 5) (pe_call (ok_law_take T) (hr.mono (by decide)) rfl T.g_law_take T.F_law_take.kp T.b_law_take .nil pass0 (pa_cons (pv 0) (pa_cons (pe_ix (ix_seqK K) (pe_lst (pa_cons pe_int (pa_cons pe_int (pa_cons pe_int pa_nil)))) (pe_call (ok_law_take T) (hr.mono (by decide)) rfl T.g_law_take T.F_law_take.kp T.b_law_take .nil pass0 (pa_cons (pv 0) (pa_cons pe_int pa_nil))) (fun _ _ => rfl)) pa_nil)))) pa_nil))))
    (pss_one (ps_expr (pe_bmK K PySem.F.plainAttrs_list PySem.F.slot_list_append PySem.F.type_list_append mt_append (pv 4) (pa_cons (pe_tup (pa_cons (pe_call (ok_law_take T) (hr.mono (by decide)) rfl T.g_law_take T.F_law_take.kp T.b_law_take .nil pass0 (pa_cons (pv 0) (pa_cons (pe_callB (call_lenK K) (by rfl) T.n_len PySem.boot_len (pa_cons (pv 1) pa_nil)) pa_nil))) (pa_cons (pe_call (ok_law_take T) (hr.mono (by decide)) rfl T.g_law_take T.F_law_take.kp T.b_law_take .nil pass0 (pa_cons (pv 0) (pa_cons pe_int pa_nil))) (pa_cons (pe_call (ok_law_take T) (hr.mono (by decide)) rfl T.g_law_take T.F_law_take.kp T.b_law_take .nil pass0 (pa_cons (pv 0) (pa_cons (pv 6) pa_nil))) (pa_cons (pv 5) pa_nil))))) pa_nil))))))
    (pss_one (ps_ret (pv 4))))), ?_⟩
  exact (snd_seq (snd_par3 (i := 4) (j := 5) (l := 6) (snd_lst snd_nil) (snd_call (dvs := []) (snd_cons (snd_nm 0) (snd_cons snd_int snd_nil)) nod den_len) (snd_op snd_ix (snd_lst (snd_cons snd_int (snd_cons snd_int snd_nil))) (snd_call (dvs := []) (snd_cons (snd_nm 0) (snd_cons snd_int snd_nil)) nod den_len)))
    (snd_seq (snd_for (mb := m_law_notices_1) (snd_ir1 (snd_cons (snd_call (dvs := []) (snd_cons (snd_nm 0) (snd_cons (snd_op snd_add (snd_nm 2) snd_int) snd_nil)) nod den_len) snd_nil)) (snd_gname (i := 3)) (snd_seq (snd_set (i := 5) (snd_cb snd_min (snd_cons snd_int (snd_cons (snd_op snd_add (snd_nm 5) (snd_call (dvs := []) (snd_cons (snd_nm 0) (snd_cons (snd_op snd_ix (snd_lst (snd_cons snd_int (snd_cons snd_int (snd_cons snd_int snd_nil)))) (snd_call (dvs := []) (snd_cons (snd_nm 0) (snd_cons snd_int snd_nil)) nod den_len)) snd_nil)) nod den_len)) snd_nil))))
    (snd_appO (i := 4) (snd_tup (snd_cons (snd_call (dvs := []) (snd_cons (snd_nm 0) (snd_cons (snd_cb snd_len (snd_cons (snd_nm 1) snd_nil)) snd_nil)) nod den_len) (snd_cons (snd_call (dvs := []) (snd_cons (snd_nm 0) (snd_cons snd_int snd_nil)) nod den_len) (snd_cons (snd_call (dvs := []) (snd_cons (snd_nm 0) (snd_cons (snd_nm 6) snd_nil)) nod den_len) (snd_cons (snd_nm 5) snd_nil))))))))
    (snd_retO 4)))
theorem ok_law_text (T : Txt K mg A) : FnOk P w K mg base CX0 1 A.f_law_text A.fd_law_text ["_law_rules_here", "_law_notices_here"] (spI (gm K A) 2 d_law_text) := by
  refine fn_I T.F_law_text sc_law_text fun cdv A0 outer s H E hr => ?_
  refine ⟨_, (pss_cons (ps_set (i := 2) sc_law_text.nd rfl (by first | exact Or.inl rfl | exact Or.inr rfl) (pe_lst pa_nil))
    (pss_cons (ps_for PassesOwn.never rfl (pi_seqK K (pv 0)) (pg_tupK (n := 5) K rfl (pgs_cons (pg_name (i := 3) sc_law_text.nd rfl (by first | exact Or.inl rfl | exact Or.inr rfl)) (pgs_cons (pg_name (i := 4) sc_law_text.nd rfl (by first | exact Or.inl rfl | exact Or.inr rfl)) (pgs_cons (pg_name (i := 5) sc_law_text.nd rfl (by first | exact Or.inl rfl | exact Or.inr rfl)) (pgs_cons (pg_name (i := 6) sc_law_text.nd rfl (by first | exact Or.inl rfl | exact Or.inr rfl)) (pgs_cons (pg_name (i := 7) sc_law_text.nd rfl (by first | exact Or.inl rfl | exact Or.inr rfl)) pgs_nil)))))) (pss_cons (ps_setLc (i := 8) (own := [("_law_part", 9)]) rfl sc_law_text.nd rfl rfl (sw_true rfl rfl rfl (by decide +kernel)) (pi_seqK K (pe_tup (pa_cons (pv 6) (pa_cons (pv 7) pa_nil)))) (blkOk_by (N := n_law_text) (sc := defScope s_law_text) (own := [("_law_part", 9)]) (by decide +kernel)) (fun _ _ _ _ _ => (pg_name (i := 9) sc_law_text.nd rfl (by first | exact Or.inl rfl | exact Or.inr rfl))) (fun _ _ _ _ _ => pts_nil) (fun _ _ _ _ _ => (pe_ifExp (pt_cmpR op_isN (pv 9) pe_non (nomark _)) pe_str (pe_callTy call_str_int (by rfl) T.n_str PyProof.Rows.boot_str (pa_cons (pv 9) pa_nil)))))
    (pss_cons (ps_expr (pe_bmK K PySem.F.plainAttrs_list PySem.F.slot_list_append PySem.F.type_list_append mt_append (pv 2) (pa_cons (pe_op (op_addK K) (pe_op (op_addK K) (pe_op (op_addK K) (pe_op (op_addK K) (pe_op (op_addK K) pe_str (pe_callTy call_str_int (by rfl) T.n_str PyProof.Rows.boot_str (pa_cons (pv 4) pa_nil))) pe_str) (pe_ix (ix_seqK K) (pv 8) pe_int (fun _ _ => rfl))) pe_str) (pe_ix (ix_seqK K) (pv 8) pe_int (fun _ _ => rfl))) pa_nil)))
    (pss_cons (ps_set (i := 2) sc_law_text.nd rfl (by first | exact Or.inl rfl | exact Or.inr rfl) (pe_op (op_addK K) (pv 2) (pe_lc (own := [("_law_begin", 11), ("_law_end", 12)]) rfl sc_law_text.nd (pi_seqK K (pv 3)) (blkOk_by (N := n_law_text) (sc := defScope s_law_text) (own := [("_law_begin", 11), ("_law_end", 12)]) (by decide +kernel)) (fun _ _ _ _ _ => (pg_tupK (n := 2) K rfl (pgs_cons (pg_name (i := 11) sc_law_text.nd rfl (by first | exact Or.inl rfl | exact Or.inr rfl)) (pgs_cons (pg_name (i := 12) sc_law_text.nd rfl (by first | exact Or.inl rfl | exact Or.inr rfl)) pgs_nil)))) (fun _ _ _ _ _ => pts_nil) (fun _ _ _ _ _ => (pe_op (op_addK K) (pe_op (op_addK K) (pe_op (op_addK K) pe_str (pe_callTy call_str_int (by rfl) T.n_str PyProof.Rows.boot_str (pa_cons (pv 11) pa_nil))) pe_str) (pe_callTy call_str_int (by rfl) T.n_str PyProof.Rows.boot_str (pa_cons (pv 12) pa_nil)))))))
    (pss_one (ps_set (i := 2) sc_law_text.nd rfl (by first | exact Or.inl rfl | exact Or.inr rfl) (pe_op (op_addK K) (pv 2) (pe_lc (own := [("_law_kind", 13), ("_law_span", 14)]) rfl sc_law_text.nd (pi_seqK K (pv 5)) (blkOk_by (N := n_law_text) (sc := defScope s_law_text) (own := [("_law_kind", 13), ("_law_span", 14)]) (by decide +kernel)) (fun _ _ _ _ _ => (pg_tupK (n := 2) K rfl (pgs_cons (pg_name (i := 13) sc_law_text.nd rfl (by first | exact Or.inl rfl | exact Or.inr rfl)) (pgs_cons (pg_name (i := 14) sc_law_text.nd rfl (by first | exact Or.inl rfl | exact Or.inr rfl)) pgs_nil)))) (fun _ _ _ _ _ => pts_nil) (fun _ _ _ _ _ => (pe_op (op_addK K) (pe_op (op_addK K) (pe_op (op_addK K) pe_str (pe_callTy call_str_int (by rfl) T.n_str PyProof.Rows.boot_str (pa_cons (pv 13) pa_nil))) pe_str) (pe_callTy call_str_int (by rfl) T.n_str PyProof.Rows.boot_str (pa_cons (pv 14) pa_nil))))))))))))
    (pss_cons (ps_set (i := 2) sc_law_text.nd rfl (by first | exact Or.inl rfl | exact Or.inr rfl) (pe_op (op_addK K) (pv 2) (pe_lc (own := [("_law_notice", 10)]) rfl sc_law_text.nd (pi_seqK K (pv 1)) (blkOk_by (N := n_law_text) (sc := defScope s_law_text) (own := [("_law_notice", 10)]) (by decide +kernel)) (fun _ _ _ _ _ => (pg_name (i := 10) sc_law_text.nd rfl (by first | exact Or.inl rfl | exact Or.inr rfl))) (fun _ _ _ _ _ => pts_nil) (fun _ _ _ _ _ => (pe_op (op_addK K) pe_str (pe_joinK K pe_str (pe_lc (own := [("_law_part", 9)]) rfl sc_law_text.nd (pi_seqK K (pv 10)) (blkOk_by (N := n_law_text) (own := [("_law_part", 9)]) (by kernel_rfl)) (fun _ _ _ _ _ => (pg_name (i := 9) sc_law_text.nd rfl (by first | exact Or.inl rfl | exact Or.inr rfl))) (fun _ _ _ _ _ => pts_nil) (fun _ _ _ _ _ => (pe_callTy call_str_int (by rfl) T.n_str PyProof.Rows.boot_str (pa_cons (pv 9) pa_nil))))))))))
    (pss_one (ps_ret (pe_joinK K pe_str (pv 2))))))), ?_⟩
  exact (snd_seq (snd_set (i := 2) (snd_lst snd_nil))
    (snd_seq (snd_for (mb := m_law_text_1) (snd_iseq (snd_nm 0)) (snd_gtup (n := 5) (snd_gcons (snd_gname (i := 3)) (snd_gcons (snd_gname (i := 4)) (snd_gcons (snd_gname (i := 5)) (snd_gcons (snd_gname (i := 6)) (snd_gcons (snd_gname (i := 7)) snd_gnil)))))) (snd_seq (snd_set (i := 8) (snd_v (snd_d (snd_lc (snd_iseq (snd_tup (snd_cons (snd_nm 6) (snd_cons (snd_nm 7) snd_nil)))) (snd_gname (i := 9)) snd_yes (snd_if (snd_test (snd_op snd_isN (snd_nm 9) snd_non)) snd_str (snd_cb snd_fstr (snd_cons (snd_nm 9) snd_nil))) (by decide)))))
    (snd_seq (snd_appO (i := 2) (snd_op snd_add (snd_op snd_add (snd_op snd_add (snd_op snd_add (snd_op snd_add snd_str (snd_cb snd_fstr (snd_cons (snd_nm 4) snd_nil))) snd_str) (snd_op snd_ix (snd_nm 8) snd_int)) snd_str) (snd_op snd_ix (snd_nm 8) snd_int)))
    (snd_seq (snd_frz 2 (snd_set (i := 2) (snd_op snd_add (snd_nm 2) (snd_lc (snd_iseq (snd_nm 3)) (snd_gtup (n := 2) (snd_gcons (snd_gname (i := 11)) (snd_gcons (snd_gname (i := 12)) snd_gnil))) snd_yes (snd_op snd_add (snd_op snd_add (snd_op snd_add snd_str (snd_cb snd_fstr (snd_cons (snd_nm 11) snd_nil))) snd_str) (snd_cb snd_fstr (snd_cons (snd_nm 12) snd_nil))) (by decide)))))
    (snd_frz 2 (snd_set (i := 2) (snd_op snd_add (snd_nm 2) (snd_lc (snd_iseq (snd_nm 5)) (snd_gtup (n := 2) (snd_gcons (snd_gname (i := 13)) (snd_gcons (snd_gname (i := 14)) snd_gnil))) snd_yes (snd_op snd_add (snd_op snd_add (snd_op snd_add snd_str (snd_cb snd_fstr (snd_cons (snd_nm 13) snd_nil))) snd_str) (snd_cb snd_fstr (snd_cons (snd_nm 14) snd_nil))) (by decide)))))))))
    (snd_seq (snd_frz 2 (snd_set (i := 2) (snd_op snd_add (snd_nm 2) (snd_lc (snd_iseq (snd_nm 1)) (snd_gname (i := 10)) snd_yes (snd_op snd_add snd_str (snd_tM1 snd_mJoin snd_str (snd_lc (snd_iseq (snd_nm 10)) (snd_gname (i := 9)) snd_yes (snd_cb snd_fstr (snd_cons (snd_nm 9) snd_nil)) (by decide)))) (by decide)))))
    (snd_frz 2 (snd_ret (snd_tM1 snd_mJoin snd_str (snd_nm 2)))))))
theorem ok_law (T : Txt K mg A) (pl : ∀ ns : List Int, ns.length ≤ 63 → ∃ S', d_law [.lk ns] [] = some (.d (.bl true), S')) : FnOk P w K mg base CX0 10 A.f_law A.fd_law ["_law_script"] (spLaw K) := by
  refine law_I (G := gm K A) rfl T.F_law sc_law (fun cdv A0 outer s H E hr => ?_) pl
  refine ⟨_, (pss_cons (ps_set (i := 1) sc_law.nd rfl (by first | exact Or.inl rfl | exact Or.inr rfl) (pe_call (ok_law_begun T) (hr.mono (by decide)) rfl T.g_law_begun T.F_law_begun.kp T.b_law_begun .nil pass0 (pa_cons (pv 0) pa_nil)))
    (pss_cons (ps_for PassesOwn.never rfl (pi_range1 (by rfl) T.n_range (pa_cons pe_int pa_nil)) (pg_name (i := 2) sc_law.nd rfl (by first | exact Or.inl rfl | exact Or.inr rfl)) (pss_cons (ps_set (i := 3) sc_law.nd rfl (by first | exact Or.inl rfl | exact Or.inr rfl) (pe_call (ok_law_rules T) (hr.mono (by decide)) rfl T.g_law_rules T.F_law_rules.kp T.b_law_rules .nil pass0 (pa_cons (pv 1) pa_nil)))
    (pss_cons (ps_set (i := 4) sc_law.nd rfl (by first | exact Or.inl rfl | exact Or.inr rfl) (pe_call (ok_law_notices T) (hr.mono (by decide)) rfl T.g_law_notices T.F_law_notices.kp T.b_law_notices .nil pass0 (pa_cons (pv 1) (pa_cons (pv 3) (pa_cons pe_int pa_nil)))))
    (pss_cons (ps_par (i := 6) (j := 7) rfl sc_law.nd rfl rfl (by decide) rfl rfl (pa_cons (pe_call (ok_law_text T) (hr.mono (by decide)) rfl T.g_law_text T.F_law_text.kp T.b_law_text .nil pass0 (pa_cons (pv 3) (pa_cons (pv 4) pa_nil))) (pa_cons (pe_callTy (call_listK K) (by rfl) T.n_list PyProof.Rows.boot_list (pa_cons (pv 4) pa_nil)) pa_nil)) (by rfl))
    (pss_one (ps_for PassesOwn.never rfl (pi_range1 (by rfl) T.n_range (pa_cons pe_int pa_nil)) (pg_name (i := 5) sc_law.nd rfl (by first | exact Or.inl rfl | exact Or.inr rfl)) (pss_cons (ps_set (i := 8) sc_law.nd rfl (by first | exact Or.inl rfl | exact Or.inr rfl) (pe_call (ok_read T) (hr.mono (by decide)) rfl T.g_read T.F_read.kp T.b_read .nil pass0 (pa_cons (pv 6) pa_nil)))
    (pss_cons (ps_if (PW.pt (pw_or (pt_not (pt_val (pe_call (ok_law_alike T) (hr.mono (by decide)) rfl T.g_law_alike T.F_law_alike.kp T.b_law_alike .nil pass0 (pa_cons (pe_call (ok_written T) (hr.mono (by decide)) rfl T.g_written T.F_written.kp T.b_written .nil pass0 (pa_cons (pv 3) (pa_cons (pv 7) pa_nil))) (pa_cons (pv 6) pa_nil))))) (pw_or1 (pt_cmpR (op_neK K hr.units) (pv 7) (pv 4) (nomark _))))) (pss_one (ps_ret pe_bl)) pss_nil)
    (pss_cons (ps_if (pt_not (pt_val (pe_call (ok_law_alike T) (hr.mono (by decide)) rfl T.g_law_alike T.F_law_alike.kp T.b_law_alike .nil pass0 (pa_cons (pv 8) (pa_cons (pe_tup (pa_cons (pv 3) (pa_cons (pv 4) pa_nil))) pa_nil))))) (pss_one (ps_ret pe_bl)) pss_nil)
    (pss_one (ps_expr (pe_bmK K PySem.F.plainAttrs_list PySem.F.slot_list_append PySem.F.type_list_append mt_append (pe_ix (ix_seqK K) (pv 8) pe_int (fun _ _ => rfl)) (pa_cons pe_int pa_nil)))))))))))))
    (pss_one (ps_ret pe_bl)))), ?_⟩
  exact (snd_seq (snd_set (i := 1) (snd_box (snd_call (dvs := []) (snd_cons (snd_nm 0) snd_nil) nod den_len)))
    (snd_seq (snd_for (mb := m_law_2) (snd_ir1 (snd_cons snd_int snd_nil)) (snd_gname (i := 2)) (snd_seq (snd_set (i := 3) (snd_call (dvs := []) (snd_cons (snd_nm 1) snd_nil) nod den_len))
    (snd_seq (snd_set (i := 4) (snd_v (snd_d (snd_call (dvs := []) (snd_cons (snd_nm 1) (snd_cons (snd_nm 3) (snd_cons snd_int snd_nil))) nod den_len))))
    (snd_seq (snd_par (i := 6) (j := 7) (snd_call (dvs := []) (snd_cons (snd_nm 3) (snd_cons (snd_nm 4) snd_nil)) nod den_len) (snd_box (snd_cb snd_list (snd_cons (snd_nm 4) snd_nil))))
    (snd_for (mb := m_law_1) (snd_ir1 (snd_cons snd_int snd_nil)) (snd_gname (i := 5)) (snd_seq (snd_set (i := 8) (snd_call (dvs := []) (snd_cons (snd_nm 6) snd_nil) nod den_len))
    (snd_seq (snd_ifS (snd_or (snd_not (snd_tB (snd_call (dvs := []) (snd_cons (snd_call (dvs := []) (snd_cons (snd_nm 3) (snd_cons (snd_nm 7) snd_nil)) nod den_len) (snd_cons (snd_nm 6) snd_nil)) nod d_law_alike_len))) (snd_test (snd_op snd_ne (snd_nm 7) (snd_nm 4)))) (snd_ret snd_bl) snd_next)
    (snd_seq (snd_ifS (snd_not (snd_tB (snd_call (dvs := []) (snd_cons (snd_nm 8) (snd_cons (snd_tup (snd_cons (snd_nm 3) (snd_cons (snd_nm 4) snd_nil))) snd_nil)) nod d_law_alike_len))) (snd_ret snd_bl) snd_next)
    (snd_expr (snd_bm ty_lst snd_mApp (snd_op snd_ix (snd_nm 8) snd_int) (snd_cons snd_int snd_nil)))))))))))
    (snd_ret snd_bl)))
end
end Wk
namespace Wk
open PySem L2 Yi
theorem dgen : True := trivial
theorem all_mk {l : PySem.W.OpenLaw} {w : World} {K : PySem.W.Frag} {h : Heap} {mg : Str → Option Value} {fa C_Reader f0 f1 f2 f3 f4 f5 f6 f7 f8 f9 f10 f11 f12 f13 f14 f15 f16 f17 f18 f19 f20 f21 : Addr} (pl : ∀ ns : List Int, ns.length ≤ 63 → ∃ S', d_law [.lk ns] [] = some (.d (.bl true), S')) (X : K.In h) (G : h.Ns mainGlobals mg) (hfa : mg "law" = some (.ref fa))
    {od0 an0 od1 an1 od2 an2 od3 an3 od4 an4 od5 an5 od6 an6 od7 an7 od8 an8 od9 an9 od10 an10 od11 an11 od12 an12 od13 an13 od14 an14 od15 an15 od16 an16 od17 an17 od18 an18 od19 an19 od20 an20 od21 an21 : Option Addr} {sl0 sl1 sl2 sl3 sl4 sl5 sl6 sl7 sl8 sl9 sl10 sl11 sl12 sl13 sl14 sl15 sl16 sl17 sl18 sl19 sl20 sl21 : Array (Option Value)} {oc0 kV0 dc0 pm0 cd0 ct0 oc1 kV1 dc1 pm1 cd1 ct1 oc2 kV2 dc2 pm2 cd2 ct2 oc3 kV3 dc3 pm3 cd3 ct3 oc4 kV4 dc4 pm4 cd4 ct4 oc5 kV5 dc5 pm5 cd5 ct5 oc6 kV6 dc6 pm6 cd6 ct6 oc7 kV7 dc7 pm7 cd7 ct7 oc8 kV8 dc8 pm8 cd8 ct8 oc9 kV9 dc9 pm9 cd9 ct9 oc10 kV10 dc10 pm10 cd10 ct10 oc11 kV11 dc11 pm11 cd11 ct11 oc12 kV12 dc12 pm12 cd12 ct12 oc13 kV13 dc13 pm13 cd13 ct13 oc14 kV14 dc14 pm14 cd14 ct14 oc15 kV15 dc15 pm15 cd15 ct15 oc16 kV16 dc16 pm16 cd16 ct16 oc17 kV17 dc17 pm17 cd17 ct17 oc18 kV18 dc18 pm18 cd18 ct18 oc19 kV19 dc19 pm19 cd19 ct19 oc20 kV20 dc20 pm20 cd20 ct20 oc21 kV21 dc21 pm21 cd21 ct21 : Value} {t_DAY t_FIGURES t_GATHER t_HUSH t_LINE t_MOST_BORN t_MOST_GATHERED t_MOST_HUSHED t_MOST_KIND t_MOST_NOTICES t_MOST_PERSONS t_MOST_RANK t_MOST_SPAN t_MOST_WAIT t_NONE t_NOTICE t_PERSON : Tok}
    (aC_Reader : PySem.W.nsIn K mainGlobals "Reader" = some (some (.ref C_Reader)))
    (a0 : PySem.W.nsIn K mainGlobals "is_number" = some (some (.ref f0)))
    (l0 : K.lookup f0 = some ⟨oc0, od0, .func (PySem.W.fnOf "is_number" "is_number" (defArgs s_is_number) (defBody s_is_number) (defScope s_is_number) .none kV0 dc0 pm0 an0 cd0 ct0), sl0⟩)
    (c0 : PySem.W.codeIn K cd0 "is_number" = true)
    (k0 : PySem.W.keepIn K (.ref f0) = true)
    (a1 : PySem.W.nsIn K mainGlobals "is_stretch" = some (some (.ref f1)))
    (l1 : K.lookup f1 = some ⟨oc1, od1, .func (PySem.W.fnOf "is_stretch" "is_stretch" (defArgs s_is_stretch) (defBody s_is_stretch) (defScope s_is_stretch) .none kV1 dc1 pm1 an1 cd1 ct1), sl1⟩)
    (c1 : PySem.W.codeIn K cd1 "is_stretch" = true)
    (k1 : PySem.W.keepIn K (.ref f1) = true)
    (a2 : PySem.W.nsIn K mainGlobals "is_gathered" = some (some (.ref f2)))
    (l2 : K.lookup f2 = some ⟨oc2, od2, .func (PySem.W.fnOf "is_gathered" "is_gathered" (defArgs s_is_gathered) (defBody s_is_gathered) (defScope s_is_gathered) .none kV2 dc2 pm2 an2 cd2 ct2), sl2⟩)
    (c2 : PySem.W.codeIn K cd2 "is_gathered" = true)
    (k2 : PySem.W.keepIn K (.ref f2) = true)
    (a3 : PySem.W.nsIn K mainGlobals "are_pairs" = some (some (.ref f3)))
    (l3 : K.lookup f3 = some ⟨oc3, od3, .func (PySem.W.fnOf "are_pairs" "are_pairs" (defArgs s_are_pairs) (defBody s_are_pairs) (defScope s_are_pairs) .none kV3 dc3 pm3 an3 cd3 ct3), sl3⟩)
    (c3 : PySem.W.codeIn K cd3 "are_pairs" = true)
    (k3 : PySem.W.keepIn K (.ref f3) = true)
    (a4 : PySem.W.nsIn K mainGlobals "bad_part" = some (some (.ref f4)))
    (l4 : K.lookup f4 = some ⟨oc4, od4, .func (PySem.W.fnOf "bad_part" "bad_part" (defArgs s_bad_part) (defBody s_bad_part) (defScope s_bad_part) .none kV4 dc4 pm4 an4 cd4 ct4), sl4⟩)
    (c4 : PySem.W.codeIn K cd4 "bad_part" = true)
    (k4 : PySem.W.keepIn K (.ref f4) = true)
    (a5 : PySem.W.nsIn K mainGlobals "need_rules" = some (some (.ref f5)))
    (l5 : K.lookup f5 = some ⟨oc5, od5, .func (PySem.W.fnOf "need_rules" "need_rules" (defArgs s_need_rules) (defBody s_need_rules) (defScope s_need_rules) .none kV5 dc5 pm5 an5 cd5 ct5), sl5⟩)
    (c5 : PySem.W.codeIn K cd5 "need_rules" = true)
    (k5 : PySem.W.keepIn K (.ref f5) = true)
    (a6 : PySem.W.nsIn K mainGlobals "need_notices" = some (some (.ref f6)))
    (l6 : K.lookup f6 = some ⟨oc6, od6, .func (PySem.W.fnOf "need_notices" "need_notices" (defArgs s_need_notices) (defBody s_need_notices) (defScope s_need_notices) .none kV6 dc6 pm6 an6 cd6 ct6), sl6⟩)
    (c6 : PySem.W.codeIn K cd6 "need_notices" = true)
    (k6 : PySem.W.keepIn K (.ref f6) = true)
    (a7 : PySem.W.nsIn K mainGlobals "word_of" = some (some (.ref f7)))
    (l7 : K.lookup f7 = some ⟨oc7, od7, .func (PySem.W.fnOf "word_of" "word_of" (defArgs s_word_of) (defBody s_word_of) (defScope s_word_of) .none kV7 dc7 pm7 an7 cd7 ct7), sl7⟩)
    (c7 : PySem.W.codeIn K cd7 "word_of" = true)
    (k7 : PySem.W.keepIn K (.ref f7) = true)
    (a8 : PySem.W.nsIn K mainGlobals "written" = some (some (.ref f8)))
    (l8 : K.lookup f8 = some ⟨oc8, od8, .func (PySem.W.fnOf "written" "written" (defArgs s_written) (defBody s_written) (defScope s_written) .none kV8 dc8 pm8 an8 cd8 ct8), sl8⟩)
    (c8 : PySem.W.codeIn K cd8 "written" = true)
    (k8 : PySem.W.keepIn K (.ref f8) = true)
    (a9 : PySem.W.findIn K (.ref C_Reader) "__init__" = some (some (.ref f9)))
    (i9 : PySem.W.isFn K (.ref f9) = true)
    (l9 : K.lookup f9 = some ⟨oc9, od9, .func (PySem.W.fnOf "__init__" "Reader.__init__" (defArgs s_Reader_init) (defBody s_Reader_init) (defScope s_Reader_init) .none kV9 dc9 pm9 an9 cd9 ct9), sl9⟩)
    (c9 : PySem.W.codeIn K cd9 "Reader.__init__" = true)
    (k9 : PySem.W.keepIn K (.ref f9) = true)
    (a10 : PySem.W.nsIn K mainGlobals "number_of" = some (some (.ref f10)))
    (l10 : K.lookup f10 = some ⟨oc10, od10, .func (PySem.W.fnOf "number_of" "number_of" (defArgs s_number_of) (defBody s_number_of) (defScope s_number_of) .none kV10 dc10 pm10 an10 cd10 ct10), sl10⟩)
    (c10 : PySem.W.codeIn K cd10 "number_of" = true)
    (k10 : PySem.W.keepIn K (.ref f10) = true)
    (a11 : PySem.W.findIn K (.ref C_Reader) "take" = some (some (.ref f11)))
    (i11 : PySem.W.isFn K (.ref f11) = true)
    (l11 : K.lookup f11 = some ⟨oc11, od11, .func (PySem.W.fnOf "take" "Reader.take" (defArgs s_Reader_take) (defBody s_Reader_take) (defScope s_Reader_take) .none kV11 dc11 pm11 an11 cd11 ct11), sl11⟩)
    (c11 : PySem.W.codeIn K cd11 "Reader.take" = true)
    (k11 : PySem.W.keepIn K (.ref f11) = true)
    (a12 : PySem.W.nsIn K mainGlobals "read" = some (some (.ref f12)))
    (l12 : K.lookup f12 = some ⟨oc12, od12, .func (PySem.W.fnOf "read" "read" (defArgs s_read) (defBody s_read) (defScope s_read) .none kV12 dc12 pm12 an12 cd12 ct12), sl12⟩)
    (c12 : PySem.W.codeIn K cd12 "read" = true)
    (k12 : PySem.W.keepIn K (.ref f12) = true)
    (a13 : PySem.W.nsIn K mainGlobals "_law_begun" = some (some (.ref f13)))
    (l13 : K.lookup f13 = some ⟨oc13, od13, .func (PySem.W.fnOf "_law_begun" "_law_begun" (defArgs s_law_begun) (defBody s_law_begun) (defScope s_law_begun) .none kV13 dc13 pm13 an13 cd13 ct13), sl13⟩)
    (c13 : PySem.W.codeIn K cd13 "_law_begun" = true)
    (k13 : PySem.W.keepIn K (.ref f13) = true)
    (a14 : PySem.W.nsIn K mainGlobals "_law_alike" = some (some (.ref f14)))
    (l14 : K.lookup f14 = some ⟨oc14, od14, .func (PySem.W.fnOf "_law_alike" "_law_alike" (defArgs s_law_alike) (defBody s_law_alike) (defScope s_law_alike) .none kV14 dc14 pm14 an14 cd14 ct14), sl14⟩)
    (c14 : PySem.W.codeIn K cd14 "_law_alike" = true)
    (k14 : PySem.W.keepIn K (.ref f14) = true)
    (a15 : PySem.W.nsIn K mainGlobals "_law_take" = some (some (.ref f15)))
    (l15 : K.lookup f15 = some ⟨oc15, od15, .func (PySem.W.fnOf "_law_take" "_law_take" (defArgs s_law_take) (defBody s_law_take) (defScope s_law_take) .none kV15 dc15 pm15 an15 cd15 ct15), sl15⟩)
    (c15 : PySem.W.codeIn K cd15 "_law_take" = true)
    (k15 : PySem.W.keepIn K (.ref f15) = true)
    (a16 : PySem.W.nsIn K mainGlobals "_law_stretches" = some (some (.ref f16)))
    (l16 : K.lookup f16 = some ⟨oc16, od16, .func (PySem.W.fnOf "_law_stretches" "_law_stretches" (defArgs s_law_stretches) (defBody s_law_stretches) (defScope s_law_stretches) .none kV16 dc16 pm16 an16 cd16 ct16), sl16⟩)
    (c16 : PySem.W.codeIn K cd16 "_law_stretches" = true)
    (k16 : PySem.W.keepIn K (.ref f16) = true)
    (a17 : PySem.W.nsIn K mainGlobals "_law_rule" = some (some (.ref f17)))
    (l17 : K.lookup f17 = some ⟨oc17, od17, .func (PySem.W.fnOf "_law_rule" "_law_rule" (defArgs s_law_rule) (defBody s_law_rule) (defScope s_law_rule) .none kV17 dc17 pm17 an17 cd17 ct17), sl17⟩)
    (c17 : PySem.W.codeIn K cd17 "_law_rule" = true)
    (k17 : PySem.W.keepIn K (.ref f17) = true)
    (a18 : PySem.W.nsIn K mainGlobals "_law_rules" = some (some (.ref f18)))
    (l18 : K.lookup f18 = some ⟨oc18, od18, .func (PySem.W.fnOf "_law_rules" "_law_rules" (defArgs s_law_rules) (defBody s_law_rules) (defScope s_law_rules) .none kV18 dc18 pm18 an18 cd18 ct18), sl18⟩)
    (c18 : PySem.W.codeIn K cd18 "_law_rules" = true)
    (k18 : PySem.W.keepIn K (.ref f18) = true)
    (a19 : PySem.W.nsIn K mainGlobals "_law_notices" = some (some (.ref f19)))
    (l19 : K.lookup f19 = some ⟨oc19, od19, .func (PySem.W.fnOf "_law_notices" "_law_notices" (defArgs s_law_notices) (defBody s_law_notices) (defScope s_law_notices) .none kV19 dc19 pm19 an19 cd19 ct19), sl19⟩)
    (c19 : PySem.W.codeIn K cd19 "_law_notices" = true)
    (k19 : PySem.W.keepIn K (.ref f19) = true)
    (a20 : PySem.W.nsIn K mainGlobals "_law_text" = some (some (.ref f20)))
    (l20 : K.lookup f20 = some ⟨oc20, od20, .func (PySem.W.fnOf "_law_text" "_law_text" (defArgs s_law_text) (defBody s_law_text) (defScope s_law_text) .none kV20 dc20 pm20 an20 cd20 ct20), sl20⟩)
    (c20 : PySem.W.codeIn K cd20 "_law_text" = true)
    (k20 : PySem.W.keepIn K (.ref f20) = true)
    (a21 : PySem.W.nsIn K mainGlobals "law" = some (some (.ref f21)))
    (l21 : K.lookup f21 = some ⟨oc21, od21, .func (PySem.W.fnOf "law" "law" (defArgs s_law) (defBody s_law) (defScope s_law) .none kV21 dc21 pm21 an21 cd21 ct21), sl21⟩)
    (c21 : PySem.W.codeIn K cd21 "law" = true)
    (k21 : PySem.W.keepIn K (.ref f21) = true)
    (pg_Reader : PySem.W.plainGet K C_Reader Str.empty = true)
    (hd_Reader : PySem.W.hasDictIn K C_Reader = true)
    (po_Reader : PySem.W.plainOver K C_Reader = true)
    (sa_Reader : PySem.W.findIn K (.ref C_Reader) "__setattr__" = some (some (.builtin "object.__setattr__")))
    (mk_Reader : PySem.W.makesIn K C_Reader = true)
    (kc_Reader : PySem.W.keepIn K (.ref C_Reader) = true)
    (x_Reader_found : PySem.W.findIn K (.ref C_Reader) "found" = some none)
    (x_Reader_notices : PySem.W.findIn K (.ref C_Reader) "notices" = some none)
    (x_Reader_stage : PySem.W.findIn K (.ref C_Reader) "stage" = some none)
    (n_all : PySem.W.nsIn K mainGlobals "all" = some none)
    (n_bool : PySem.W.nsIn K mainGlobals "bool" = some none)
    (n_enumerate : PySem.W.nsIn K mainGlobals "enumerate" = some none)
    (n_int : PySem.W.nsIn K mainGlobals "int" = some none)
    (n_isinstance : PySem.W.nsIn K mainGlobals "isinstance" = some none)
    (n_len : PySem.W.nsIn K mainGlobals "len" = some none)
    (n_list : PySem.W.nsIn K mainGlobals "list" = some none)
    (n_min : PySem.W.nsIn K mainGlobals "min" = some none)
    (n_range : PySem.W.nsIn K mainGlobals "range" = some none)
    (n_set : PySem.W.nsIn K mainGlobals "set" = some none)
    (n_sorted : PySem.W.nsIn K mainGlobals "sorted" = some none)
    (n_str : PySem.W.nsIn K mainGlobals "str" = some none)
    (n_tuple : PySem.W.nsIn K mainGlobals "tuple" = some none)
    (g_DAY : PySem.W.nsIn K mainGlobals "DAY" = some (some (.int 24 t_DAY)))
    (g_FIGURES : PySem.W.nsIn K mainGlobals "FIGURES" = some (some (.str "0123456789" t_FIGURES)))
    (g_GATHER : PySem.W.nsIn K mainGlobals "GATHER" = some (some (.str "gather" t_GATHER)))
    (g_HUSH : PySem.W.nsIn K mainGlobals "HUSH" = some (some (.str "hush" t_HUSH)))
    (g_LINE : PySem.W.nsIn K mainGlobals "LINE" = some (some (.str "\n" t_LINE)))
    (g_MOST_BORN : PySem.W.nsIn K mainGlobals "MOST_BORN" = some (some (.int 300 t_MOST_BORN)))
    (g_MOST_GATHERED : PySem.W.nsIn K mainGlobals "MOST_GATHERED" = some (some (.int 4 t_MOST_GATHERED)))
    (g_MOST_HUSHED : PySem.W.nsIn K mainGlobals "MOST_HUSHED" = some (some (.int 3 t_MOST_HUSHED)))
    (g_MOST_KIND : PySem.W.nsIn K mainGlobals "MOST_KIND" = some (some (.int 7 t_MOST_KIND)))
    (g_MOST_NOTICES : PySem.W.nsIn K mainGlobals "MOST_NOTICES" = some (some (.int 30 t_MOST_NOTICES)))
    (g_MOST_PERSONS : PySem.W.nsIn K mainGlobals "MOST_PERSONS" = some (some (.int 6 t_MOST_PERSONS)))
    (g_MOST_RANK : PySem.W.nsIn K mainGlobals "MOST_RANK" = some (some (.int 3 t_MOST_RANK)))
    (g_MOST_SPAN : PySem.W.nsIn K mainGlobals "MOST_SPAN" = some (some (.int 12 t_MOST_SPAN)))
    (g_MOST_WAIT : PySem.W.nsIn K mainGlobals "MOST_WAIT" = some (some (.int 24 t_MOST_WAIT)))
    (g_NONE : PySem.W.nsIn K mainGlobals "NONE" = some (some (.str "-" t_NONE)))
    (g_NOTICE : PySem.W.nsIn K mainGlobals "NOTICE" = some (some (.str "notice" t_NOTICE)))
    (g_PERSON : PySem.W.nsIn K mainGlobals "PERSON" = some (some (.str "person" t_PERSON))) :
    ∃ fd : FuncData, (∀ (s : Shared) (v : Value), BindsTo s fd ⟨[v], []⟩ [("_law_script", v)]) ∧ ∀ base : Heap, K.In base → base.Ns mainGlobals mg → FnOk l.prog w K mg base CX0 10 fa fd ["_law_script"] (spLaw K) := by
  have e : f21 = fa := by
    have q := hfa.symm.trans (PySem.W.mg_of X G a21)
    cases q
    rfl
  subst e
  let A : Ad := { f_is_number := f0, fd_is_number := PySem.W.fnOf "is_number" "is_number" (defArgs s_is_number) (defBody s_is_number) (defScope s_is_number) .none kV0 dc0 pm0 an0 cd0 ct0, f_is_stretch := f1, fd_is_stretch := PySem.W.fnOf "is_stretch" "is_stretch" (defArgs s_is_stretch) (defBody s_is_stretch) (defScope s_is_stretch) .none kV1 dc1 pm1 an1 cd1 ct1, f_is_gathered := f2, fd_is_gathered := PySem.W.fnOf "is_gathered" "is_gathered" (defArgs s_is_gathered) (defBody s_is_gathered) (defScope s_is_gathered) .none kV2 dc2 pm2 an2 cd2 ct2, f_are_pairs := f3, fd_are_pairs := PySem.W.fnOf "are_pairs" "are_pairs" (defArgs s_are_pairs) (defBody s_are_pairs) (defScope s_are_pairs) .none kV3 dc3 pm3 an3 cd3 ct3, f_bad_part := f4, fd_bad_part := PySem.W.fnOf "bad_part" "bad_part" (defArgs s_bad_part) (defBody s_bad_part) (defScope s_bad_part) .none kV4 dc4 pm4 an4 cd4 ct4, f_need_rules := f5, fd_need_rules := PySem.W.fnOf "need_rules" "need_rules" (defArgs s_need_rules) (defBody s_need_rules) (defScope s_need_rules) .none kV5 dc5 pm5 an5 cd5 ct5, f_need_notices := f6, fd_need_notices := PySem.W.fnOf "need_notices" "need_notices" (defArgs s_need_notices) (defBody s_need_notices) (defScope s_need_notices) .none kV6 dc6 pm6 an6 cd6 ct6, f_word_of := f7, fd_word_of := PySem.W.fnOf "word_of" "word_of" (defArgs s_word_of) (defBody s_word_of) (defScope s_word_of) .none kV7 dc7 pm7 an7 cd7 ct7, f_written := f8, fd_written := PySem.W.fnOf "written" "written" (defArgs s_written) (defBody s_written) (defScope s_written) .none kV8 dc8 pm8 an8 cd8 ct8, f_Reader_init := f9, fd_Reader_init := PySem.W.fnOf "__init__" "Reader.__init__" (defArgs s_Reader_init) (defBody s_Reader_init) (defScope s_Reader_init) .none kV9 dc9 pm9 an9 cd9 ct9, f_number_of := f10, fd_number_of := PySem.W.fnOf "number_of" "number_of" (defArgs s_number_of) (defBody s_number_of) (defScope s_number_of) .none kV10 dc10 pm10 an10 cd10 ct10, f_Reader_take := f11, fd_Reader_take := PySem.W.fnOf "take" "Reader.take" (defArgs s_Reader_take) (defBody s_Reader_take) (defScope s_Reader_take) .none kV11 dc11 pm11 an11 cd11 ct11, f_read := f12, fd_read := PySem.W.fnOf "read" "read" (defArgs s_read) (defBody s_read) (defScope s_read) .none kV12 dc12 pm12 an12 cd12 ct12, f_law_begun := f13, fd_law_begun := PySem.W.fnOf "_law_begun" "_law_begun" (defArgs s_law_begun) (defBody s_law_begun) (defScope s_law_begun) .none kV13 dc13 pm13 an13 cd13 ct13, f_law_alike := f14, fd_law_alike := PySem.W.fnOf "_law_alike" "_law_alike" (defArgs s_law_alike) (defBody s_law_alike) (defScope s_law_alike) .none kV14 dc14 pm14 an14 cd14 ct14, f_law_take := f15, fd_law_take := PySem.W.fnOf "_law_take" "_law_take" (defArgs s_law_take) (defBody s_law_take) (defScope s_law_take) .none kV15 dc15 pm15 an15 cd15 ct15, f_law_stretches := f16, fd_law_stretches := PySem.W.fnOf "_law_stretches" "_law_stretches" (defArgs s_law_stretches) (defBody s_law_stretches) (defScope s_law_stretches) .none kV16 dc16 pm16 an16 cd16 ct16, f_law_rule := f17, fd_law_rule := PySem.W.fnOf "_law_rule" "_law_rule" (defArgs s_law_rule) (defBody s_law_rule) (defScope s_law_rule) .none kV17 dc17 pm17 an17 cd17 ct17, f_law_rules := f18, fd_law_rules := PySem.W.fnOf "_law_rules" "_law_rules" (defArgs s_law_rules) (defBody s_law_rules) (defScope s_law_rules) .none kV18 dc18 pm18 an18 cd18 ct18, f_law_notices := f19, fd_law_notices := PySem.W.fnOf "_law_notices" "_law_notices" (defArgs s_law_notices) (defBody s_law_notices) (defScope s_law_notices) .none kV19 dc19 pm19 an19 cd19 ct19, f_law_text := f20, fd_law_text := PySem.W.fnOf "_law_text" "_law_text" (defArgs s_law_text) (defBody s_law_text) (defScope s_law_text) .none kV20 dc20 pm20 an20 cd20 ct20, f_law := f21, fd_law := PySem.W.fnOf "law" "law" (defArgs s_law) (defBody s_law) (defScope s_law) .none kV21 dc21 pm21 an21 cd21 ct21, c_Reader := C_Reader }
  have F0 : Fun K "is_number" "is_number" s_is_number f0 (PySem.W.fnOf "is_number" "is_number" (defArgs s_is_number) (defBody s_is_number) (defScope s_is_number) .none kV0 dc0 pm0 an0 cd0 ct0) := fun_mk (st := s_is_number) l0 c0 k0
  have F1 : Fun K "is_stretch" "is_stretch" s_is_stretch f1 (PySem.W.fnOf "is_stretch" "is_stretch" (defArgs s_is_stretch) (defBody s_is_stretch) (defScope s_is_stretch) .none kV1 dc1 pm1 an1 cd1 ct1) := fun_mk (st := s_is_stretch) l1 c1 k1
  have F2 : Fun K "is_gathered" "is_gathered" s_is_gathered f2 (PySem.W.fnOf "is_gathered" "is_gathered" (defArgs s_is_gathered) (defBody s_is_gathered) (defScope s_is_gathered) .none kV2 dc2 pm2 an2 cd2 ct2) := fun_mk (st := s_is_gathered) l2 c2 k2
  have F3 : Fun K "are_pairs" "are_pairs" s_are_pairs f3 (PySem.W.fnOf "are_pairs" "are_pairs" (defArgs s_are_pairs) (defBody s_are_pairs) (defScope s_are_pairs) .none kV3 dc3 pm3 an3 cd3 ct3) := fun_mk (st := s_are_pairs) l3 c3 k3
  have F4 : Fun K "bad_part" "bad_part" s_bad_part f4 (PySem.W.fnOf "bad_part" "bad_part" (defArgs s_bad_part) (defBody s_bad_part) (defScope s_bad_part) .none kV4 dc4 pm4 an4 cd4 ct4) := fun_mk (st := s_bad_part) l4 c4 k4
  have F5 : Fun K "need_rules" "need_rules" s_need_rules f5 (PySem.W.fnOf "need_rules" "need_rules" (defArgs s_need_rules) (defBody s_need_rules) (defScope s_need_rules) .none kV5 dc5 pm5 an5 cd5 ct5) := fun_mk (st := s_need_rules) l5 c5 k5
  have F6 : Fun K "need_notices" "need_notices" s_need_notices f6 (PySem.W.fnOf "need_notices" "need_notices" (defArgs s_need_notices) (defBody s_need_notices) (defScope s_need_notices) .none kV6 dc6 pm6 an6 cd6 ct6) := fun_mk (st := s_need_notices) l6 c6 k6
  have F7 : Fun K "word_of" "word_of" s_word_of f7 (PySem.W.fnOf "word_of" "word_of" (defArgs s_word_of) (defBody s_word_of) (defScope s_word_of) .none kV7 dc7 pm7 an7 cd7 ct7) := fun_mk (st := s_word_of) l7 c7 k7
  have F8 : Fun K "written" "written" s_written f8 (PySem.W.fnOf "written" "written" (defArgs s_written) (defBody s_written) (defScope s_written) .none kV8 dc8 pm8 an8 cd8 ct8) := fun_mk (st := s_written) l8 c8 k8
  have F9 : Fun K "__init__" "Reader.__init__" s_Reader_init f9 (PySem.W.fnOf "__init__" "Reader.__init__" (defArgs s_Reader_init) (defBody s_Reader_init) (defScope s_Reader_init) .none kV9 dc9 pm9 an9 cd9 ct9) := fun_mk (st := s_Reader_init) l9 c9 k9
  have F10 : Fun K "number_of" "number_of" s_number_of f10 (PySem.W.fnOf "number_of" "number_of" (defArgs s_number_of) (defBody s_number_of) (defScope s_number_of) .none kV10 dc10 pm10 an10 cd10 ct10) := fun_mk (st := s_number_of) l10 c10 k10
  have F11 : Fun K "take" "Reader.take" s_Reader_take f11 (PySem.W.fnOf "take" "Reader.take" (defArgs s_Reader_take) (defBody s_Reader_take) (defScope s_Reader_take) .none kV11 dc11 pm11 an11 cd11 ct11) := fun_mk (st := s_Reader_take) l11 c11 k11
  have F12 : Fun K "read" "read" s_read f12 (PySem.W.fnOf "read" "read" (defArgs s_read) (defBody s_read) (defScope s_read) .none kV12 dc12 pm12 an12 cd12 ct12) := fun_mk (st := s_read) l12 c12 k12
  have F13 : Fun K "_law_begun" "_law_begun" s_law_begun f13 (PySem.W.fnOf "_law_begun" "_law_begun" (defArgs s_law_begun) (defBody s_law_begun) (defScope s_law_begun) .none kV13 dc13 pm13 an13 cd13 ct13) := fun_mk (st := s_law_begun) l13 c13 k13
  have F14 : Fun K "_law_alike" "_law_alike" s_law_alike f14 (PySem.W.fnOf "_law_alike" "_law_alike" (defArgs s_law_alike) (defBody s_law_alike) (defScope s_law_alike) .none kV14 dc14 pm14 an14 cd14 ct14) := fun_mk (st := s_law_alike) l14 c14 k14
  have F15 : Fun K "_law_take" "_law_take" s_law_take f15 (PySem.W.fnOf "_law_take" "_law_take" (defArgs s_law_take) (defBody s_law_take) (defScope s_law_take) .none kV15 dc15 pm15 an15 cd15 ct15) := fun_mk (st := s_law_take) l15 c15 k15
  have F16 : Fun K "_law_stretches" "_law_stretches" s_law_stretches f16 (PySem.W.fnOf "_law_stretches" "_law_stretches" (defArgs s_law_stretches) (defBody s_law_stretches) (defScope s_law_stretches) .none kV16 dc16 pm16 an16 cd16 ct16) := fun_mk (st := s_law_stretches) l16 c16 k16
  have F17 : Fun K "_law_rule" "_law_rule" s_law_rule f17 (PySem.W.fnOf "_law_rule" "_law_rule" (defArgs s_law_rule) (defBody s_law_rule) (defScope s_law_rule) .none kV17 dc17 pm17 an17 cd17 ct17) := fun_mk (st := s_law_rule) l17 c17 k17
  have F18 : Fun K "_law_rules" "_law_rules" s_law_rules f18 (PySem.W.fnOf "_law_rules" "_law_rules" (defArgs s_law_rules) (defBody s_law_rules) (defScope s_law_rules) .none kV18 dc18 pm18 an18 cd18 ct18) := fun_mk (st := s_law_rules) l18 c18 k18
  have F19 : Fun K "_law_notices" "_law_notices" s_law_notices f19 (PySem.W.fnOf "_law_notices" "_law_notices" (defArgs s_law_notices) (defBody s_law_notices) (defScope s_law_notices) .none kV19 dc19 pm19 an19 cd19 ct19) := fun_mk (st := s_law_notices) l19 c19 k19
  have F20 : Fun K "_law_text" "_law_text" s_law_text f20 (PySem.W.fnOf "_law_text" "_law_text" (defArgs s_law_text) (defBody s_law_text) (defScope s_law_text) .none kV20 dc20 pm20 an20 cd20 ct20) := fun_mk (st := s_law_text) l20 c20 k20
  have F21 : Fun K "law" "law" s_law f21 (PySem.W.fnOf "law" "law" (defArgs s_law) (defBody s_law) (defScope s_law) .none kV21 dc21 pm21 an21 cd21 ct21) := fun_mk (st := s_law) l21 c21 k21
  have T : Txt K mg A := {
    F_is_number := F0
    b_is_number := F0.binds (ps := ["part", "low", "high"]) fun _ _ _ _ _ _ us hl => match us, hl with | [_, _, _], _ => rfl
    g_is_number := PySem.W.mg_of X G a0
    F_is_stretch := F1
    b_is_stretch := F1.binds (ps := ["pair"]) fun _ _ _ _ _ _ us hl => match us, hl with | [_], _ => rfl
    g_is_stretch := PySem.W.mg_of X G a1
    F_is_gathered := F2
    b_is_gathered := F2.binds (ps := ["pair"]) fun _ _ _ _ _ _ us hl => match us, hl with | [_], _ => rfl
    g_is_gathered := PySem.W.mg_of X G a2
    F_are_pairs := F3
    b_are_pairs := F3.binds (ps := ["some", "most", "is_good"]) fun _ _ _ _ _ _ us hl => match us, hl with | [_, _, _], _ => rfl
    g_are_pairs := PySem.W.mg_of X G a3
    F_bad_part := F4
    b_bad_part := F4.binds (ps := ["rule", "many"]) fun _ _ _ _ _ _ us hl => match us, hl with | [_, _], _ => rfl
    g_bad_part := PySem.W.mg_of X G a4
    F_need_rules := F5
    b_need_rules := F5.binds (ps := ["rules"]) fun _ _ _ _ _ _ us hl => match us, hl with | [_], _ => rfl
    g_need_rules := PySem.W.mg_of X G a5
    F_need_notices := F6
    b_need_notices := F6.binds (ps := ["rules", "notices"]) fun _ _ _ _ _ _ us hl => match us, hl with | [_, _], _ => rfl
    g_need_notices := PySem.W.mg_of X G a6
    F_word_of := F7
    b_word_of := F7.binds (ps := ["part"]) fun _ _ _ _ _ _ us hl => match us, hl with | [_], _ => rfl
    g_word_of := PySem.W.mg_of X G a7
    F_written := F8
    b_written := F8.binds (ps := ["rules", "notices"]) fun _ _ _ _ _ _ us hl => match us, hl with | [_, _], _ => rfl
    g_written := PySem.W.mg_of X G a8
    F_Reader_init := F9
    b_Reader_init := F9.binds (ps := ["self"]) fun _ _ _ _ _ _ us hl => match us, hl with | [_], _ => rfl
    F_number_of := F10
    b_number_of := F10.binds (ps := ["word"]) fun _ _ _ _ _ _ us hl => match us, hl with | [_], _ => rfl
    g_number_of := PySem.W.mg_of X G a10
    F_Reader_take := F11
    b_Reader_take := F11.binds (ps := ["self", "words", "row"]) fun _ _ _ _ _ _ us hl => match us, hl with | [_, _, _], _ => rfl
    me_Reader_take := ⟨a11, i11, k11⟩
    F_read := F12
    b_read := F12.binds (ps := ["text"]) fun _ _ _ _ _ _ us hl => match us, hl with | [_], _ => rfl
    g_read := PySem.W.mg_of X G a12
    F_law_begun := F13
    b_law_begun := F13.binds (ps := ["_law_script"]) fun _ _ _ _ _ _ us hl => match us, hl with | [_], _ => rfl
    g_law_begun := PySem.W.mg_of X G a13
    F_law_alike := F14
    b_law_alike := F14.binds (ps := ["_law_found", "_law_due"]) fun _ _ _ _ _ _ us hl => match us, hl with | [_, _], _ => rfl
    g_law_alike := PySem.W.mg_of X G a14
    F_law_take := F15
    b_law_take := F15.binds (ps := ["_law_box", "_law_many"]) fun _ _ _ _ _ _ us hl => match us, hl with | [_, _], _ => rfl
    g_law_take := PySem.W.mg_of X G a15
    F_law_stretches := F16
    b_law_stretches := F16.binds (ps := ["_law_box"]) fun _ _ _ _ _ _ us hl => match us, hl with | [_], _ => rfl
    g_law_stretches := PySem.W.mg_of X G a16
    F_law_rule := F17
    b_law_rule := F17.binds (ps := ["_law_box", "_law_many"]) fun _ _ _ _ _ _ us hl => match us, hl with | [_, _], _ => rfl
    g_law_rule := PySem.W.mg_of X G a17
    F_law_rules := F18
    b_law_rules := F18.binds (ps := ["_law_box"]) fun _ _ _ _ _ _ us hl => match us, hl with | [_], _ => rfl
    g_law_rules := PySem.W.mg_of X G a18
    F_law_notices := F19
    b_law_notices := F19.binds (ps := ["_law_box", "_law_rules_here", "_law_most"]) fun _ _ _ _ _ _ us hl => match us, hl with | [_, _, _], _ => rfl
    g_law_notices := PySem.W.mg_of X G a19
    F_law_text := F20
    b_law_text := F20.binds (ps := ["_law_rules_here", "_law_notices_here"]) fun _ _ _ _ _ _ us hl => match us, hl with | [_, _], _ => rfl
    g_law_text := PySem.W.mg_of X G a20
    F_law := F21
    g_law := PySem.W.mg_of X G a21
    c_Reader := ⟨pg_Reader, hd_Reader, po_Reader, sa_Reader⟩
    m_Reader := ⟨mk_Reader, a9, i9, kc_Reader⟩
    gc_Reader := PySem.W.mg_of X G aC_Reader
    x_Reader_found := ⟨⟨pg_Reader, hd_Reader, po_Reader, sa_Reader⟩, x_Reader_found⟩
    x_Reader_notices := ⟨⟨pg_Reader, hd_Reader, po_Reader, sa_Reader⟩, x_Reader_notices⟩
    x_Reader_stage := ⟨⟨pg_Reader, hd_Reader, po_Reader, sa_Reader⟩, x_Reader_stage⟩
    n_all := PySem.W.mg_none_of X G n_all
    n_bool := PySem.W.mg_none_of X G n_bool
    n_enumerate := PySem.W.mg_none_of X G n_enumerate
    n_int := PySem.W.mg_none_of X G n_int
    n_isinstance := PySem.W.mg_none_of X G n_isinstance
    n_len := PySem.W.mg_none_of X G n_len
    n_list := PySem.W.mg_none_of X G n_list
    n_min := PySem.W.mg_none_of X G n_min
    n_range := PySem.W.mg_none_of X G n_range
    n_set := PySem.W.mg_none_of X G n_set
    n_sorted := PySem.W.mg_none_of X G n_sorted
    n_str := PySem.W.mg_none_of X G n_str
    n_tuple := PySem.W.mg_none_of X G n_tuple
    g_DAY := ⟨_, PySem.W.mg_of X G g_DAY⟩
    g_FIGURES := ⟨_, PySem.W.mg_of X G g_FIGURES⟩
    g_GATHER := ⟨_, PySem.W.mg_of X G g_GATHER⟩
    g_HUSH := ⟨_, PySem.W.mg_of X G g_HUSH⟩
    g_LINE := ⟨_, PySem.W.mg_of X G g_LINE⟩
    g_MOST_BORN := ⟨_, PySem.W.mg_of X G g_MOST_BORN⟩
    g_MOST_GATHERED := ⟨_, PySem.W.mg_of X G g_MOST_GATHERED⟩
    g_MOST_HUSHED := ⟨_, PySem.W.mg_of X G g_MOST_HUSHED⟩
    g_MOST_KIND := ⟨_, PySem.W.mg_of X G g_MOST_KIND⟩
    g_MOST_NOTICES := ⟨_, PySem.W.mg_of X G g_MOST_NOTICES⟩
    g_MOST_PERSONS := ⟨_, PySem.W.mg_of X G g_MOST_PERSONS⟩
    g_MOST_RANK := ⟨_, PySem.W.mg_of X G g_MOST_RANK⟩
    g_MOST_SPAN := ⟨_, PySem.W.mg_of X G g_MOST_SPAN⟩
    g_MOST_WAIT := ⟨_, PySem.W.mg_of X G g_MOST_WAIT⟩
    g_NONE := ⟨_, PySem.W.mg_of X G g_NONE⟩
    g_NOTICE := ⟨_, PySem.W.mg_of X G g_NOTICE⟩
    g_PERSON := ⟨_, PySem.W.mg_of X G g_PERSON⟩
  }
  exact ⟨PySem.W.fnOf "law" "law" (defArgs s_law) (defBody s_law) (defScope s_law) .none kV21 dc21 pm21 an21 cd21 ct21, fun s v => .of_eq rfl, fun base _ _ => ok_law (A := A) T pl⟩
theorem walk {l : PySem.W.OpenLaw} {q : Program} {loose : List Str} {XP : (Str → Option Value) → Heap → Prop} {YP : World → Heap → Prop} {d : DefRec} {K : Params → PySem.W.Frag} (hn : l.most = some 63) (hdf : d.params.defaults = [])
    (hY : ∀ (w : World) (h : Heap), YP w h → (K w.params).In h)
    (F : ∀ (w : World) (mg : Str → Option Value) (fa : Addr) (h : Heap), (K w.params).In h → h.Ns mainGlobals mg → mg d.name = some (.ref fa) →
      ∃ fd : FuncData, (∀ (s : Shared) (u : Value), BindsTo s fd ⟨[u], []⟩ [("_law_script", u)]) ∧ ∀ base : Heap, (K w.params).In base → base.Ns mainGlobals mg → FnOk l.prog w (K w.params) mg base CX0 10 fa fd ["_law_script"] (spLaw (K w.params))) :
    PySem.W.WalkO q loose XP YP l.row.toRowW d [] (fun f vs => PySem.call f vs) :=
  L2.walk_of (n := 63) (k := 10) (x := "_law_script") (CX := fun _ => CX0) (sp := fun w => spLaw (K w.params)) hn (by decide) hdf ⟨rfl, by decide, by decide⟩ hY F (fun _ _ a ns hl _ hS => ⟨a, ns, rfl, hS, hl, fun _ => rfl⟩) fun _ _ _ _ _ z => z
end Wk
open PySem PySem.W PyProof.Rows in
set_option maxRecDepth 100000 in
set_option maxHeartbeats 0 in
theorem PySem.Challenge.cw_hushnotice_k16_rules_written_holds : PySem.Challenge.rw_hushnotice_k16_rules_written.Holds := by
  w_on; o_law; k_head; (case hw => w_witness2)
  k_fill
  refine Wk.walk (l := PySem.Challenge.rw_hushnotice_k16_rules_written) rfl rfl (fun w h Y => PySem.W.kIn_of Y) ?F
  case F =>
    intro w mg fa h KX G hmg
    refine' Wk.all_mk Wk.plain KX G hmg ?aC_Reader ?a0 ?l0 ?c0 ?k0 ?a1 ?l1 ?c1 ?k1 ?a2 ?l2 ?c2 ?k2 ?a3 ?l3 ?c3 ?k3 ?a4 ?l4 ?c4 ?k4 ?a5 ?l5 ?c5 ?k5 ?a6 ?l6 ?c6 ?k6 ?a7 ?l7 ?c7 ?k7 ?a8 ?l8 ?c8 ?k8 ?a9 ?i9 ?l9 ?c9 ?k9 ?a10 ?l10 ?c10 ?k10 ?a11 ?i11 ?l11 ?c11 ?k11 ?a12 ?l12 ?c12 ?k12 ?a13 ?l13 ?c13 ?k13 ?a14 ?l14 ?c14 ?k14 ?a15 ?l15 ?c15 ?k15 ?a16 ?l16 ?c16 ?k16 ?a17 ?l17 ?c17 ?k17 ?a18 ?l18 ?c18 ?k18 ?a19 ?l19 ?c19 ?k19 ?a20 ?l20 ?c20 ?k20 ?a21 ?l21 ?c21 ?k21 ?pg_Reader ?hd_Reader ?po_Reader ?sa_Reader ?mk_Reader ?kc_Reader ?x_Reader_found ?x_Reader_notices ?x_Reader_stage ?n_all ?n_bool ?n_enumerate ?n_int ?n_isinstance ?n_len ?n_list ?n_min ?n_range ?n_set ?n_sorted ?n_str ?n_tuple ?g_DAY ?g_FIGURES ?g_GATHER ?g_HUSH ?g_LINE ?g_MOST_BORN ?g_MOST_GATHERED ?g_MOST_HUSHED ?g_MOST_KIND ?g_MOST_NOTICES ?g_MOST_PERSONS ?g_MOST_RANK ?g_MOST_SPAN ?g_MOST_WAIT ?g_NONE ?g_NOTICE ?g_PERSON
    (case aC_Reader => k_is)
    (case a0 => k_is)
    (case l0 => k_is)
    (case c0 => k_is)
    (case k0 => k_is)
    (case a1 => k_is)
    (case l1 => k_is)
    (case c1 => k_is)
    (case k1 => k_is)
    (case a2 => k_is)
    (case l2 => k_is)
    (case c2 => k_is)
    (case k2 => k_is)
    (case a3 => k_is)
    (case l3 => k_is)
    (case c3 => k_is)
    (case k3 => k_is)
    (case a4 => k_is)
    (case l4 => k_is)
    (case c4 => k_is)
    (case k4 => k_is)
    (case a5 => k_is)
    (case l5 => k_is)
    (case c5 => k_is)
    (case k5 => k_is)
    (case a6 => k_is)
    (case l6 => k_is)
    (case c6 => k_is)
    (case k6 => k_is)
    (case a7 => k_is)
    (case l7 => k_is)
    (case c7 => k_is)
    (case k7 => k_is)
    (case a8 => k_is)
    (case l8 => k_is)
    (case c8 => k_is)
    (case k8 => k_is)
    (case a9 => k_is)
    (case i9 => k_is)
    (case l9 => k_is)
    (case c9 => k_is)
    (case k9 => k_is)
    (case a10 => k_is)
    (case l10 => k_is)
    (case c10 => k_is)
    (case k10 => k_is)
    (case a11 => k_is)
    (case i11 => k_is)
    (case l11 => k_is)
    (case c11 => k_is)
    (case k11 => k_is)
    (case a12 => k_is)
    (case l12 => k_is)
    (case c12 => k_is)
    (case k12 => k_is)
    (case a13 => k_is)
    (case l13 => k_is)
    (case c13 => k_is)
    (case k13 => k_is)
    (case a14 => k_is)
    (case l14 => k_is)
    (case c14 => k_is)
    (case k14 => k_is)
    (case a15 => k_is)
    (case l15 => k_is)
    (case c15 => k_is)
    (case k15 => k_is)
    (case a16 => k_is)
    (case l16 => k_is)
    (case c16 => k_is)
    (case k16 => k_is)
    (case a17 => k_is)
    (case l17 => k_is)
    (case c17 => k_is)
    (case k17 => k_is)
    (case a18 => k_is)
    (case l18 => k_is)
    (case c18 => k_is)
    (case k18 => k_is)
    (case a19 => k_is)
    (case l19 => k_is)
    (case c19 => k_is)
    (case k19 => k_is)
    (case a20 => k_is)
    (case l20 => k_is)
    (case c20 => k_is)
    (case k20 => k_is)
    (case a21 => k_is)
    (case l21 => k_is)
    (case c21 => k_is)
    (case k21 => k_is)
    (case pg_Reader => k_is)
    (case hd_Reader => k_is)
    (case po_Reader => k_is)
    (case sa_Reader => k_is)
    (case mk_Reader => k_is)
    (case kc_Reader => k_is)
    (case x_Reader_found => k_is)
    (case x_Reader_notices => k_is)
    (case x_Reader_stage => k_is)
    (case n_all => k_is)
    (case n_bool => k_is)
    (case n_enumerate => k_is)
    (case n_int => k_is)
    (case n_isinstance => k_is)
    (case n_len => k_is)
    (case n_list => k_is)
    (case n_min => k_is)
    (case n_range => k_is)
    (case n_set => k_is)
    (case n_sorted => k_is)
    (case n_str => k_is)
    (case n_tuple => k_is)
    (case g_DAY => k_is)
    (case g_FIGURES => k_is)
    (case g_GATHER => k_is)
    (case g_HUSH => k_is)
    (case g_LINE => k_is)
    (case g_MOST_BORN => k_is)
    (case g_MOST_GATHERED => k_is)
    (case g_MOST_HUSHED => k_is)
    (case g_MOST_KIND => k_is)
    (case g_MOST_NOTICES => k_is)
    (case g_MOST_PERSONS => k_is)
    (case g_MOST_RANK => k_is)
    (case g_MOST_SPAN => k_is)
    (case g_MOST_WAIT => k_is)
    (case g_NONE => k_is)
    (case g_NOTICE => k_is)
    (case g_PERSON => k_is)
