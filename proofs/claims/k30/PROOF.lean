import PyProof.Rows.All
import Wide.All
import OpenK.AllK
import Wide.FinOn
import HandS.ForMost
import HandS.Walk
import HandS.TupAny
import HandS.TupMul
import HandS.Style
import HandS.Wide
import HandS.IsInst
import HandS.Defaults
import KE.GoesEnum
import PySem.Challenge.RW_allapart_k30_whole_counts_of_one_story
set_option Elab.async false
set_option linter.all false
set_option maxRecDepth 100000
set_option maxHeartbeats 4000000
/-! DL1: plain data in place of addresses. -/
namespace DL
open PySem L2

/-- plain data -/
inductive D where
  | non
  | bl (b : Bool)
  | int (i : Int)
  | str (x : Str)
  | tup (xs : List D)
  | lst (xs : List D)
  | frz (xs : List D)
  | obj (C : Addr) (fs : List (Str × D))
  | tok (a b : Addr)

abbrev Tks := List (Addr × Addr)
/-- a list, a tuple of the written part -/
def KLst (K : PySem.W.Frag) (a : Addr) (vs : List V) : Prop :=
  ∃ (o : Obj) (its : Array Value) (n : Nat), K.lookup a = some o ∧ o.cls = .type "list" ∧ o.dict = none ∧ o.data = .seq its n ∧ its.size ≤ sizeLine ∧ Vals vs its.toList
def KTup (K : PySem.W.Frag) (a : Addr) (vs : List V) : Prop :=
  ∃ (o : Obj) (its : Array Value) (n : Nat), K.lookup a = some o ∧ o.cls = .type "tuple" ∧ o.data = .seq its n ∧ its.size ≤ sizeLine ∧ Vals vs its.toList
def LstAt (O : Addr → Prop) (H : Hp) (a : Addr) (vs : List V) : Prop := ¬ O a ∧ H a = some (.lst vs)
/-- a list that is read alone -/
def FrzAt (K : PySem.W.Frag) (O : Addr → Prop) (H : Hp) (a : Addr) (vs : List V) : Prop := (¬ O a ∧ ∃ o, H a = some (.frz o (.lst vs))) ∨ KLst K a vs
def TupAt (K : PySem.W.Frag) (O : Addr → Prop) (H : Hp) (a : Addr) (vs : List V) : Prop := (¬ O a ∧ H a = some (.tup vs)) ∨ KTup K a vs
theorem FrzAt.sq {K : PySem.W.Frag} {O : Addr → Prop} {H : Hp} {a : Addr} {vs : List V} (h : FrzAt K O H a vs) : SqL K H a vs := h.imp (fun q => .inr q.2) id
theorem TupAt.sq {K : PySem.W.Frag} {O : Addr → Prop} {H : Hp} {a : Addr} {vs : List V} (h : TupAt K O H a vs) : SqT K H a vs := h.imp (fun q => .inl q.2) id

section
variable (K : PySem.W.Frag) (O : Addr → Prop) (T : Tks) (H : Hp)
mutual
/-- the value v stands for the data -/
def Rep : D → V → Prop
  | .non, v => v = .non
  | .bl b, v => v = .bl b
  | .int i, v => v = .int i
  | .str x, v => v = .str x
  | .tup ds, v => ∃ a vs, v = .ref a ∧ TupAt K O H a vs ∧ RepL ds vs
  | .lst ds, v => ∃ a vs, v = .ref a ∧ LstAt O H a vs ∧ RepL ds vs
  | .frz ds, v => ∃ a vs, v = .ref a ∧ FrzAt K O H a vs ∧ RepL ds vs
  | .obj C fs, v => ∃ a dx gs, v = .ref a ∧ ¬ O a ∧ H a = some (.ins C dx gs) ∧ RepF fs gs
  | .tok a b, v => v = .ref a ∧ (a, b) ∈ T
def RepL : List D → List V → Prop
  | [], vs => vs = []
  | d :: ds, vs => ∃ v r, vs = v :: r ∧ Rep d v ∧ RepL ds r
def RepF : List (Str × D) → List (Str × V) → Prop
  | [], gs => gs = []
  | (n, d) :: fs, gs => ∃ v r, gs = (n, v) :: r ∧ Rep d v ∧ RepF fs r
end
end

section
variable {K : PySem.W.Frag} {O O' : Addr → Prop} {T T' : Tks} {H H' : Hp}
theorem at_mono {a : Addr} {u : HO} (hH : ∀ a o, H a = some o → ¬ O a → H' a = some o) (hO : ∀ a, O' a → O a ∨ H a = none) (h : ¬ O a ∧ H a = some u) : ¬ O' a ∧ H' a = some u :=
  ⟨fun z => (hO a z).elim h.1 fun e => (by rw [e] at h; cases h.2), hH a _ h.2 h.1⟩
mutual
theorem Rep.mono (hH : ∀ a o, H a = some o → ¬ O a → H' a = some o) (hO : ∀ a, O' a → O a ∨ H a = none) (hT : ∀ p ∈ T, p ∈ T') : ∀ (d : D) (v : V), Rep K O T H d v → Rep K O' T' H' d v
  | .non, v, h => h
  | .bl _, v, h => h
  | .int _, v, h => h
  | .str _, v, h => h
  | .tup ds, v, h => by
    obtain ⟨a, vs, e, t, r⟩ := h
    exact ⟨a, vs, e, t.imp (at_mono hH hO) id, RepL.mono hH hO hT ds vs r⟩
  | .lst ds, v, h => by
    obtain ⟨a, vs, e, t, r⟩ := h
    exact ⟨a, vs, e, at_mono hH hO t, RepL.mono hH hO hT ds vs r⟩
  | .frz ds, v, h => by
    obtain ⟨a, vs, e, t, r⟩ := h
    exact ⟨a, vs, e, t.imp (fun ⟨n, o, q⟩ => let z := at_mono hH hO ⟨n, q⟩; ⟨z.1, o, z.2⟩) id, RepL.mono hH hO hT ds vs r⟩
  | .obj C fs, v, h => by
    obtain ⟨a, dx, gs, e, n, t, r⟩ := h
    exact ⟨a, dx, gs, e, fun z => (hO a z).elim n fun q => (by rw [q] at t; cases t), hH a _ t n, RepF.mono hH hO hT fs gs r⟩
  | .tok a b, v, h => ⟨h.1, hT _ h.2⟩
theorem RepL.mono (hH : ∀ a o, H a = some o → ¬ O a → H' a = some o) (hO : ∀ a, O' a → O a ∨ H a = none) (hT : ∀ p ∈ T, p ∈ T') : ∀ (ds : List D) (vs : List V), RepL K O T H ds vs → RepL K O' T' H' ds vs
  | [], vs, h => h
  | d :: ds, vs, h => by
    obtain ⟨v, r, e, h1, h2⟩ := h
    exact ⟨v, r, e, Rep.mono hH hO hT d v h1, RepL.mono hH hO hT ds r h2⟩
theorem RepF.mono (hH : ∀ a o, H a = some o → ¬ O a → H' a = some o) (hO : ∀ a, O' a → O a ∨ H a = none) (hT : ∀ p ∈ T, p ∈ T') : ∀ (fs : List (Str × D)) (gs : List (Str × V)), RepF K O T H fs gs → RepF K O' T' H' fs gs
  | [], gs, h => h
  | (n, d) :: fs, gs, h => by
    obtain ⟨v, r, e, h1, h2⟩ := h
    exact ⟨v, r, e, Rep.mono hH hO hT d v h1, RepF.mono hH hO hT fs r h2⟩
end
theorem RepL.length : ∀ {ds : List D} {vs : List V}, RepL K O T H ds vs → vs.length = ds.length
  | [], vs, h => by rw [show vs = [] from h]; rfl
  | d :: ds, vs, h => by
    obtain ⟨v, r, e, _, h2⟩ := h
    rw [e, List.length_cons, List.length_cons, RepL.length h2]
theorem RepL.get : ∀ {ds : List D} {vs : List V} {i : Nat} {v : V}, RepL K O T H ds vs → vs[i]? = some v → ∃ d, ds[i]? = some d ∧ Rep K O T H d v
  | [], vs, i, v, h, e => by rw [show vs = [] from h] at e; simp at e
  | d :: ds, vs, 0, v, h, e => by
    obtain ⟨w, r, e1, h1, h2⟩ := h
    rw [e1] at e
    cases e
    exact ⟨d, rfl, h1⟩
  | d :: ds, vs, i + 1, v, h, e => by
    obtain ⟨w, r, e1, h1, h2⟩ := h
    rw [e1] at e
    exact RepL.get (i := i) h2 e
theorem RepL.at : ∀ {ds : List D} {vs : List V} {i : Nat} {d : D}, RepL K O T H ds vs → ds[i]? = some d → ∃ v, vs[i]? = some v ∧ Rep K O T H d v
  | [], vs, i, d, h, e => by simp at e
  | d :: ds, vs, 0, y, h, e => by
    obtain ⟨w, r, e1, h1, h2⟩ := h
    cases e
    exact ⟨w, by rw [e1]; rfl, h1⟩
  | d :: ds, vs, i + 1, y, h, e => by
    obtain ⟨w, r, e1, h1, h2⟩ := h
    rw [e1]
    exact RepL.at (i := i) h2 e
theorem RepL.append : ∀ {ds es : List D} {vs ws : List V}, RepL K O T H ds vs → RepL K O T H es ws → RepL K O T H (ds ++ es) (vs ++ ws)
  | [], es, vs, ws, h, g => by rw [show vs = [] from h]; exact g
  | d :: ds, es, vs, ws, h, g => by
    obtain ⟨w, r, e1, h1, h2⟩ := h
    exact ⟨w, r ++ ws, by rw [e1]; rfl, h1, RepL.append h2 g⟩
theorem RepL.take : ∀ {ds : List D} {vs : List V} (n : Nat), RepL K O T H ds vs → RepL K O T H (ds.take n) (vs.take n)
  | ds, vs, 0, h => by show vs.take 0 = []; rfl
  | [], vs, n + 1, h => by rw [show vs = [] from h]; rfl
  | d :: ds, vs, n + 1, h => by
    obtain ⟨w, r, e1, h1, h2⟩ := h
    exact ⟨w, r.take n, by rw [e1]; rfl, h1, RepL.take n h2⟩
theorem RepL.drop : ∀ {ds : List D} {vs : List V} (n : Nat), RepL K O T H ds vs → RepL K O T H (ds.drop n) (vs.drop n)
  | ds, vs, 0, h => h
  | [], vs, n + 1, h => by rw [show vs = [] from h]; rfl
  | d :: ds, vs, n + 1, h => by
    obtain ⟨w, r, e1, h1, h2⟩ := h
    rw [e1]
    exact RepL.drop n h2
theorem RepL.set : ∀ {ds : List D} {vs : List V} (i : Nat) {d : D} {v : V}, Rep K O T H d v → RepL K O T H ds vs → RepL K O T H (ds.set i d) (vs.set i v)
  | [], vs, i, d, v, q, h => by rw [show vs = [] from h]; rfl
  | e :: ds, vs, 0, d, v, q, h => by
    obtain ⟨w, r, e1, h1, h2⟩ := h
    rw [e1]
    exact ⟨v, r, rfl, q, h2⟩
  | e :: ds, vs, i + 1, d, v, q, h => by
    obtain ⟨w, r, e1, h1, h2⟩ := h
    rw [e1]
    exact ⟨w, r.set i v, rfl, h1, RepL.set i q h2⟩
theorem RepL.reverse : ∀ {ds : List D} {vs : List V}, RepL K O T H ds vs → RepL K O T H ds.reverse vs.reverse
  | [], vs, h => by rw [show vs = [] from h]; rfl
  | d :: ds, vs, h => by
    obtain ⟨w, r, e1, h1, h2⟩ := h
    rw [e1, List.reverse_cons, List.reverse_cons]
    exact RepL.append (RepL.reverse h2) ⟨w, [], rfl, h1, rfl⟩
theorem RepL.dropLast : ∀ {ds : List D} {vs : List V}, RepL K O T H ds vs → RepL K O T H ds.dropLast vs.dropLast := fun {ds vs} h => by
  rw [List.dropLast_eq_take, List.dropLast_eq_take, h.length]
  exact RepL.take _ h
theorem RepL.rep {ds : List D} {vs : List V} (h : RepL K O T H ds vs) : ∀ k : Nat, RepL K O T H (List.replicate k ds).flatten (List.replicate k vs).flatten
  | 0 => rfl
  | k + 1 => by
    rw [List.replicate_succ, List.replicate_succ, List.flatten_cons, List.flatten_cons]
    exact RepL.append h (RepL.rep h k)
theorem RepL.eraseIdx : ∀ {ds : List D} {vs : List V} (i : Nat), RepL K O T H ds vs → RepL K O T H (ds.eraseIdx i) (vs.eraseIdx i)
  | [], vs, i, h => by rw [show vs = [] from h]; rfl
  | d :: ds, vs, 0, h => by
    obtain ⟨w, r, e1, h1, h2⟩ := h
    rw [e1]
    exact h2
  | d :: ds, vs, i + 1, h => by
    obtain ⟨w, r, e1, h1, h2⟩ := h
    rw [e1]
    exact ⟨w, r.eraseIdx i, rfl, h1, RepL.eraseIdx i h2⟩
theorem RepL.ints : ∀ {ns : List Int} {vs : List V}, RepL K O T H (ns.map D.int) vs → vs = ns.map V.int
  | [], vs, h => h
  | n :: ns, vs, h => by
    obtain ⟨w, r, e1, h1, h2⟩ := h
    rw [e1, RepL.ints h2, show w = V.int n from h1]; rfl
theorem RepL.ofInts : ∀ (ns : List Int), RepL K O T H (ns.map D.int) (ns.map V.int)
  | [] => rfl
  | n :: ns => ⟨_, _, rfl, rfl, RepL.ofInts ns⟩
theorem RepL.bls : ∀ {ns : List Bool} {vs : List V}, RepL K O T H (ns.map D.bl) vs → vs = ns.map V.bl
  | [], vs, h => h
  | n :: ns, vs, h => by
    obtain ⟨w, r, e1, h1, h2⟩ := h
    rw [e1, RepL.bls h2, show w = V.bl n from h1]; rfl
theorem RepF.lookup : ∀ {fs : List (Str × D)} {gs : List (Str × V)} {n : Str} {d : D}, RepF K O T H fs gs → fs.lookup n = some d → ∃ v, gs.lookup n = some v ∧ Rep K O T H d v
  | [], gs, n, d, h, e => by simp at e
  | (m, y) :: fs, gs, n, d, h, e => by
    obtain ⟨w, r, e1, h1, h2⟩ := h
    rw [e1]
    rw [List.lookup_cons] at e ⊢
    cases hb : n == m with
    | true =>
      rw [hb] at e
      cases e
      exact ⟨w, rfl, h1⟩
    | false =>
      rw [hb] at e
      exact RepF.lookup h2 e
theorem RepF.length : ∀ {fs : List (Str × D)} {gs : List (Str × V)}, RepF K O T H fs gs → gs.length = fs.length
  | [], gs, h => by rw [show gs = [] from h]; rfl
  | (n, d) :: fs, gs, h => by
    obtain ⟨w, r, e1, h1, h2⟩ := h
    rw [e1, List.length_cons, List.length_cons, RepF.length h2]
end

/-! ### the frame -/
/-- what a name, or a pending value, holds: shared data, a list that it alone holds, an object that is being made -/
inductive SV where
  | sh (d : D)
  | ow (ds : List D)
  | ob (x : Addr) (C : Addr) (fs : List (Str × D))
def SV.own : SV → Bool
  | .sh _ => false
  | _ => true
abbrev DS := List (Option SV)
/-- the heap, the owned addresses, the tokens at the entry -/
structure FrC where
  H : Hp
  O : Addr → Prop
  T : Tks
/-- what is always so of a token -/
structure Tk where
  ok : Hp → Addr → Addr → Prop
  loc : ∀ H H' a b, H' a = H a → H' b = H b → ok H a b → ok H' a b
  there : ∀ H a b, ok H a b → H a ≠ none ∧ H b ≠ none
def offT (T : Tks) (a : Addr) : Prop := ∀ p ∈ T, a ≠ p.1 ∧ a ≠ p.2
section
variable (tk : Tk) (K : PySem.W.Frag)
def RepS (F : FrC) (O : Addr → Prop) (T : Tks) (H : Hp) : SV → V → Prop
  | .sh d, v => Rep K O T H d v
  | .ow ds, v => ∃ a vs, v = .ref a ∧ O a ∧ F.H a = none ∧ offT T a ∧ H a = some (.lst vs) ∧ RepL K O T H ds vs
  | .ob x C fs, v => ∃ dx gs, v = .ref x ∧ O x ∧ F.H x = none ∧ offT T x ∧ H x = some (.ins C dx gs) ∧ RepF K O T H fs gs
abbrev Pn := List (V × SV)
structure DIx (F : FrC) (pn : Pn) (σ : St) (H : Hp) (d : DS) (O : Addr → Prop) (T : Tks) : Prop where
  len : d.length = σ.length
  ext : ∀ a o, F.H a = some o → offT F.T a → H a = some o
  keep : ∀ a, F.H a ≠ none → H a ≠ none
  up : ∀ a, F.O a → O a
  fdom : ∀ a, F.O a → F.H a ≠ none
  dom : ∀ a, O a → H a ≠ none
  new : ∀ a, O a → F.O a ∨ F.H a = none
  sub : ∀ p ∈ F.T, p ∈ T
  tnew : ∀ p ∈ T, p ∈ F.T ∨ (F.H p.1 = none ∧ F.H p.2 = none)
  tok : ∀ p ∈ T, O p.1 ∧ O p.2 ∧ tk.ok H p.1 p.2
  sl : ∀ (i : Nat) (s : SV), d[i]? = some (some s) → ∃ v, σ[i]? = some (some v) ∧ RepS K F O T H s v
  pe : ∀ p ∈ pn, RepS K F O T H p.2 p.1
  ss : ∀ (i j : Nat) (s t : SV) (v : V), i ≠ j → d[i]? = some (some s) → s.own = true → d[j]? = some (some t) → t.own = true → σ[i]? = some (some v) → σ[j]? ≠ some (some v)
  sp : ∀ (i : Nat) (s : SV) (v : V), d[i]? = some (some s) → s.own = true → σ[i]? = some (some v) → ∀ q ∈ pn, q.2.own = true → q.1 ≠ v
  pp : pn.Pairwise fun p q => p.2.own = true → q.2.own = true → p.1 ≠ q.1
def DI (F : FrC) (pn : Pn) (σ : St) (H : Hp) (d : DS) : Prop := ∃ O T, DIx tk K F pn σ H d O T
end

section
variable {tk : Tk} {K : PySem.W.Frag} {F : FrC} {pn pn' : Pn} {σ : St} {H H' : Hp} {d : DS} {O O' : Addr → Prop} {T T' : Tks}
/-- the heap is changed at addresses that the data lean on nowhere -/
theorem RepS.mono (hH : ∀ a o, H a = some o → ¬ O a → H' a = some o) (hO : ∀ a, O' a → O a ∨ H a = none) (hT : ∀ p ∈ T, p ∈ T') {s : SV} {v : V}
    (hw : s.own = true → ∀ a, v = .ref a → H' a = H a ∧ O' a ∧ offT T' a) (h : RepS K F O T H s v) : RepS K F O' T' H' s v := by
  cases s with
  | sh x => exact Rep.mono hH hO hT x v h
  | ow xs =>
    obtain ⟨a, vs, e, o, n, f, q, r⟩ := h
    obtain ⟨e1, e2, e3⟩ := hw rfl a e
    exact ⟨a, vs, e, e2, n, e3, by rw [e1]; exact q, RepL.mono hH hO hT xs vs r⟩
  | ob x C fs =>
    obtain ⟨dx, gs, e, o, n, f, q, r⟩ := h
    obtain ⟨e1, e2, e3⟩ := hw rfl x e
    exact ⟨dx, gs, e, e2, n, e3, by rw [e1]; exact q, RepF.mono hH hO hT fs gs r⟩
theorem RepS.ownAt {s : SV} {v : V} (h : RepS K F O T H s v) (w : s.own = true) : ∃ a, v = .ref a ∧ O a ∧ F.H a = none ∧ offT T a ∧ H a ≠ none := by
  cases s with
  | sh x => cases w
  | ow xs =>
    obtain ⟨a, vs, e, o, n, f, q, r⟩ := h
    exact ⟨a, e, o, n, f, by rw [q]; exact Option.some_ne_none _⟩
  | ob x C fs =>
    obtain ⟨dx, gs, e, o, n, f, q, r⟩ := h
    exact ⟨x, e, o, n, f, by rw [q]; exact Option.some_ne_none _⟩
/-- fewer pending values -/
theorem DIx.drop (I : DIx tk K F pn σ H d O T) (h : List.Sublist pn' pn) : DIx tk K F pn' σ H d O T :=
  { I with pe := fun p hp => I.pe p (h.subset hp), sp := fun i s v a b c q hq => I.sp i s v a b c q (h.subset hq), pp := I.pp.sublist h }
theorem DI.drop (I : DI tk K F pn σ H d) (h : List.Sublist pn' pn) : DI tk K F pn' σ H d := let ⟨O, T, J⟩ := I; ⟨O, T, J.drop h⟩
theorem DI.tail {p : V × SV} (I : DI tk K F (p :: pn) σ H d) : DI tk K F pn σ H d := I.drop (List.sublist_cons_self _ _)
/-- a pending value that is shared -/
theorem DIx.add (I : DIx tk K F pn σ H d O T) {v : V} {x : D} (r : Rep K O T H x v) : DIx tk K F ((v, .sh x) :: pn) σ H d O T :=
  { I with
    pe := fun p hp => by
      rcases List.mem_cons.mp hp with e | hp
      · subst e; exact r
      · exact I.pe p hp
    sp := fun i s u a b c q hq w => by
      rcases List.mem_cons.mp hq with e | hq
      · subst e; cases w
      · exact I.sp i s u a b c q hq w
    pp := List.Pairwise.cons (fun q _ w => by cases w) I.pp }
/-- a fresh object is laid -/
theorem DIx.fresh (I : DIx tk K F pn σ H d O T) {p : Addr} {o : HO} (hp : H p = none) : DIx tk K F pn σ (upd H p o) d O T := by
  have hH : ∀ a u, H a = some u → (upd H p o) a = some u := fun a u e => by rw [upd_ne (ne_of_none e hp)]; exact e
  have hS : ∀ a, H a ≠ none → (upd H p o) a = H a := fun a e => upd_ne fun z => e (by rw [z]; exact hp)
  have mv : ∀ {s : SV} {v : V}, RepS K F O T H s v → RepS K F O T (upd H p o) s v := fun {s v} r => r.mono (fun a u e _ => hH a u e) (fun a z => .inl z) (fun _ z => z) fun w a e => by
    obtain ⟨b, eb, ob, _, ft, nb⟩ := r.ownAt w
    have q : a = b := V.ref.inj (e.symm.trans eb)
    subst q
    exact ⟨hS a nb, ob, ft⟩
  refine { I with ext := fun a u e f => hH a u (I.ext a u e f), keep := fun a e => ?_, dom := fun a e => ?_, tok := fun q hq => ?_, sl := fun i s e => ?_, pe := fun q hq => mv (I.pe q hq) }
  · rw [hS a (I.keep a e)]; exact I.keep a e
  · rw [hS a (I.dom a e)]; exact I.dom a e
  · obtain ⟨h1, h2, h3⟩ := I.tok q hq
    obtain ⟨t1, t2⟩ := tk.there _ _ _ h3
    exact ⟨h1, h2, tk.loc _ _ _ _ (hS _ t1) (hS _ t2) h3⟩
  · obtain ⟨v, e1, r⟩ := I.sl i s e
    exact ⟨v, e1, mv r⟩
/-- a fresh address is owned -/
theorem DIx.own (I : DIx tk K F pn σ H d O T) {p : Addr} {o : HO} (hp : H p = none) : DIx tk K F pn σ (upd H p o) d (fun a => O a ∨ a = p) T := by
  have hH : ∀ a u, H a = some u → (upd H p o) a = some u := fun a u e => by rw [upd_ne (ne_of_none e hp)]; exact e
  have hS : ∀ a, H a ≠ none → (upd H p o) a = H a := fun a e => upd_ne fun z => e (by rw [z]; exact hp)
  have mv : ∀ {s : SV} {v : V}, RepS K F O T H s v → RepS K F (fun a => O a ∨ a = p) T (upd H p o) s v := fun {s v} r => r.mono (fun a u e _ => hH a u e) (fun a z => z.imp id fun e => by rw [e]; exact hp) (fun _ z => z) fun w a e => by
    obtain ⟨b, eb, ob, _, ft, nb⟩ := r.ownAt w
    have q : a = b := V.ref.inj (e.symm.trans eb)
    subst q
    exact ⟨hS a nb, .inl ob, ft⟩
  have J := I.fresh (o := o) hp
  refine { J with up := fun a e => .inl (I.up a e), dom := fun a e => ?_, new := fun a e => ?_, tok := fun q hq => ?_, sl := fun i s e => ?_, pe := fun q hq => mv (I.pe q hq) }
  · rcases e with e | e
    · exact J.dom a e
    · subst e; rw [upd_same]; exact Option.some_ne_none _
  · rcases e with e | e
    · exact I.new a e
    · subst e
      refine .inr ?_
      cases z : F.H a with
      | none => rfl
      | some u => exact absurd hp (I.keep a (by rw [z]; exact Option.some_ne_none _))
  · obtain ⟨h1, h2, h3⟩ := J.tok q hq
    exact ⟨.inl h1, .inl h2, h3⟩
  · obtain ⟨v, e1, r⟩ := I.sl i s e
    exact ⟨v, e1, mv r⟩
theorem DIx.freshF (I : DIx tk K F pn σ H d O T) {p : Addr} (hp : H p = none) : F.H p = none := by
  cases z : F.H p with
  | none => rfl
  | some u => exact absurd hp (I.keep p (by rw [z]; exact Option.some_ne_none _))
theorem DIx.freshT (I : DIx tk K F pn σ H d O T) {p : Addr} (hp : H p = none) : offT T p := fun q hq => by
  obtain ⟨_, _, h3⟩ := I.tok q hq
  obtain ⟨t1, t2⟩ := tk.there _ _ _ h3
  exact ⟨fun z => t1 (by rw [← z]; exact hp), fun z => t2 (by rw [← z]; exact hp)⟩
/-- a fresh list that is owned, pending -/
theorem DIx.newL (I : DIx tk K F pn σ H d O T) {p : Addr} {vs : List V} {xs : List D} (hp : H p = none) (r : RepL K O T H xs vs) : DIx tk K F ((.ref p, .ow xs) :: pn) σ (upd H p (.lst vs)) d (fun a => O a ∨ a = p) T := by
  have J := I.own (o := .lst vs) hp
  have far : ∀ {s : SV} {v : V}, RepS K F O T H s v → s.own = true → v ≠ .ref p := fun {s v} q w e => by
    obtain ⟨b, eb, ob, _, _, nb⟩ := q.ownAt w
    have z : b = p := V.ref.inj (eb.symm.trans e)
    exact nb (by rw [z]; exact hp)
  refine { J with pe := fun q hq => ?_, sp := fun i s u a b c q hq w => ?_, pp := List.Pairwise.cons (fun q hq w w' e => far (I.pe q hq) w' e.symm) I.pp }
  · rcases List.mem_cons.mp hq with e | hq
    · subst e
      exact ⟨p, vs, rfl, .inr rfl, I.freshF hp, I.freshT hp, upd_same, RepL.mono (fun a u e _ => by rw [upd_ne (ne_of_none e hp)]; exact e) (fun a z => z.imp id fun e => by rw [e]; exact hp) (fun _ z => z) xs vs r⟩
    · exact J.pe q hq
  · rcases List.mem_cons.mp hq with e | hq
    · subst e
      obtain ⟨v, e1, r1⟩ := I.sl i s a
      have : u = v := Option.some.inj (Option.some.inj (c.symm.trans e1))
      subst this
      exact fun z => far r1 b z.symm
    · exact I.sp i s u a b c q hq w
/-- a fresh tuple, shared -/
theorem DIx.newT (I : DIx tk K F pn σ H d O T) {p : Addr} {vs : List V} {xs : List D} (hp : H p = none) (r : RepL K O T H xs vs) : DIx tk K F ((.ref p, .sh (.tup xs)) :: pn) σ (upd H p (.tup vs)) d O T := by
  have J := I.fresh (o := .tup vs) hp
  exact J.add ⟨p, vs, rfl, .inl ⟨fun z => I.dom p z hp, upd_same⟩, RepL.mono (fun a u e _ => by rw [upd_ne (ne_of_none e hp)]; exact e) (fun _ z => .inl z) (fun _ z => z) xs vs r⟩
/-- a pending value goes to a name -/
theorem set_get {α : Type} {l : List (Option α)} {i j : Nat} {x y : α} (h : (l.set i (some x))[j]? = some (some y)) : (j = i ∧ y = x) ∨ (j ≠ i ∧ l[j]? = some (some y)) := by
  by_cases e : i = j
  · subst e
    by_cases hl : i < l.length
    · rw [List.getElem?_set_self hl] at h
      exact .inl ⟨rfl, (Option.some.inj (Option.some.inj h)).symm⟩
    · rw [List.getElem?_eq_none (by simpa using hl)] at h
      cases h
  · rw [List.getElem?_set_ne e] at h
    exact .inr ⟨fun z => e z.symm, h⟩
theorem DIx.toSlot {v : V} {s : SV} {i : Nat} (I : DIx tk K F ((v, s) :: pn) σ H d O T) : DIx tk K F pn (σ.set i (some v)) H (d.set i (some s)) O T := by
  by_cases hi : i < σ.length
  case neg =>
    rw [List.set_eq_of_length_le (by omega), List.set_eq_of_length_le (by rw [I.len]; omega)]
    exact I.drop (List.sublist_cons_self _ _)
  have at_ : (σ.set i (some v))[i]? = some (some v) := List.getElem?_set_self hi
  have ne_ : ∀ {j}, j ≠ i → (σ.set i (some v))[j]? = σ[j]? := fun h => List.getElem?_set_ne (Ne.symm h)
  refine { I with len := (by rw [List.length_set, List.length_set]; exact I.len), sl := fun j t e => ?_, pe := fun p hp => I.pe p (List.mem_cons_of_mem _ hp), ss := fun a b s' t' u hab ea wa eb wb ua => ?_, sp := fun j t u e w eu q hq wq => ?_, pp := (List.pairwise_cons.mp I.pp).2 }
  · rcases set_get e with ⟨e1, e2⟩ | ⟨e1, e2⟩
    · subst e1; subst e2
      exact ⟨v, at_, I.pe _ (List.mem_cons_self)⟩
    · obtain ⟨u, h1, h2⟩ := I.sl j t e2
      exact ⟨u, by rw [ne_ e1]; exact h1, h2⟩
  · rcases set_get ea with ⟨e1, e2⟩ | ⟨e1, e2⟩
    · subst e1; subst e2
      rw [at_] at ua
      obtain rfl : v = u := Option.some.inj (Option.some.inj ua)
      rcases set_get eb with ⟨e3, e4⟩ | ⟨e3, e4⟩
      · exact absurd e3.symm hab
      · rw [ne_ e3]
        intro z
        exact I.sp b t' v e4 wb z (v, s') (List.mem_cons_self) wa rfl
    · rw [ne_ e1] at ua
      rcases set_get eb with ⟨e3, e4⟩ | ⟨e3, e4⟩
      · subst e3; subst e4
        rw [at_]
        intro z
        obtain rfl : v = u := Option.some.inj (Option.some.inj z)
        exact I.sp a s' v e2 wa ua (v, t') (List.mem_cons_self) wb rfl
      · rw [ne_ e3]
        exact I.ss a b s' t' u hab e2 wa e4 wb ua
  · rcases set_get e with ⟨e1, e2⟩ | ⟨e1, e2⟩
    · subst e1; subst e2
      rw [at_] at eu
      obtain rfl : v = u := Option.some.inj (Option.some.inj eu)
      exact fun z => (List.pairwise_cons.mp I.pp).1 q hq w wq z.symm
    · rw [ne_ e1] at eu
      exact I.sp j t u e2 w eu q (List.mem_cons_of_mem _ hq) wq
/-- what is no more owned: O without the addresses -/
theorem RepS.free {a : Addr} {s : SV} {v : V} (h : RepS K F O T H s v) (hw : s.own = true → v ≠ .ref a) : RepS K F (fun b => O b ∧ b ≠ a) T H s v :=
  h.mono (fun _ _ e _ => e) (fun _ z => .inl z.1) (fun _ z => z) fun w b e => by
    obtain ⟨c, ec, oc, _, fc, _⟩ := h.ownAt w
    have q : b = c := V.ref.inj (e.symm.trans ec)
    subst q
    exact ⟨rfl, ⟨oc, fun z => hw w (by rw [e, z])⟩, fc⟩
/-- the data of an owned thing, once it is shared -/
def SV.data : SV → D
  | .sh x => x
  | .ow xs => .lst xs
  | .ob _ C fs => .obj C fs
theorem DIx.ofree (I : DIx tk K F pn σ H d O T) {a : Addr} (hF : F.H a = none) (ht : offT T a) : (∀ b, F.O b → O b ∧ b ≠ a) ∧ (∀ p ∈ T, (O p.1 ∧ p.1 ≠ a) ∧ (O p.2 ∧ p.2 ≠ a) ∧ tk.ok H p.1 p.2) :=
  ⟨fun b q => ⟨I.up b q, fun z => I.fdom b q (by rw [z]; exact hF)⟩, fun p hp => ⟨⟨(I.tok p hp).1, fun z => (ht p hp).1 z.symm⟩, ⟨(I.tok p hp).2.1, fun z => (ht p hp).2 z.symm⟩, (I.tok p hp).2.2⟩⟩
theorem DI.freezeP {v : V} {s : SV} (I : DI tk K F ((v, s) :: pn) σ H d) : DI tk K F ((v, .sh s.data) :: pn) σ H d := by
  obtain ⟨O, T, I⟩ := I
  cases s with
  | sh x => exact ⟨O, T, I⟩
  | ow xs =>
    obtain ⟨a, vs, e, o, n, f, q, r⟩ := I.pe _ (List.mem_cons_self)
    obtain ⟨h1, h2⟩ := I.ofree n f
    refine ⟨fun b => O b ∧ b ≠ a, T, ?_⟩
    refine { I with up := h1, dom := fun b z => I.dom b z.1, new := fun b z => I.new b z.1, tok := h2, sl := fun i s es => ?_, pe := fun p hp => ?_, sp := fun i s u a' b c q hq w => ?_, pp := List.Pairwise.cons (fun q _ w => by cases w) (List.pairwise_cons.mp I.pp).2 }
    · obtain ⟨u, h3, h4⟩ := I.sl i s es
      exact ⟨u, h3, h4.free fun w z => I.sp i s u es w h3 _ (List.mem_cons_self) rfl (by rw [z]; exact e)⟩
    · rcases List.mem_cons.mp hp with ep | hp
      · subst ep
        exact ⟨a, vs, e, ⟨fun z => z.2 rfl, q⟩, RepL.mono (fun _ _ e _ => e) (fun _ z => .inl z.1) (fun _ z => z) xs vs r⟩
      · exact (I.pe p (List.mem_cons_of_mem _ hp)).free fun w z => (List.pairwise_cons.mp I.pp).1 p hp rfl w (by rw [z]; exact e)
    · rcases List.mem_cons.mp hq with eq | hq
      · subst eq; cases w
      · exact I.sp i s u a' b c q (List.mem_cons_of_mem _ hq) w
  | ob x C fs =>
    obtain ⟨dx, gs, e, o, n, f, q, r⟩ := I.pe _ (List.mem_cons_self)
    obtain ⟨h1, h2⟩ := I.ofree n f
    refine ⟨fun b => O b ∧ b ≠ x, T, ?_⟩
    refine { I with up := h1, dom := fun b z => I.dom b z.1, new := fun b z => I.new b z.1, tok := h2, sl := fun i s es => ?_, pe := fun p hp => ?_, sp := fun i s u a' b c q hq w => ?_, pp := List.Pairwise.cons (fun q _ w => by cases w) (List.pairwise_cons.mp I.pp).2 }
    · obtain ⟨u, h3, h4⟩ := I.sl i s es
      exact ⟨u, h3, h4.free fun w z => I.sp i s u es w h3 _ (List.mem_cons_self) rfl (by rw [z]; exact e)⟩
    · rcases List.mem_cons.mp hp with ep | hp
      · subst ep
        exact ⟨x, dx, gs, e, fun z => z.2 rfl, q, RepF.mono (fun _ _ e _ => e) (fun _ z => .inl z.1) (fun _ z => z) fs gs r⟩
      · exact (I.pe p (List.mem_cons_of_mem _ hp)).free fun w z => (List.pairwise_cons.mp I.pp).1 p hp rfl w (by rw [z]; exact e)
    · rcases List.mem_cons.mp hq with eq | hq
      · subst eq; cases w
      · exact I.sp i s u a' b c q (List.mem_cons_of_mem _ hq) w
/-- a name forgotten -/
theorem DIx.forget (I : DIx tk K F pn σ H d O T) (i : Nat) : DIx tk K F pn σ H (d.set i none) O T := by
  have g : ∀ {j s}, (d.set i none)[j]? = some (some s) → d[j]? = some (some s) := fun {j s} e => by
    by_cases z : i = j
    · subst z
      by_cases hl : i < d.length
      · rw [List.getElem?_set_self hl] at e; cases e
      · rw [List.getElem?_eq_none (by simpa using hl)] at e; cases e
    · rw [List.getElem?_set_ne z] at e; exact e
  exact { I with len := (by rw [List.length_set]; exact I.len), sl := fun j s e => I.sl j s (g e), ss := fun a b s t v hab ea wa eb wb => I.ss a b s t v hab (g ea) wa (g eb) wb, sp := fun j s v e => I.sp j s v (g e) }
/-- an owned name's value becomes pending and owned, the name is forgotten -/
theorem DIx.lift (I : DIx tk K F pn σ H d O T) {i : Nat} {s : SV} (e : d[i]? = some (some s)) : ∃ v, σ[i]? = some (some v) ∧ DIx tk K F ((v, s) :: pn) σ H (d.set i none) O T := by
  obtain ⟨v, h1, h2⟩ := I.sl i s e
  refine ⟨v, h1, ?_⟩
  have J := I.forget i
  have g : ∀ {j s}, (d.set i none)[j]? = some (some s) → j ≠ i ∧ d[j]? = some (some s) := fun {j s} e => by
    by_cases z : i = j
    · subst z
      by_cases hl : i < d.length
      · rw [List.getElem?_set_self hl] at e; cases e
      · rw [List.getElem?_eq_none (by simpa using hl)] at e; cases e
    · rw [List.getElem?_set_ne z] at e; exact ⟨fun q => z q.symm, e⟩
  refine { J with pe := fun p hp => ?_, sp := fun j t u a b c q hq w => ?_, pp := List.Pairwise.cons (fun q hq w w' z => I.sp i s v e w h1 q hq w' z.symm) I.pp }
  · rcases List.mem_cons.mp hp with ep | hp
    · subst ep; exact h2
    · exact I.pe p hp
  · rcases List.mem_cons.mp hq with eq | hq
    · subst eq
      intro z
      have z : v = u := z
      subst z
      exact I.ss i j s t v (fun z => (g a).1 z.symm) e w (g a).2 b h1 c
    · exact I.sp j t u (g a).2 b c q hq w
/-- an owned pending list is written -/
theorem DIx.mutP {v : V} {xs ys : List D} (I : DIx tk K F ((v, .ow xs) :: pn) σ H d O T) {a : Addr} {ws : List V} (ev : v = .ref a) (r : RepL K O T H ys ws) : DIx tk K F ((v, .ow ys) :: pn) σ (upd H a (.lst ws)) d O T := by
  obtain ⟨b, vs, e, o, n, f, q, _⟩ := I.pe _ (List.mem_cons_self)
  have eb : a = b := V.ref.inj (ev.symm.trans e)
  subst eb
  have hH : ∀ c u, H c = some u → ¬ O c → (upd H a (.lst ws)) c = some u := fun c u ec nc => by rw [upd_ne fun z => nc (by rw [z]; exact o)]; exact ec
  have mv : ∀ {s : SV} {u : V}, RepS K F O T H s u → (s.own = true → u ≠ v) → RepS K F O T (upd H a (.lst ws)) s u := fun {s u} r hw => r.mono hH (fun _ z => .inl z) (fun _ z => z) fun w c ec => by
    obtain ⟨c', ec', oc, _, fc, _⟩ := r.ownAt w
    have qc : c = c' := V.ref.inj (ec.symm.trans ec')
    subst qc
    exact ⟨upd_ne fun z => hw w (by rw [ec, z, ev]), oc, fc⟩
  have nn : ∀ c, H c ≠ none → (upd H a (.lst ws)) c ≠ none := fun c z => by
    by_cases e : c = a
    · subst e; rw [upd_same]; exact Option.some_ne_none _
    · rw [upd_ne e]; exact z
  refine { I with ext := fun c u ec fc => ?_, keep := fun c z => nn c (I.keep c z), dom := fun c z => nn c (I.dom c z), tok := fun p hp => ?_, sl := fun i s es => ?_, pe := fun p hp => ?_, sp := fun i s u a' b c q hq w => ?_, pp := List.Pairwise.cons (fun q hq w => (List.pairwise_cons.mp I.pp).1 q hq rfl) (List.pairwise_cons.mp I.pp).2 }
  · rw [upd_ne fun z => ?_]
    · exact I.ext c u ec fc
    · rw [z, n] at ec; cases ec
  · obtain ⟨t1, t2, t3⟩ := I.tok p hp
    exact ⟨t1, t2, tk.loc _ _ _ _ (upd_ne fun z => (f p hp).1 z.symm) (upd_ne fun z => (f p hp).2 z.symm) t3⟩
  · obtain ⟨u, h3, h4⟩ := I.sl i s es
    exact ⟨u, h3, mv h4 fun w z => I.sp i s u es w h3 _ (List.mem_cons_self) rfl z.symm⟩
  · rcases List.mem_cons.mp hp with ep | hp
    · subst ep
      exact ⟨a, ws, ev, o, n, f, upd_same, RepL.mono hH (fun _ z => .inl z) (fun _ z => z) ys ws r⟩
    · exact mv (I.pe p (List.mem_cons_of_mem _ hp)) fun w z => (List.pairwise_cons.mp I.pp).1 p hp rfl w z.symm
  · rcases List.mem_cons.mp hq with eq | hq
    · subst eq
      exact I.sp i s u a' b c (v, .ow xs) (List.mem_cons_self) rfl
    · exact I.sp i s u a' b c q (List.mem_cons_of_mem _ hq) w
/-- the attributes of an object that is being made -/
theorem DIx.mutO {v : V} {x C dx : Addr} {fs fs' : List (Str × D)} {gs' : List (Str × V)} (I : DIx tk K F ((v, .ob x C fs) :: pn) σ H d O T) (r : RepF K O T H fs' gs') : DIx tk K F ((v, .ob x C fs') :: pn) σ (upd H x (.ins C dx gs')) d O T := by
  obtain ⟨dx', gs, e, o, n, f, q, _⟩ := I.pe _ (List.mem_cons_self)
  have e : v = .ref x := e
  have hH : ∀ c u, H c = some u → ¬ O c → (upd H x (.ins C dx gs')) c = some u := fun c u ec nc => by rw [upd_ne fun z => nc (by rw [z]; exact o)]; exact ec
  have mv : ∀ {s : SV} {u : V}, RepS K F O T H s u → (s.own = true → u ≠ v) → RepS K F O T (upd H x (.ins C dx gs')) s u := fun {s u} r hw => r.mono hH (fun _ z => .inl z) (fun _ z => z) fun w c ec => by
    obtain ⟨c', ec', oc, _, fc, _⟩ := r.ownAt w
    have qc : c = c' := V.ref.inj (ec.symm.trans ec')
    subst qc
    exact ⟨upd_ne fun z => hw w (by rw [ec, z, e]), oc, fc⟩
  have nn : ∀ c, H c ≠ none → (upd H x (.ins C dx gs')) c ≠ none := fun c z => by
    by_cases e : c = x
    · subst e; rw [upd_same]; exact Option.some_ne_none _
    · rw [upd_ne e]; exact z
  refine { I with ext := fun c u ec fc => ?_, keep := fun c z => nn c (I.keep c z), dom := fun c z => nn c (I.dom c z), tok := fun p hp => ?_, sl := fun i s es => ?_, pe := fun p hp => ?_, sp := fun i s u a' b c q hq w => ?_, pp := List.Pairwise.cons (fun q hq w => (List.pairwise_cons.mp I.pp).1 q hq rfl) (List.pairwise_cons.mp I.pp).2 }
  · rw [upd_ne fun z => ?_]
    · exact I.ext c u ec fc
    · rw [z, n] at ec; cases ec
  · obtain ⟨t1, t2, t3⟩ := I.tok p hp
    exact ⟨t1, t2, tk.loc _ _ _ _ (upd_ne fun z => (f p hp).1 z.symm) (upd_ne fun z => (f p hp).2 z.symm) t3⟩
  · obtain ⟨u, h3, h4⟩ := I.sl i s es
    exact ⟨u, h3, mv h4 fun w z => I.sp i s u es w h3 _ (List.mem_cons_self) rfl z.symm⟩
  · rcases List.mem_cons.mp hp with ep | hp
    · subst ep
      exact ⟨dx, gs', e, o, n, f, upd_same, RepF.mono hH (fun _ z => .inl z) (fun _ z => z) fs' gs' r⟩
    · exact mv (I.pe p (List.mem_cons_of_mem _ hp)) fun w z => (List.pairwise_cons.mp I.pp).1 p hp rfl w z.symm
  · rcases List.mem_cons.mp hq with eq | hq
    · subst eq
      exact I.sp i s u a' b c (v, .ob x C fs) (List.mem_cons_self) rfl
    · exact I.sp i s u a' b c q (List.mem_cons_of_mem _ hq) w
/-- two pending values change places -/
theorem DIx.swap {p q : V × SV} (I : DIx tk K F (p :: q :: pn) σ H d O T) : DIx tk K F (q :: p :: pn) σ H d O T := by
  obtain ⟨h1, h2⟩ := List.pairwise_cons.mp I.pp
  obtain ⟨h3, h4⟩ := List.pairwise_cons.mp h2
  have mem : ∀ {z}, z ∈ q :: p :: pn → z ∈ p :: q :: pn := fun {z} hz => by
    simp only [List.mem_cons] at hz ⊢
    rcases hz with hz | hz | hz
    · exact .inr (.inl hz)
    · exact .inl hz
    · exact .inr (.inr hz)
  refine { I with pe := fun z hz => I.pe z (mem hz), sp := fun i s v a b c z hz => I.sp i s v a b c z (mem hz), pp := List.Pairwise.cons (fun z hz w w' e => ?_) (List.Pairwise.cons (fun z hz => h1 z (List.mem_cons_of_mem _ hz)) h4) }
  rcases List.mem_cons.mp hz with ez | hz
  · subst ez
    exact h1 q (List.mem_cons_self) w' w e.symm
  · exact h3 z hz w w' e
/-- back to the name that it was lifted from (the name still holds the value) -/
theorem DIx.land {v : V} {s : SV} {i : Nat} (I : DIx tk K F ((v, s) :: pn) σ H d O T) (hi : σ[i]? = some (some v)) : DIx tk K F pn σ H (d.set i (some s)) O T := by
  have hl : i < σ.length := (List.getElem?_eq_some_iff.mp hi).1
  have e : σ.set i (some v) = σ := by
    apply List.ext_getElem?
    intro j
    by_cases z : i = j
    · subst z; rw [List.getElem?_set_self hl, hi]
    · rw [List.getElem?_set_ne z]
  have J := I.toSlot (i := i)
  rw [e] at J
  exact J
end
end DL
set_option Elab.async false
set_option linter.all false
set_option maxRecDepth 100000
set_option maxHeartbeats 4000000
/-! DL2: judgements over plain data: expressions. -/
namespace DL
open PySem L2

theorem pe_imp {X : Cx} {e : Expr} {t t' : TE} (h : PE X e t) (w : ∀ σ H k, t' σ H k → t σ H k) : PE X e t' := ⟨fun pins s σ H Q I q => h.run pins s σ H Q I (w σ H Q q)⟩
theorem pt_imp {X : Cx} {e : Expr} {t t' : TT} (h : PT X e t) (w : ∀ σ H k, t' σ H k → t σ H k) : PT X e t' := ⟨fun pins s σ H Q I q => h.run pins s σ H Q I (w σ H Q q)⟩
theorem pw_imp {X : Cx} {e : Expr} {t t' : TT} (h : PW X e t) (w : ∀ σ H k, t' σ H k → t σ H k) : PW X e t' := ⟨fun wh pins s σ H Q I q => h.run wh pins s σ H Q I (w σ H Q q)⟩
theorem pa_imp {X : Cx} {es : List Expr} {t t' : TA} (h : PA X es t) (w : ∀ σ H k, t' σ H k → t σ H k) : PA X es t' := ⟨fun pos pins s σ H Q I q => h.run pos pins s σ H Q I (w σ H Q q)⟩
theorem ps_imp {X : Cx} {st : Stmt} {t t' : TS} (h : PS X st t) (w : ∀ σ H D, t' D σ H → t D σ H) : PS X st t' := ⟨fun pins s σ H D I q => h.run pins s σ H D I (w σ H D q)⟩
theorem pss_imp {X : Cx} {st : List Stmt} {t t' : TS} (h : PSs X st t) (w : ∀ σ H D, t' D σ H → t D σ H) : PSs X st t' := ⟨fun pins s σ H D I q => h.run pins s σ H D I (w σ H D q)⟩
theorem pg_imp {X : Cx} {tg : Expr} {t t' : TG} (h : PG X tg t) (w : ∀ v σ H Q, t' v σ H Q → t v σ H Q) : PG X tg t' := ⟨fun pins s σ H v u Q I r q => h.run pins s σ H v u Q I r (w v σ H Q q)⟩
theorem pgs_imp {X : Cx} {tg : List Expr} {t t' : TGs} (h : PGs X tg t) (w : ∀ v σ H Q, t' v σ H Q → t v σ H Q) : PGs X tg t' := ⟨fun pins s σ H v u Q I r q => h.run pins s σ H v u Q I r (w v σ H Q q)⟩
theorem pi_imp {X : Cx} {tg it : Expr} {t t' : TI} (h : PI X tg it t) (w : ∀ σ H R, t' σ H R → t σ H R) : PI X tg it t' := ⟨fun pins s σ H R I q => h.run pins s σ H R I (w σ H R q)⟩

abbrev DTE := DS → (D → DS → Prop) → Prop
abbrev DTT := DS → (Bool → DS → Prop) → Prop
abbrev DTA := DS → (List D → DS → Prop) → Prop
def pz : List V → List D → Pn
  | v :: vs, x :: xs => (v, .sh x) :: pz vs xs
  | _, _ => []
section
variable (tk : Tk) (K : PySem.W.Frag)
def upE (t : DTE) : TE := fun σ H k => ∃ F pn d Q, DI tk K F pn σ H d ∧ t d Q ∧ ∀ v H' x d', DI tk K F ((v, .sh x) :: pn) σ H' d' → Q x d' → k v H'
def upF (t : DTA) : TE := fun σ H k => ∃ F pn d Q, DI tk K F pn σ H d ∧ t d Q ∧ ∀ v H' x d', DI tk K F ((v, .ow x) :: pn) σ H' d' → Q x d' → k v H'
def upT (t : DTT) : TT := fun σ H k => ∃ F pn d Q, DI tk K F pn σ H d ∧ t d Q ∧ ∀ b H' d', DI tk K F pn σ H' d' → Q b d' → k b H'
def upA (t : DTA) : TA := fun σ H k => ∃ F pn d Q, DI tk K F pn σ H d ∧ t d Q ∧ ∀ vs H' xs d', vs.length = xs.length → DI tk K F (pz vs xs ++ pn) σ H' d' → Q xs d' → k vs H'
end
abbrev DE (tk : Tk) (X : Cx) (e : Expr) (t : DTE) : Prop := PE X e (upE tk X.K t)
/-- a fresh list that nobody else holds -/
abbrev DF (tk : Tk) (X : Cx) (e : Expr) (t : DTA) : Prop := PE X e (upF tk X.K t)
abbrev DT (tk : Tk) (X : Cx) (e : Expr) (t : DTT) : Prop := PT X e (upT tk X.K t)
abbrev DW (tk : Tk) (X : Cx) (e : Expr) (t : DTT) : Prop := PW X e (upT tk X.K t)
abbrev DA (tk : Tk) (X : Cx) (es : List Expr) (t : DTA) : Prop := PA X es (upA tk X.K t)

section
variable {tk : Tk} {K : PySem.W.Frag} {F : FrC} {pn : Pn} {σ : St} {H H' : Hp} {d : DS} {O : Addr → Prop} {T : Tks}
theorem DI.add {v : V} {x : D} (I : DIx tk K F pn σ H d O T) (r : Rep K O T H x v) : DI tk K F ((v, .sh x) :: pn) σ H d := ⟨O, T, I.add r⟩
theorem repL_of : ∀ {vs : List V} {xs : List D}, vs.length = xs.length → (∀ p ∈ pz vs xs, RepS K F O T H p.2 p.1) → RepL K O T H xs vs
  | [], [], _, _ => rfl
  | v :: vs, x :: xs, hl, h => ⟨v, vs, rfl, h (v, .sh x) (List.mem_cons_self), repL_of (by simpa using hl) fun p hp => h p (List.mem_cons_of_mem _ hp)⟩
theorem DIx.args {vs : List V} {xs : List D} (I : DIx tk K F (pz vs xs ++ pn) σ H d O T) (hl : vs.length = xs.length) : RepL K O T H xs vs := repL_of hl fun p hp => I.pe p (List.mem_append_left _ hp)
theorem DIx.less {ps : Pn} (I : DIx tk K F (ps ++ pn) σ H d O T) : DIx tk K F pn σ H d O T := I.drop (List.sublist_append_right _ _)

/-- what may be read: a list whether it is shared or not -/
def RepR (K : PySem.W.Frag) (O : Addr → Prop) (T : Tks) (H : Hp) : D → V → Prop
  | .lst ds, v => ∃ a vs, v = .ref a ∧ H a = some (.lst vs) ∧ RepL K O T H ds vs
  | x, v => Rep K O T H x v
theorem Rep.r {x : D} {v : V} (h : Rep K O T H x v) : RepR K O T H x v := by
  cases x with
  | lst ds => obtain ⟨a, vs, e, t, r⟩ := h; exact ⟨a, vs, e, t.2, r⟩
  | _ => exact h
theorem RepL.mono0 (hH : ∀ a o, H a = some o → ¬ O a → H' a = some o) {xs : List D} {vs : List V} (r : RepL K O T H xs vs) : RepL K O T H' xs vs := RepL.mono hH (fun _ z => .inl z) (fun _ z => z) xs vs r
/-- the data of a name -/
def dPk (i : Nat) (d : DS) : Option D := match d[i]? with
  | some (some (.sh x)) => some x
  | some (some (.ow xs)) => some (.lst xs)
  | _ => none
theorem DIx.pk {i : Nat} {x : D} {v : V} (I : DIx tk K F pn σ H d O T) (h : dPk i d = some x) (hv : σ[i]? = some (some v)) : RepR K O T H x v := by
  unfold dPk at h
  split at h
  · rename_i y e
    cases h
    obtain ⟨u, h1, h2⟩ := I.sl _ _ e
    rw [hv] at h1; cases h1
    exact Rep.r h2
  · rename_i y e
    cases h
    obtain ⟨u, h1, h2⟩ := I.sl _ _ e
    rw [hv] at h1; cases h1
    obtain ⟨a, vs, e, _, _, _, q, r⟩ := h2
    exact ⟨a, vs, e, q, r⟩
  · cases h
theorem DIx.pkv {i : Nat} {x : D} (I : DIx tk K F pn σ H d O T) (h : dPk i d = some x) : ∃ v, σ[i]? = some (some v) := by
  unfold dPk at h
  split at h
  · rename_i y e
    obtain ⟨u, h1, h2⟩ := I.sl _ _ e
    exact ⟨u, h1⟩
  · rename_i y e
    obtain ⟨u, h1, h2⟩ := I.sl _ _ e
    exact ⟨u, h1⟩
  · cases h
end

/-! ### names, constants -/
section
variable {tk : Tk} {X : Cx} {pos : Pos} {a b e : Expr} {ta tb te : DTE}
/-- a name; an owned list becomes shared -/
def dVar (i : Nat) (d : DS) (Q : D → DS → Prop) : Prop := match d[i]? with
  | some (some (.sh x)) => Q x d
  | some (some (.ow xs)) => Q (.lst xs) (d.set i (some (.sh (.lst xs))))
  | _ => False
theorem de_nm {i : Nat} (h : PE X e (tVar i)) : DE tk X e (dVar i) := by
  refine pe_imp h ?_
  rintro σ H k ⟨F, pn, d, Q, ⟨O, T, I⟩, q, c⟩
  unfold dVar at q
  split at q
  · rename_i x e
    obtain ⟨v, h1, h2⟩ := I.sl _ _ e
    exact ⟨v, h1, c v H x d (DI.add I h2) q⟩
  · rename_i x e
    obtain ⟨v, h1, J⟩ := I.lift e
    have hl : i < d.length := (List.getElem?_eq_some_iff.mp e).1
    obtain ⟨O', T', J'⟩ := DI.freezeP ⟨O, T, J⟩
    have r := J'.pe _ (List.mem_cons_self)
    have J2 := DIx.land (i := i) (DIx.add J' r) h1
    rw [List.set_set] at J2
    exact ⟨v, h1, c v H _ _ ⟨O', T', J2⟩ q⟩
  · exact q.elim
def dC (x : D) (d : DS) (Q : D → DS → Prop) : Prop := Q x d
/-- a constant -/
def flatD : D → Option V
  | .non => some .non
  | .bl b => some (.bl b)
  | .int i => some (.int i)
  | .str x => some (.str x)
  | _ => none
theorem Rep.flat {K : PySem.W.Frag} {O : Addr → Prop} {T : Tks} {H : Hp} {x : D} {v : V} (h : flatD x = some v) : Rep K O T H x v := by
  cases x <;> first | (cases h; rfl) | cases h
theorem de_c {x : D} {v : V} (h : PE X e (tC v)) (hx : flatD x = some v) : DE tk X e (dC x) := by
  refine pe_imp h ?_
  rintro σ H k ⟨F, pn, d, Q, ⟨O, T, I⟩, q, c⟩
  exact c v H x d (DI.add I (Rep.flat hx)) q
theorem de_int {i j} : DE tk X (.Constant (.int i) j pos) (dC (.int i)) := de_c pe_int rfl
theorem de_bl {i j} : DE tk X (.Constant (.bool i) j pos) (dC (.bl i)) := de_c pe_bl rfl
theorem de_non {j} : DE tk X (.Constant .none j pos) (dC .non) := de_c pe_non rfl
theorem de_str {i j} : DE tk X (.Constant (.str i) j pos) (dC (.str i)) := de_c pe_str rfl
/-- a constant of the module -/
theorem de_glob {x : Str} {y : D} {v : V} {u : Value} (hg : Gl X x) (hm : X.mg x = some u) (r : RelV v u) (hy : flatD y = some v) (hd : (x == ("__debug__" : Str)) = false := by decide) : DE tk X (.Name x pos) (dC y) :=
  de_c (pe_glob hg hm r hd) hy

/-! ### operators by data -/
abbrev DR1 := D → (D → Prop) → Prop
abbrev DR2 := D → D → (D → Prop) → Prop
def OpD (tk : Tk) (K : PySem.W.Frag) (r : R2) (f : DR2) : Prop := ∀ (F : FrC) (pn : Pn) (σ : St) (H : Hp) (d : DS) (O : Addr → Prop) (T : Tks) (x y : D) (v w : V) (Q : D → Prop) (k : VK),
  DIx tk K F pn σ H d O T → RepR K O T H x v → RepR K O T H y w → f x y Q → (∀ z u H', DI tk K F ((z, .sh u) :: pn) σ H' d → Q u → k z H') → r v w H k
theorem OpD.or1 {K : PySem.W.Frag} {r r' : R2} {f g : DR2} (h : OpD tk K r f) (h' : OpD tk K r' g) : OpD tk K (fun x y H Q => r x y H Q ∨ r' x y H Q) (fun x y Q => f x y Q ∨ g x y Q) :=
  fun F pn σ H d O T x y v w Q k I rx ry q c => q.elim (fun q => .inl (h F pn σ H d O T x y v w Q k I rx ry q c)) fun q => .inr (h' F pn σ H d O T x y v w Q k I rx ry q c)
theorem OpD.by {K : PySem.W.Frag} {r : R2} {f g : DR2} (h : OpD tk K r f) (w : ∀ x y Q, g x y Q → f x y Q) : OpD tk K r g :=
  fun F pn σ H d O T x y v u Q k I rx ry q c => h F pn σ H d O T x y v u Q k I rx ry (w x y Q q) c
def dOp (f : DR2) (ta tb : DTE) (d : DS) (Q : D → DS → Prop) : Prop := ta d fun x d1 => tb d1 fun y d2 => f x y fun z => Q z d2
/-- the first operand a name, read where it stands -/
def dOpv (f : DR2) (i : Nat) (tb : DTE) (d : DS) (Q : D → DS → Prop) : Prop := match dPk i d with
  | some _ => tb d fun y d2 => match dPk i d2 with
    | some x => f x y fun z => Q z d2
    | none => False
  | none => False
theorem tOp_D {r : R2} {f : DR2} (hf : OpD tk X.K r f) : ∀ σ H k, upE tk X.K (dOp f ta tb) σ H k → tOp r (upE tk X.K ta) (upE tk X.K tb) σ H k := by
  rintro σ H k ⟨F, pn, d, Q, I, q, c⟩
  refine ⟨F, pn, d, _, I, q, fun v H1 x d1 I1 q1 => ⟨F, _, d1, _, I1, q1, fun w H2 y d2 I2 q2 => ?_⟩⟩
  obtain ⟨O, T, I2⟩ := I2
  have r1 : Rep X.K O T H2 x v := I2.pe (v, .sh x) (by simp)
  have r2 : Rep X.K O T H2 y w := I2.pe (w, .sh y) (by simp)
  exact hf F pn σ H2 d2 O T x y v w _ k (I2.drop (by simp)) r1.r r2.r q2 fun z u H' J q => c z H' u d2 J q
theorem tOpv_D {r : R2} {f : DR2} {i : Nat} (hf : OpD tk X.K r f) : ∀ σ H k, upE tk X.K (dOpv f i tb) σ H k → tOp r (tVar i) (upE tk X.K tb) σ H k := by
  rintro σ H k ⟨F, pn, d, Q, I, q, c⟩
  unfold dOpv at q
  split at q
  case h_2 => exact q.elim
  rename_i x0 hk0
  obtain ⟨v, hv⟩ : ∃ v, σ[i]? = some (some v) := by
    obtain ⟨O, T, I⟩ := I
    exact I.pkv hk0
  refine ⟨v, hv, F, pn, d, _, I, q, fun w H2 y d2 I2 q2 => ?_⟩
  obtain ⟨O, T, I2⟩ := I2
  have r2 : Rep X.K O T H2 y w := I2.pe (w, .sh y) (by simp)
  cases hk : dPk i d2 with
  | none => rw [hk] at q2; exact q2.elim
  | some x =>
    rw [hk] at q2
    exact hf F pn σ H2 d2 O T x y v w _ k (I2.drop (by simp)) (I2.pk hk hv) r2.r q2 fun z u H' J q => c z H' u d2 J q
theorem de_op {op : Operator} {r : R2} {f : DR2} (ho : OpR X (binaryOp op) r) (hf : OpD tk X.K r f) (ha : DE tk X a ta) (hb : DE tk X b tb) : DE tk X (.BinOp a op b pos) (dOp f ta tb) := pe_imp (pe_op ho ha hb) (tOp_D hf)
theorem de_opv {op : Operator} {r : R2} {f : DR2} {i : Nat} (ho : OpR X (binaryOp op) r) (hf : OpD tk X.K r f) (ha : PE X a (tVar i)) (hb : DE tk X b tb) : DE tk X (.BinOp a op b pos) (dOpv f i tb) := pe_imp (pe_op ho ha hb) (tOpv_D hf)
theorem de_cmp {op : CmpOp} {r : R2} {f : DR2} (ho : OpR X (compareOp op) r) (hf : OpD tk X.K r f) (ha : DE tk X a ta) (hb : DE tk X b tb) (hm : behindInMarks op b = false) : DE tk X (.Compare a [op] [b] pos) (dOp f ta tb) := pe_imp (pe_cmpR ho ha hb hm) (tOp_D hf)
theorem de_cmpv {op : CmpOp} {r : R2} {f : DR2} {i : Nat} (ho : OpR X (compareOp op) r) (hf : OpD tk X.K r f) (ha : PE X a (tVar i)) (hb : DE tk X b tb) (hm : behindInMarks op b = false) : DE tk X (.Compare a [op] [b] pos) (dOpv f i tb) := pe_imp (pe_cmpR ho ha hb hm) (tOpv_D hf)
theorem de_ix {r : R2} {f : DR2} (ho : IxR X r) (hf : OpD tk X.K r f) (ha : DE tk X a ta) (hb : DE tk X b tb) (hs : PlainIx b := by intro _ _; rfl) : DE tk X (.Subscript a b pos) (dOp f ta tb) := pe_imp (pe_ix ho ha hb hs) (tOp_D hf)
theorem de_ixv {r : R2} {f : DR2} {i : Nat} (ho : IxR X r) (hf : OpD tk X.K r f) (ha : PE X a (tVar i)) (hb : DE tk X b tb) (hs : PlainIx b := by intro _ _; rfl) : DE tk X (.Subscript a b pos) (dOpv f i tb) := pe_imp (pe_ix ho ha hb hs) (tOpv_D hf)
end

/-! ### the operators -/
section
variable {tk : Tk} {K : PySem.W.Frag}
theorem repR_int {O T H} {i : Int} {v : V} (h : RepR K O T H (.int i) v) : v = .int i := h
theorem RepR.tup {O T H} {ds : List D} {v : V} (h : RepR K O T H (.tup ds) v) : ∃ a vs, v = .ref a ∧ TupAt K O H a vs ∧ RepL K O T H ds vs := h
theorem RepR.lst {O T H} {ds : List D} {v : V} (h : RepR K O T H (.lst ds) v) : ∃ a vs, v = .ref a ∧ H a = some (.lst vs) ∧ RepL K O T H ds vs := h
theorem DI.int {F pn σ H d O T} (I : DIx tk K F pn σ H d O T) (i : Int) : DI tk K F ((.int i, .sh (.int i)) :: pn) σ H d := DI.add I rfl
theorem DI.bl {F pn σ H d O T} (I : DIx tk K F pn σ H d O T) (i : Bool) : DI tk K F ((.bl i, .sh (.bl i)) :: pn) σ H d := DI.add I rfl
theorem DI.str {F pn σ H d O T} (I : DIx tk K F pn σ H d O T) (i : Str) : DI tk K F ((.str i, .sh (.str i)) :: pn) σ H d := DI.add I rfl
/-- two ints -/
def fI (C : Int → Int → Prop) (g : Int → Int → D) (x y : D) (Q : D → Prop) : Prop := match x, y with
  | .int i, .int j => C i j ∧ Q (g i j)
  | _, _ => False
theorem opd_I {C : Int → Int → Prop} {g : Int → Int → D} {gv : Int → Int → V} (hg : ∀ i j, flatD (g i j) = some (gv i j)) : OpD tk K (rI C gv) (fI C g) := by
  intro F pn σ H d O T x y v w Q k I rx ry q c
  unfold fI at q
  split at q
  · exact ⟨_, _, rx, ry, q.1, c _ _ H (DI.add I (Rep.flat (hg _ _))) q.2⟩
  · exact q.elim
def fI0 (g : Int → Int → D) (x y : D) (Q : D → Prop) : Prop := match x, y with
  | .int i, .int j => Q (g i j)
  | _, _ => False
theorem opd_I0 {g : Int → Int → D} {gv : Int → Int → V} (hg : ∀ i j, flatD (g i j) = some (gv i j)) : OpD tk K (rI0 gv) (fI0 g) := by
  intro F pn σ H d O T x y v w Q k I rx ry q c
  unfold fI0 at q
  split at q
  · exact ⟨_, _, rx, ry, c _ _ H (DI.add I (Rep.flat (hg _ _))) q⟩
  · exact q.elim
/-- x + y -/
def fAdd (x y : D) (Q : D → Prop) : Prop := match x, y with
  | .int i, .int j => Q (.int (i + j))
  | .str i, .str j => i.length + j.length ≤ sizeLine ∧ Q (.str (i ++ j))
  | .tup xs, .tup ys => xs.length + ys.length ≤ sizeLine ∧ Q (.tup (xs ++ ys))
  | .lst xs, .lst ys => xs.length + ys.length ≤ sizeLine ∧ Q (.lst (xs ++ ys))
  | _, _ => False
def rAddAll (K : PySem.W.Frag) : R2 := fun x y H Q => (rI0 fun i j => .int (i + j)) x y H Q ∨ (∃ i j, x = .str i ∧ y = .str j ∧ i.length + j.length ≤ sizeLine ∧ Q (.str (i ++ j)) H) ∨ rCatA K x y H Q ∨ rCat x y H Q
theorem op_addAll {X : Cx} : OpR X (binaryOp .Add) (rAddAll X.K) := op_add.or (op_add_str.or (op_catA.or op_cat))
theorem DI.newT {F pn σ H d O T} {vs : List V} {xs : List D} (I : DIx tk K F pn σ H d O T) {p : Addr} (hp : H p = none) (r : RepL K O T H xs vs) : DI tk K F ((.ref p, .sh (.tup xs)) :: pn) σ (upd H p (.tup vs)) d := ⟨O, T, I.newT hp r⟩
theorem DI.newS {F pn σ H d O T} {vs : List V} {xs : List D} (I : DIx tk K F pn σ H d O T) {p : Addr} (hp : H p = none) (r : RepL K O T H xs vs) : DI tk K F ((.ref p, .sh (.lst xs)) :: pn) σ (upd H p (.lst vs)) d := DI.freezeP (s := .ow xs) ⟨_, T, I.newL hp r⟩
theorem DI.newO {F pn σ H d O T} {vs : List V} {xs : List D} (I : DIx tk K F pn σ H d O T) {p : Addr} (hp : H p = none) (r : RepL K O T H xs vs) : DI tk K F ((.ref p, .ow xs) :: pn) σ (upd H p (.lst vs)) d := ⟨_, T, I.newL hp r⟩
theorem opd_add : OpD tk K (rAddAll K) fAdd := by
  intro F pn σ H d O T x y v w Q k I rx ry q c
  unfold fAdd at q
  split at q
  · exact .inl ⟨_, _, rx, ry, c _ _ H (DI.int I _) q⟩
  · exact .inr (.inl ⟨_, _, rx, ry, q.1, c _ _ H (DI.str I _) q.2⟩)
  · rename_i xs ys
    obtain ⟨a, vs, rfl, ha, rv⟩ := rx.tup
    obtain ⟨b, ws, rfl, hb, rw'⟩ := ry.tup
    have l1 := rv.length
    have l2 := rw'.length
    refine .inr (.inr (.inl ⟨a, b, vs, ws, rfl, rfl, ha.sq, hb.sq, by omega, fun e => ?_, fun e e2 => ?_, fun e e2 p hp => ?_⟩))
    · subst e
      have z : xs = [] := List.eq_nil_of_length_eq_zero (by simpa using l1.symm)
      subst z
      exact c _ _ H (DI.add I ry) q.2
    · subst e2
      have z : ys = [] := List.eq_nil_of_length_eq_zero (by simpa using l2.symm)
      subst z
      rw [List.append_nil] at q
      exact c _ _ H (DI.add I rx) q.2
    · exact c _ _ _ (DI.newT I hp (rv.append rw')) q.2
  · rename_i xs ys
    obtain ⟨a, vs, rfl, ha, rv⟩ := rx.lst
    obtain ⟨b, ws, rfl, hb, rw'⟩ := ry.lst
    have l1 := rv.length
    have l2 := rw'.length
    exact .inr (.inr (.inr ⟨a, b, vs, ws, rfl, rfl, ha, hb, by omega, fun p hp => c _ _ _ (DI.newS I hp (rv.append rw')) q.2⟩))
  · exact q.elim
/-- x - y -/
abbrev fSub : DR2 := fI0 fun i j => .int (i - j)
theorem opd_sub : OpD tk K (rI0 fun i j => .int (i - j)) fSub := opd_I0 fun _ _ => rfl
/-- x * y -/
def MulOk (i j : Int) : Prop := CMul i j ∨ CMulW i j
def fMul (x y : D) (Q : D → Prop) : Prop := match x, y with
  | .int i, .int j => MulOk i j ∧ Q (.int (i * j))
  | .lst xs, .int k => -(2 ^ 63) ≤ k ∧ k < 2 ^ 63 ∧ xs.length * k.toNat ≤ sizeLine ∧ Q (.lst (List.replicate k.toNat xs).flatten)
  | .tup xs, .int k => xs ≠ [] ∧ 2 ≤ k ∧ k ≤ 1000 ∧ xs.length ≤ 1000 ∧ Q (.tup (List.replicate k.toNat xs).flatten)
  | _, _ => False
def rMulAll (K : PySem.W.Frag) : R2 := fun x y H Q => (rI CMul fun i j => .int (i * j)) x y H Q ∨ (rI CMulW fun i j => .int (i * j)) x y H Q ∨ rRep x y H Q ∨ rRepT K x y H Q
theorem op_mulAll {X : Cx} : OpR X (binaryOp .Mult) (rMulAll X.K) := op_mul.or (op_mulW.or (op_rep.or op_repT))
theorem opd_mul : OpD tk K (rMulAll K) fMul := by
  intro F pn σ H d O T x y v w Q k I rx ry q c
  unfold fMul at q
  split at q
  · rcases q with ⟨q1 | q1, q⟩
    · exact .inl ⟨_, _, rx, ry, q1, c _ _ H (DI.int I _) q⟩
    · exact .inr (.inl ⟨_, _, rx, ry, q1, c _ _ H (DI.int I _) q⟩)
  · obtain ⟨a, vs, rfl, ha, rv⟩ := rx.lst
    have l1 := rv.length
    obtain ⟨q1, q2, q3, q⟩ := q
    exact .inr (.inr (.inl ⟨a, _, vs, rfl, ry, ha, q1, q2, by rw [l1]; exact q3, fun p hp => c _ _ _ (DI.newS I hp (rv.rep _)) q⟩))
  · obtain ⟨a, vs, rfl, ha, rv⟩ := rx.tup
    have l1 := rv.length
    obtain ⟨q0, q1, q2, q3, q⟩ := q
    exact .inr (.inr (.inr ⟨a, _, vs, rfl, ry, ha.sq, fun e => q0 (List.eq_nil_of_length_eq_zero (by rw [← l1, e]; rfl)), q1, q2, by rw [l1]; exact q3, fun p hp => c _ _ _ (DI.newT I hp (rv.rep _)) q⟩))
  · exact q.elim
/-- x // y, x % y, the divisor above 0 -/
abbrev fDiv : DR2 := fI CDivW fun i j => .int (i / j)
theorem opd_div : OpD tk K (rI CDivW fun i j => .int (i / j)) fDiv := opd_I fun _ _ => rfl
abbrev fMod : DR2 := fI (fun _ j => 0 < j) fun i j => .int (i % j)
theorem opd_mod : OpD tk K (rI (fun _ j => 0 < j) fun i j => .int (i % j)) fMod := opd_I fun _ _ => rfl
abbrev fPow : DR2 := fI CPow fun i j => .int (i ^ j.toNat)
theorem opd_pow : OpD tk K (rI CPow fun i j => .int (i ^ j.toNat)) fPow := opd_I fun _ _ => rfl
abbrev fLt : DR2 := fI0 fun i j => .bl (decide (i < j))
theorem opd_lt : OpD tk K (rI0 fun i j => .bl (decide (i < j))) fLt := opd_I0 fun _ _ => rfl
abbrev fLe : DR2 := fI0 fun i j => .bl (decide (i ≤ j))
theorem opd_le : OpD tk K (rI0 fun i j => .bl (decide (i ≤ j))) fLe := opd_I0 fun _ _ => rfl
abbrev fGt : DR2 := fI0 fun i j => .bl (decide (j < i))
theorem opd_gt : OpD tk K (rI0 fun i j => .bl (decide (j < i))) fGt := opd_I0 fun _ _ => rfl
abbrev fGe : DR2 := fI0 fun i j => .bl (decide (j ≤ i))
theorem opd_ge : OpD tk K (rI0 fun i j => .bl (decide (j ≤ i))) fGe := opd_I0 fun _ _ => rfl

/-! ### == of data -/
mutual
def toP : D → Option PyData
  | .non => some .none
  | .bl b => some (.bool b)
  | .int i => some (.int i)
  | .str x => some (.str x)
  | .tup xs => (toPs xs).map PyData.tuple
  | .lst xs => (toPs xs).map PyData.list
  | .frz xs => (toPs xs).map PyData.list
  | _ => none
def toPs : List D → Option (List PyData)
  | [] => some []
  | x :: xs => match toP x, toPs xs with
    | some y, some ys => some (y :: ys)
    | _, _ => none
end
section
variable {O : Addr → Prop} {T : Tks} {H : Hp}
mutual
theorem Rep.dp : ∀ (x : D) (v : V) (p : PyData), Rep K O T H x v → toP x = some p → Dp K H v p
  | .non, v, p, h, e => by cases e; rw [show v = V.non from h]; exact .non
  | .bl b, v, p, h, e => by cases e; rw [show v = V.bl b from h]; exact .bl b
  | .int b, v, p, h, e => by cases e; rw [show v = V.int b from h]; exact .int b
  | .str b, v, p, h, e => by cases e; rw [show v = V.str b from h]; exact .str b
  | .tup xs, v, p, h, e => by
    obtain ⟨a, vs, rfl, ha, r⟩ := h
    obtain ⟨ps, e1, rfl⟩ := Option.map_eq_some_iff.mp e
    exact .tup ha.sq (RepL.dp xs vs ps r e1)
  | .lst xs, v, p, h, e => by
    obtain ⟨a, vs, rfl, ha, r⟩ := h
    obtain ⟨ps, e1, rfl⟩ := Option.map_eq_some_iff.mp e
    exact .lst (SqL.of ha.2) (RepL.dp xs vs ps r e1)
  | .frz xs, v, p, h, e => by
    obtain ⟨a, vs, rfl, ha, r⟩ := h
    obtain ⟨ps, e1, rfl⟩ := Option.map_eq_some_iff.mp e
    exact .lst ha.sq (RepL.dp xs vs ps r e1)
  | .obj C fs, v, p, h, e => by cases e
  | .tok a b, v, p, h, e => by cases e
theorem RepL.dp : ∀ (xs : List D) (vs : List V) (ps : List PyData), RepL K O T H xs vs → toPs xs = some ps → DpAll K H vs ps
  | [], vs, ps, h, e => by cases e; rw [show vs = [] from h]; exact .nil
  | x :: xs, vs, ps, h, e => by
    obtain ⟨v, r, rfl, h1, h2⟩ := h
    unfold toPs at e
    split at e
    · rename_i y ys e1 e2
      cases e
      exact .cons (Rep.dp x v y h1 e1) (RepL.dp xs r ys h2 e2)
    · cases e
end
theorem RepR.dp {x : D} {v : V} {p : PyData} (h : RepR K O T H x v) (e : toP x = some p) : Dp K H v p := by
  cases x with
  | lst xs =>
    obtain ⟨a, vs, rfl, ha, r⟩ := h
    obtain ⟨ps, e1, rfl⟩ := Option.map_eq_some_iff.mp e
    exact .lst (SqL.of ha) (RepL.dp xs vs ps r e1)
  | _ => exact Rep.dp _ v p h e
end

/-- == : ints, texts, bools at once, other data by its form -/
def fEqG (g : Bool → Bool) (x y : D) (Q : D → Prop) : Prop := match x, y with
  | .int i, .int j => Q (.bl (g (decide (i = j))))
  | .str i, .str j => Q (.bl (g (decide (i = j))))
  | .bl i, .bl j => Q (.bl (g (decide (i = j))))
  | x, y => ∃ p q, toP x = some p ∧ toP y = some q ∧ SeqAt.shaped p = true ∧ SeqAt.shaped q = true ∧ Q (.bl (g (PyData.eqv p q)))
abbrev fEq : DR2 := fEqG id
abbrev fNe : DR2 := fEqG not

def rEqAll (K : PySem.W.Frag) : R2 := fun x y H Q => rEq x y H Q ∨ rEqD K x y H Q
def rNeAll (K : PySem.W.Frag) : R2 := fun x y H Q => rNe x y H Q ∨ rNeD K x y H Q
theorem op_eqAll {X : Cx} (hu : X.A.units + 64 < cLine) : OpR X (compareOp .Eq) (rEqAll X.K) := op_eq.or (op_eqD hu)
theorem op_neAll {X : Cx} (hu : X.A.units + 64 < cLine) : OpR X (compareOp .NotEq) (rNeAll X.K) := op_ne.or (op_neD hu)
theorem dec_inj {α β : Type} [DecidableEq α] [DecidableEq β] {c : α → β} (h : ∀ a b, c a = c b → a = b) (i j : α) : decide (c i = c j) = decide (i = j) := by
  by_cases e : i = j
  · rw [e, decide_eq_true rfl, decide_eq_true rfl]
  · rw [decide_eq_false e, decide_eq_false fun z => e (h _ _ z)]
theorem opd_eq : OpD tk K (rEqAll K) fEq := by
  intro F pn σ H d O T x y v w Q k I rx ry q c
  unfold fEq fEqG at q
  split at q
  · obtain rfl : v = .int _ := rx
    obtain rfl : w = .int _ := ry
    exact .inl ⟨rfl, by rw [dec_inj (c := V.int) fun a b => V.int.inj]; exact c _ _ H (DI.bl I _) q⟩
  · obtain rfl : v = .str _ := rx
    obtain rfl : w = .str _ := ry
    exact .inl ⟨rfl, by rw [dec_inj (c := V.str) fun a b => V.str.inj]; exact c _ _ H (DI.bl I _) q⟩
  · obtain rfl : v = .bl _ := rx
    obtain rfl : w = .bl _ := ry
    exact .inl ⟨rfl, by rw [dec_inj (c := V.bl) fun a b => V.bl.inj]; exact c _ _ H (DI.bl I _) q⟩
  · obtain ⟨p, p', e1, e2, s1, s2, q⟩ := q
    exact .inr ⟨p, p', rx.dp e1, ry.dp e2, s1, s2, c _ _ H (DI.bl I _) q⟩
theorem opd_ne : OpD tk K (rNeAll K) fNe := by
  intro F pn σ H d O T x y v w Q k I rx ry q c
  unfold fNe fEqG at q
  split at q
  · obtain rfl : v = .int _ := rx
    obtain rfl : w = .int _ := ry
    exact .inl ⟨rfl, by rw [dec_inj (c := V.int) fun a b => V.int.inj]; exact c _ _ H (DI.bl I _) q⟩
  · obtain rfl : v = .str _ := rx
    obtain rfl : w = .str _ := ry
    exact .inl ⟨rfl, by rw [dec_inj (c := V.str) fun a b => V.str.inj]; exact c _ _ H (DI.bl I _) q⟩
  · obtain rfl : v = .bl _ := rx
    obtain rfl : w = .bl _ := ry
    exact .inl ⟨rfl, by rw [dec_inj (c := V.bl) fun a b => V.bl.inj]; exact c _ _ H (DI.bl I _) q⟩
  · obtain ⟨p, p', e1, e2, s1, s2, q⟩ := q
    exact .inr ⟨p, p', rx.dp e1, ry.dp e2, s1, s2, c _ _ H (DI.bl I _) q⟩
/-- x[i] -/
def fIx (x y : D) (Q : D → Prop) : Prop := match x, y with
  | .tup xs, .int i => match atI xs i with
    | some z => Q z
    | none => False
  | .lst xs, .int i => match atI xs i with
    | some z => Q z
    | none => False
  | .frz xs, .int i => match atI xs i with
    | some z => Q z
    | none => False
  | .str z, .int i => z.length ≤ sizeLine ∧ match atI z.cps.toList i with
    | some c => Q (.str ⟨#[c]⟩)
    | none => False
  | _, _ => False
theorem RepL.atI {O : Addr → Prop} {T : Tks} {H : Hp} {xs : List D} {vs : List V} {i : Int} {z : D} (r : RepL K O T H xs vs) (h : L2.atI xs i = some z) : ∃ u, L2.atI vs i = some u ∧ Rep K O T H z u := by
  unfold L2.atI at h ⊢
  rw [r.length]
  cases e : ixN xs.length i with
  | none => rw [e] at h; cases h
  | some j =>
    rw [e] at h
    exact r.at h
theorem opd_ix : OpD tk K (rIx K) fIx := by
  intro F pn σ H d O T x y v w Q k I rx ry q c
  unfold fIx at q
  split at q
  · obtain ⟨a, vs, rfl, ha, rv⟩ := rx.tup
    split at q
    · rename_i z e
      obtain ⟨u, e1, r1⟩ := rv.atI e
      exact .inr (.inl ⟨a, vs, _, u, rfl, ry, ha.sq, e1, c _ _ H (DI.add I r1) q⟩)
    · exact q.elim
  · obtain ⟨a, vs, rfl, ha, rv⟩ := rx.lst
    split at q
    · rename_i z e
      obtain ⟨u, e1, r1⟩ := rv.atI e
      exact .inl ⟨a, vs, _, u, rfl, ry, SqL.of ha, e1, c _ _ H (DI.add I r1) q⟩
    · exact q.elim
  · obtain ⟨a, vs, rfl, ha, rv⟩ := (rx : ∃ a vs, v = .ref a ∧ FrzAt K O H a vs ∧ RepL K O T H _ vs)
    split at q
    · rename_i z e
      obtain ⟨u, e1, r1⟩ := rv.atI e
      exact .inl ⟨a, vs, _, u, rfl, ry, ha.sq, e1, c _ _ H (DI.add I r1) q⟩
    · exact q.elim
  · obtain ⟨q0, q⟩ := q
    split at q
    · rename_i z e
      exact .inr (.inr ⟨_, _, _, rx, ry, q0, e, c _ _ H (DI.str I _) q⟩)
    · exact q.elim
  · exact q.elim
end

/-! ### tests -/
section
variable {tk : Tk} {X : Cx} {pos : Pos} {a b e : Expr} {ta tb te : DTE} {tA tB' : DTT} {rest : List Expr}
def dTest (t : DTE) (d : DS) (Q : Bool → DS → Prop) : Prop := t d fun x d1 => match x with
  | .bl c => Q c d1
  | _ => False
theorem tB_D : ∀ σ H k, upT tk X.K (dTest te) σ H k → tB (upE tk X.K te) σ H k := by
  rintro σ H k ⟨F, pn, d, Q, I, q, c⟩
  refine ⟨F, pn, d, _, I, q, fun v H1 x d1 I1 q1 => ?_⟩
  obtain ⟨O, T, I1⟩ := I1
  have r1 : Rep X.K O T H1 x v := I1.pe (v, .sh x) (by simp)
  cases x with
  | bl z => exact ⟨z, r1, c z H1 d1 ⟨O, T, I1.drop (by simp)⟩ q1⟩
  | _ => exact q1.elim
/-- an expression that gives True or False, as a test -/
theorem dt_val (h : DE tk X e te) (he : ∀ whole, isTrue e X.env whole = (do let v ← whole; standAt e.pos; holding [v] (truthy v)) := by intro _; rfl) : DT tk X e (dTest te) := pt_imp (pt_val h he) tB_D
theorem dt_cmp {op : CmpOp} {r : R2} {f : DR2} (ho : OpR X (compareOp op) r) (hf : OpD tk X.K r f) (ha : DE tk X a ta) (hb : DE tk X b tb) (hm : behindInMarks op b = false) : DT tk X (.Compare a [op] [b] pos) (dTest (dOp f ta tb)) := by
  refine pt_imp (pt_cmpR ho ha hb hm) fun σ H k h => ?_
  obtain ⟨F, pn, d, Q, I, q, c⟩ := h
  refine tOp_D hf σ H _ ⟨F, pn, d, _, I, q, fun v H1 x d1 I1 q1 => ?_⟩
  obtain ⟨O, T, I1⟩ := I1
  have r1 : Rep X.K O T H1 x v := I1.pe (v, .sh x) (by simp)
  cases x with
  | bl z => exact ⟨z, r1, c z H1 d1 ⟨O, T, I1.drop (by simp)⟩ q1⟩
  | _ => exact q1.elim
theorem dt_cmpv {op : CmpOp} {r : R2} {f : DR2} {i : Nat} (ho : OpR X (compareOp op) r) (hf : OpD tk X.K r f) (ha : PE X a (tVar i)) (hb : DE tk X b tb) (hm : behindInMarks op b = false) : DT tk X (.Compare a [op] [b] pos) (dTest (dOpv f i tb)) := by
  refine pt_imp (pt_cmpR ho ha hb hm) fun σ H k h => ?_
  obtain ⟨F, pn, d, Q, I, q, c⟩ := h
  refine tOpv_D hf σ H _ ⟨F, pn, d, _, I, q, fun v H1 x d1 I1 q1 => ?_⟩
  obtain ⟨O, T, I1⟩ := I1
  have r1 : Rep X.K O T H1 x v := I1.pe (v, .sh x) (by simp)
  cases x with
  | bl z => exact ⟨z, r1, c z H1 d1 ⟨O, T, I1.drop (by simp)⟩ q1⟩
  | _ => exact q1.elim
def dAnd (t u : DTT) (d : DS) (Q : Bool → DS → Prop) : Prop := t d fun c d1 => if c = true then u d1 Q else Q false d1
def dOr (t u : DTT) (d : DS) (Q : Bool → DS → Prop) : Prop := t d fun c d1 => if c = true then Q true d1 else u d1 Q
def dNot (t : DTT) (d : DS) (Q : Bool → DS → Prop) : Prop := t d fun c d1 => Q (!c) d1
theorem upT_at {K : PySem.W.Frag} {F pn σ H d} {t : DTT} {Q : Bool → DS → Prop} {k : Bool → Hp → Prop} (I : DI tk K F pn σ H d) (q : t d Q) (c : ∀ b H' d', DI tk K F pn σ H' d' → Q b d' → k b H') : upT tk K t σ H k := ⟨F, pn, d, Q, I, q, c⟩
theorem upE_at {K : PySem.W.Frag} {F pn σ H d} {t : DTE} {Q : D → DS → Prop} {k : VK} (I : DI tk K F pn σ H d) (q : t d Q) (c : ∀ v H' x d', DI tk K F ((v, .sh x) :: pn) σ H' d' → Q x d' → k v H') : upE tk K t σ H k := ⟨F, pn, d, Q, I, q, c⟩
theorem dw_and1 (ha : DT tk X a tA) : DW tk X (.BoolOp .And [a] pos) tA := pw_and1 ha
theorem dw_or1 (ha : DT tk X a tA) : DW tk X (.BoolOp .Or [a] pos) tA := pw_or1 ha
theorem dw_and (ha : DT tk X a tA) (hb : DW tk X (.BoolOp .And (b :: rest) pos) tB') : DW tk X (.BoolOp .And (a :: b :: rest) pos) (dAnd tA tB') := by
  refine pw_imp (pw_and ha hb) ?_
  rintro σ H k ⟨F, pn, d, Q, I, q, c⟩
  refine upT_at I q fun z H1 d1 I1 q1 => ?_
  cases z with
  | true => exact upT_at I1 q1 c
  | false => exact c false H1 d1 I1 q1
theorem dw_or (ha : DT tk X a tA) (hb : DW tk X (.BoolOp .Or (b :: rest) pos) tB') : DW tk X (.BoolOp .Or (a :: b :: rest) pos) (dOr tA tB') := by
  refine pw_imp (pw_or ha hb) ?_
  rintro σ H k ⟨F, pn, d, Q, I, q, c⟩
  refine upT_at I q fun z H1 d1 I1 q1 => ?_
  cases z with
  | true => exact c true H1 d1 I1 q1
  | false => exact upT_at I1 q1 c
theorem dt_w (h : DW tk X e tA) : DT tk X e tA := h.pt
theorem dt_not (ha : DT tk X a tA) : DT tk X (.UnaryOp .Not a pos) (dNot tA) := by
  refine pt_imp (pt_not ha) ?_
  rintro σ H k ⟨F, pn, d, Q, I, q, c⟩
  exact upT_at I q fun z H1 d1 I1 q1 => c _ H1 d1 I1 q1
/-- and, or, not as values (of True and False, but the last one) -/
def dAndV (ta tb : DTE) (d : DS) (Q : D → DS → Prop) : Prop := ta d fun x d1 => match x with
  | .bl c => if c = true then tb d1 Q else Q (.bl false) d1
  | _ => False
def dOrV (ta tb : DTE) (d : DS) (Q : D → DS → Prop) : Prop := ta d fun x d1 => match x with
  | .bl c => if c = true then Q (.bl true) d1 else tb d1 Q
  | _ => False
def dNotV (ta : DTE) (d : DS) (Q : D → DS → Prop) : Prop := ta d fun x d1 => match x with
  | .bl c => Q (.bl (!c)) d1
  | _ => False
theorem de_one {op} (h : DE tk X a ta) : DE tk X (.BoolOp op [a] pos) ta := pe_one h
theorem de_and (ha : DE tk X a ta) (hb : DE tk X (.BoolOp .And (b :: rest) pos) tb) : DE tk X (.BoolOp .And (a :: b :: rest) pos) (dAndV ta tb) := by
  refine pe_imp (pe_and ha hb) ?_
  rintro σ H k ⟨F, pn, d, Q, I, q, c⟩
  refine upE_at I q fun v H1 x d1 I1 q1 => ?_
  obtain ⟨O, T, I1⟩ := I1
  have r1 : Rep X.K O T H1 x v := I1.pe (v, .sh x) (by simp)
  have J := I1.drop (pn' := pn) (by simp)
  cases x with
  | bl z =>
    refine ⟨z, r1, ?_⟩
    cases z with
    | true => exact upE_at ⟨O, T, J⟩ q1 c
    | false => exact c _ H1 _ d1 (DI.bl J false) q1
  | _ => exact q1.elim
theorem de_or (ha : DE tk X a ta) (hb : DE tk X (.BoolOp .Or (b :: rest) pos) tb) : DE tk X (.BoolOp .Or (a :: b :: rest) pos) (dOrV ta tb) := by
  refine pe_imp (pe_or ha hb) ?_
  rintro σ H k ⟨F, pn, d, Q, I, q, c⟩
  refine upE_at I q fun v H1 x d1 I1 q1 => ?_
  obtain ⟨O, T, I1⟩ := I1
  have r1 : Rep X.K O T H1 x v := I1.pe (v, .sh x) (by simp)
  have J := I1.drop (pn' := pn) (by simp)
  cases x with
  | bl z =>
    refine ⟨z, r1, ?_⟩
    cases z with
    | true => exact c _ H1 _ d1 (DI.bl J true) q1
    | false => exact upE_at ⟨O, T, J⟩ q1 c
  | _ => exact q1.elim
theorem de_not (ha : DE tk X a ta) : DE tk X (.UnaryOp .Not a pos) (dNotV ta) := by
  refine pe_imp (pe_not ha) ?_
  rintro σ H k ⟨F, pn, d, Q, I, q, c⟩
  refine upE_at I q fun v H1 x d1 I1 q1 => ?_
  obtain ⟨O, T, I1⟩ := I1
  have r1 : Rep X.K O T H1 x v := I1.pe (v, .sh x) (by simp)
  cases x with
  | bl z => exact ⟨z, r1, c _ H1 _ d1 (DI.bl (I1.drop (by simp)) _) q1⟩
  | _ => exact q1.elim
/-- a if t else b -/
def dIf (t : DTT) (ta tb : DTE) (d : DS) (Q : D → DS → Prop) : Prop := t d fun c d1 => if c = true then ta d1 Q else tb d1 Q
theorem de_ifExp {c : Expr} (hc : DT tk X c tA) (ha : DE tk X a ta) (hb : DE tk X b tb) : DE tk X (.IfExp c a b pos) (dIf tA ta tb) := by
  refine pe_imp (pe_ifExp hc ha hb) ?_
  rintro σ H k ⟨F, pn, d, Q, I, q, c⟩
  refine upT_at I q fun z H1 d1 I1 q1 => ?_
  cases z with
  | true => exact upE_at I1 q1 c
  | false => exact upE_at I1 q1 c
/-- is None -/
def isNon : D → Bool
  | .non => true
  | _ => false
def dIsN (ta : DTE) (d : DS) (Q : D → DS → Prop) : Prop := ta d fun x d1 => Q (.bl (isNon x)) d1
def dNotN (ta : DTE) (d : DS) (Q : D → DS → Prop) : Prop := ta d fun x d1 => Q (.bl (!isNon x)) d1
theorem Rep.isN {K O T H} {x : D} {v : V} (h : Rep K O T H x v) : decide (v = .non) = isNon x := by
  cases x with
  | non => rw [show v = V.non from h]; rfl
  | bl b => rw [show v = V.bl b from h]; rfl
  | int b => rw [show v = V.int b from h]; rfl
  | str b => rw [show v = V.str b from h]; rfl
  | tup b => obtain ⟨a, vs, rfl, _⟩ := h; rfl
  | lst b => obtain ⟨a, vs, rfl, _⟩ := h; rfl
  | frz b => obtain ⟨a, vs, rfl, _⟩ := h; rfl
  | obj C fs => obtain ⟨a, dx, gs, rfl, _⟩ := h; rfl
  | tok a b => rw [h.1]; rfl
theorem de_isN {j pos'} (ha : DE tk X a ta) : DE tk X (.Compare a [.Is] [.Constant .none j pos'] pos) (dIsN ta) := by
  refine pe_imp (pe_cmp (pc_isN ha) rfl) ?_
  rintro σ H k ⟨F, pn, d, Q, I, q, c⟩
  refine upE_at I q fun v H1 x d1 I1 q1 => ?_
  obtain ⟨O, T, I1⟩ := I1
  have r1 : Rep X.K O T H1 x v := I1.pe (v, .sh x) (by simp)
  rw [r1.isN]
  exact c _ H1 _ d1 (DI.bl (I1.drop (by simp)) _) q1
theorem de_notN {j pos'} (ha : DE tk X a ta) : DE tk X (.Compare a [.IsNot] [.Constant .none j pos'] pos) (dNotN ta) := by
  refine pe_imp (pe_cmp (pc_notN ha) rfl) ?_
  rintro σ H k ⟨F, pn, d, Q, I, q, c⟩
  refine upE_at I q fun v H1 x d1 I1 q1 => ?_
  obtain ⟨O, T, I1⟩ := I1
  have r1 : Rep X.K O T H1 x v := I1.pe (v, .sh x) (by simp)
  rw [r1.isN]
  exact c _ H1 _ d1 (DI.bl (I1.drop (by simp)) _) q1
/-- is True, is False, of True and False -/
def fIsB (x y : D) (Q : D → Prop) : Prop := match x, y with
  | .bl a, .bl b => Q (.bl (decide (a = b)))
  | _, _ => False
theorem opd_isB {K} : OpD tk K rIsB fIsB := by
  intro F pn σ H d O T x y v w Q k I rx ry q c
  unfold fIsB at q
  split at q
  · exact ⟨_, _, rx, ry, c _ _ H (DI.bl I _) q⟩
  · exact q.elim
end
end DL
set_option Elab.async false
set_option linter.all false
set_option maxRecDepth 100000
set_option maxHeartbeats 4000000
/-! DL3: arguments, displays, calls, attributes, slices, lists that are written. -/
namespace DL
open PySem L2
section
variable {tk : Tk} {K : PySem.W.Frag} {F : FrC} {pn pn' : Pn} {σ : St} {H H' : Hp} {d : DS} {O : Addr → Prop} {T : Tks}
theorem DIx.perm (I : DIx tk K F pn σ H d O T) (h : List.Perm pn pn') : DIx tk K F pn' σ H d O T :=
  { I with pe := fun p hp => I.pe p (h.mem_iff.mpr hp), sp := fun i s v a b c q hq => I.sp i s v a b c q (h.mem_iff.mpr hq), pp := (h.pairwise_iff fun {x y} r w w' e => r w' w e.symm).mp I.pp }
theorem DI.perm (I : DI tk K F pn σ H d) (h : List.Perm pn pn') : DI tk K F pn' σ H d := let ⟨O, T, J⟩ := I; ⟨O, T, J.perm h⟩
theorem upA_at {t : DTA} {Q : List D → DS → Prop} {k : List V → Hp → Prop} (I : DI tk K F pn σ H d) (q : t d Q) (c : ∀ vs H' xs d', vs.length = xs.length → DI tk K F (pz vs xs ++ pn) σ H' d' → Q xs d' → k vs H') : upA tk K t σ H k := ⟨F, pn, d, Q, I, q, c⟩
theorem upF_at {t : DTA} {Q : List D → DS → Prop} {k : VK} (I : DI tk K F pn σ H d) (q : t d Q) (c : ∀ v H' xs d', DI tk K F ((v, .ow xs) :: pn) σ H' d' → Q xs d' → k v H') : upF tk K t σ H k := ⟨F, pn, d, Q, I, q, c⟩
end

/-! ### arguments, displays -/
section
variable {tk : Tk} {X : Cx} {pos : Pos} {a b e : Expr} {es : List Expr} {ta tb te : DTE} {t : DTA}
def dNil (d : DS) (Q : List D → DS → Prop) : Prop := Q [] d
def dCons (ta : DTE) (tr : DTA) (d : DS) (Q : List D → DS → Prop) : Prop := ta d fun x d1 => tr d1 fun xs d2 => Q (x :: xs) d2
theorem da_nil : DA tk X [] dNil := by
  refine pa_imp pa_nil ?_
  rintro σ H k ⟨F, pn, d, Q, I, q, c⟩
  exact c [] H [] d rfl I q
theorem da_cons (ha : DE tk X e te) (hr : DA tk X es t) (hs : starEach (e :: es) X.env = (false, eval e X.env) :: starEach es X.env := by rfl) : DA tk X (e :: es) (dCons te t) := by
  refine pa_imp (pa_cons ha hr hs) ?_
  rintro σ H k ⟨F, pn, d, Q, I, q, c⟩
  refine upE_at I q fun v H1 x d1 I1 q1 => upA_at I1 q1 fun vs H2 xs d2 hl I2 q2 => ?_
  exact c (v :: vs) H2 (x :: xs) d2 (by simp [hl]) (I2.perm List.perm_middle) q2
def dTup (t : DTA) (d : DS) (Q : D → DS → Prop) : Prop := t d fun xs d1 => xs.length ≤ sizeLine ∧ Q (.tup xs) d1
def dLst (t : DTA) (d : DS) (Q : D → DS → Prop) : Prop := t d fun xs d1 => xs.length ≤ sizeLine ∧ Q (.lst xs) d1
def dLstF (t : DTA) (d : DS) (Q : List D → DS → Prop) : Prop := t d fun xs d1 => xs.length ≤ sizeLine ∧ Q xs d1
theorem de_tup {x1} (h : DA tk X es t) : DE tk X (.Tuple es x1 pos) (dTup t) := by
  refine pe_imp (pe_tup h) ?_
  rintro σ H k ⟨F, pn, d, Q, I, q, c⟩
  refine upA_at I q fun vs H1 xs d1 hl I1 q1 => ⟨by rw [hl]; exact q1.1, fun p hp => ?_⟩
  obtain ⟨O, T, I1⟩ := I1
  exact c _ _ _ d1 (DI.newT I1.less hp (I1.args hl)) q1.2
theorem df_lst (h : DA tk X es t) : DF tk X (.List es pos) (dLstF t) := by
  refine pe_imp (pe_lst h) ?_
  rintro σ H k ⟨F, pn, d, Q, I, q, c⟩
  refine upA_at I q fun vs H1 xs d1 hl I1 q1 => ⟨by rw [hl]; exact q1.1, fun p hp => ?_⟩
  obtain ⟨O, T, I1⟩ := I1
  exact c _ _ _ d1 (DI.newO I1.less hp (I1.args hl)) q1.2
/-- a fresh list as any value -/
def dSh (t : DTA) (d : DS) (Q : D → DS → Prop) : Prop := t d fun xs d1 => Q (.lst xs) d1
theorem de_fr (h : DF tk X e t) : DE tk X e (dSh t) := by
  refine pe_imp h ?_
  rintro σ H k ⟨F, pn, d, Q, I, q, c⟩
  exact upF_at I q fun v H1 xs d1 I1 q1 => c v H1 _ d1 (DI.freezeP I1) q1
end

/-! ### built-in functions -/
def RepRL (K : PySem.W.Frag) (O : Addr → Prop) (T : Tks) (H : Hp) : List D → List V → Prop
  | [], vs => vs = []
  | d :: ds, vs => ∃ v r, vs = v :: r ∧ RepR K O T H d v ∧ RepRL K O T H ds r
theorem RepL.rl {K O T H} : ∀ {xs : List D} {vs : List V}, RepL K O T H xs vs → RepRL K O T H xs vs
  | [], vs, h => h
  | x :: xs, vs, h => by
    obtain ⟨v, r, e, h1, h2⟩ := h
    exact ⟨v, r, e, h1.r, RepL.rl h2⟩
theorem RepRL.one {K O T H} {x : D} {vs : List V} (h : RepRL K O T H [x] vs) : ∃ v, vs = [v] ∧ RepR K O T H x v := by
  obtain ⟨v, r, e, h1, h2⟩ := h
  rw [show r = [] from h2] at e
  exact ⟨v, e, h1⟩
theorem RepRL.two {K O T H} {x y : D} {vs : List V} (h : RepRL K O T H [x, y] vs) : ∃ v w, vs = [v, w] ∧ RepR K O T H x v ∧ RepR K O T H y w := by
  obtain ⟨v, r, e, h1, h2⟩ := h
  obtain ⟨w, e2, h3⟩ := RepRL.one h2
  rw [e2] at e
  exact ⟨v, w, e, h1, h3⟩
abbrev DSp := List D → (D → Prop) → Prop
def CallD (tk : Tk) (K : PySem.W.Frag) (r : List V → Hp → VK → Prop) (f : DSp) : Prop := ∀ (F : FrC) (pn : Pn) (σ : St) (H : Hp) (d : DS) (O : Addr → Prop) (T : Tks) (xs : List D) (vs : List V) (Q : D → Prop) (k : VK),
  DIx tk K F pn σ H d O T → RepRL K O T H xs vs → f xs Q → (∀ z u H', DI tk K F ((z, .sh u) :: pn) σ H' d → Q u → k z H') → r vs H k
section
variable {tk : Tk} {X : Cx} {pos p : Pos} {a b e : Expr} {es : List Expr} {ta tb te : DTE} {t : DTA} {x : Str} {id Ty : String} {r : List V → Hp → VK → Prop} {f : DSp}
def dCB (f : DSp) (t : DTA) (d : DS) (Q : D → DS → Prop) : Prop := t d fun xs d1 => f xs fun z => Q z d1
def dCBv (f : DSp) (i : Nat) (d : DS) (Q : D → DS → Prop) : Prop := match dPk i d with
  | some x => f [x] fun z => Q z d
  | none => False
theorem tCB_D (hf : CallD tk X.K r f) : ∀ σ H k, upE tk X.K (dCB f t) σ H k → tCB r (upA tk X.K t) σ H k := by
  rintro σ H k ⟨F, pn, d, Q, I, q, c⟩
  refine upA_at I q fun vs H1 xs d1 hl I1 q1 => ?_
  obtain ⟨O, T, I1⟩ := I1
  exact hf F pn σ H1 d1 O T xs vs _ k I1.less (I1.args hl).rl q1 fun z u H' J q => c z H' u d1 J q
theorem tCBv_D {i : Nat} (hf : CallD tk X.K r f) : ∀ σ H k, upE tk X.K (dCBv f i) σ H k → tCB r (tCons (tVar i) tNil) σ H k := by
  rintro σ H k ⟨F, pn, d, Q, ⟨O, T, I⟩, q, c⟩
  unfold dCBv at q
  split at q
  · rename_i x e
    obtain ⟨v, hv⟩ := I.pkv e
    exact ⟨v, hv, hf F pn σ H d O T [x] [v] _ k I ⟨v, [], rfl, I.pk e hv, rfl⟩ q fun z u H' J q => c z H' u d J q⟩
  · exact q.elim
theorem de_callB (hc : CallR X (.builtin id) r) (hf : CallD tk X.K r f) (hg : Gl X x) (hm : X.mg x = none) (hv : bootBuiltins x = some (.builtin id)) (ha : DA tk X (e :: es) t) (hn : x ≠ "__name__" := by decide) (hdb : (x == ("__debug__" : Str)) = false := by decide)
    (he : starEach (e :: es) X.env = (false, eval e X.env) :: starEach es X.env := by rfl) (hpl : (backTo pos (starEach es X.env)).any (·.1) = false := by rfl) : DE tk X (.Call (.Name x p) (e :: es) [] pos) (dCB f t) :=
  pe_imp (pe_callB hc hg hm hv ha hn hdb he hpl) (tCB_D hf)
theorem de_callBv {i : Nat} (hc : CallR X (.builtin id) r) (hf : CallD tk X.K r f) (hg : Gl X x) (hm : X.mg x = none) (hv : bootBuiltins x = some (.builtin id)) (ha : PE X e (tVar i)) (hn : x ≠ "__name__" := by decide) (hdb : (x == ("__debug__" : Str)) = false := by decide)
    (hs : starEach [e] X.env = [(false, eval e X.env)] := by rfl) : DE tk X (.Call (.Name x p) [e] [] pos) (dCBv f i) :=
  pe_imp (pe_callB hc hg hm hv (pa_cons ha pa_nil hs) hn hdb hs rfl) (tCBv_D hf)
theorem de_callTy (hc : CallR X (.type Ty) r) (hf : CallD tk X.K r f) (hg : Gl X x) (hm : X.mg x = none) (hv : bootBuiltins x = some (.type Ty)) (ha : DA tk X (e :: es) t) (hn : x ≠ "__name__" := by decide) (hdb : (x == ("__debug__" : Str)) = false := by decide)
    (he : starEach (e :: es) X.env = (false, eval e X.env) :: starEach es X.env := by rfl) (hpl : (backTo pos (starEach es X.env)).any (·.1) = false := by rfl) : DE tk X (.Call (.Name x p) (e :: es) [] pos) (dCB f t) :=
  pe_imp (pe_callTy hc hg hm hv ha hn hdb he hpl) (tCB_D hf)
theorem de_callTyv {i : Nat} (hc : CallR X (.type Ty) r) (hf : CallD tk X.K r f) (hg : Gl X x) (hm : X.mg x = none) (hv : bootBuiltins x = some (.type Ty)) (ha : PE X e (tVar i)) (hn : x ≠ "__name__" := by decide) (hdb : (x == ("__debug__" : Str)) = false := by decide)
    (hs : starEach [e] X.env = [(false, eval e X.env)] := by rfl) : DE tk X (.Call (.Name x p) [e] [] pos) (dCBv f i) :=
  pe_imp (pe_callTy hc hg hm hv (pa_cons ha pa_nil hs) hn hdb hs rfl) (tCBv_D hf)
end
section
variable {tk : Tk} {K : PySem.W.Frag}
def cI1 (g : Int → Int) (xs : List D) (Q : D → Prop) : Prop := match xs with
  | [.int i] => Q (.int (g i))
  | _ => False
def cI2 (g : Int → Int → Int) (xs : List D) (Q : D → Prop) : Prop := match xs with
  | [.int i, .int j] => Q (.int (g i j))
  | _ => False
abbrev cAbs : DSp := cI1 fun i => if i < 0 then -i else i
abbrev cMax : DSp := cI2 fun i j => if j > i then j else i
abbrev cMin : DSp := cI2 fun i j => if j < i then j else i
theorem calld_abs : CallD tk K (fun xs H Q => ∃ i, xs = [.int i] ∧ Q (.int (if i < 0 then -i else i)) H) cAbs := by
  intro F pn σ H d O T xs vs Q k I r q c
  unfold cAbs cI1 at q
  split at q
  · obtain ⟨v, rfl, h⟩ := r.one
    exact ⟨_, by rw [show v = V.int _ from h], c _ _ H (DI.int I _) q⟩
  · exact q.elim
theorem calld_max : CallD tk K (fun xs H Q => ∃ i j, xs = [.int i, .int j] ∧ Q (.int (if j > i then j else i)) H) cMax := by
  intro F pn σ H d O T xs vs Q k I r q c
  unfold cMax cI2 at q
  split at q
  · obtain ⟨v, w, rfl, h, h'⟩ := r.two
    exact ⟨_, _, by rw [show v = V.int _ from h, show w = V.int _ from h'], c _ _ H (DI.int I _) q⟩
  · exact q.elim
theorem calld_min : CallD tk K (fun xs H Q => ∃ i j, xs = [.int i, .int j] ∧ Q (.int (if j < i then j else i)) H) cMin := by
  intro F pn σ H d O T xs vs Q k I r q c
  unfold cMin cI2 at q
  split at q
  · obtain ⟨v, w, rfl, h, h'⟩ := r.two
    exact ⟨_, _, by rw [show v = V.int _ from h, show w = V.int _ from h'], c _ _ H (DI.int I _) q⟩
  · exact q.elim
/-- int(x) -/
def cInt (xs : List D) (Q : D → Prop) : Prop := match xs with
  | [.int i] => Q (.int i)
  | [.bl b] => Q (.int (if b then 1 else 0))
  | _ => False
theorem calld_int : CallD tk K (fun xs H Q => (∃ i, xs = [.int i] ∧ Q (.int i) H) ∨ ∃ k, xs = [.bl k] ∧ Q (.int (if k then 1 else 0)) H) cInt := by
  intro F pn σ H d O T xs vs Q k I r q c
  unfold cInt at q
  split at q
  · obtain ⟨v, rfl, h⟩ := r.one
    exact .inl ⟨_, by rw [show v = V.int _ from h], c _ _ H (DI.int I _) q⟩
  · obtain ⟨v, rfl, h⟩ := r.one
    exact .inr ⟨_, by rw [show v = V.bl _ from h], c _ _ H (DI.int I _) q⟩
  · exact q.elim
/-- len(x) -/
def cLen (xs : List D) (Q : D → Prop) : Prop := match xs with
  | [.tup ys] => Q (.int ys.length)
  | [.lst ys] => Q (.int ys.length)
  | [.frz ys] => Q (.int ys.length)
  | [.str z] => z.length ≤ sizeLine ∧ Q (.int z.length)
  | _ => False
def rLenAll (K : PySem.W.Frag) : List V → Hp → VK → Prop := fun xs H Q => (∃ p ys, xs = [.ref p] ∧ (SqL K H p ys ∨ SqT K H p ys) ∧ Q (.int ys.length) H) ∨ (∃ z, xs = [.str z] ∧ z.length ≤ sizeLine ∧ Q (.int z.length) H)
theorem call_lenAll {X : Cx} : CallR X (.builtin "len") (rLenAll X.K) := call_len_seq.or call_len_str
theorem calld_len : CallD tk K (rLenAll K) cLen := by
  intro F pn σ H d O T xs vs Q k I r q c
  unfold cLen at q
  split at q
  · obtain ⟨v, rfl, h⟩ := r.one
    obtain ⟨a, ws, rfl, ha, rw'⟩ := RepR.tup h
    exact .inl ⟨a, ws, rfl, .inr ha.sq, by rw [rw'.length]; exact c _ _ H (DI.int I _) q⟩
  · obtain ⟨v, rfl, h⟩ := r.one
    obtain ⟨a, ws, rfl, ha, rw'⟩ := RepR.lst h
    exact .inl ⟨a, ws, rfl, .inl (SqL.of ha), by rw [rw'.length]; exact c _ _ H (DI.int I _) q⟩
  · obtain ⟨v, rfl, h⟩ := r.one
    obtain ⟨a, ws, rfl, ha, rw'⟩ := (h : ∃ a vs, v = .ref a ∧ FrzAt K O H a vs ∧ RepL K O T H _ vs)
    exact .inl ⟨a, ws, rfl, .inl ha.sq, by rw [rw'.length]; exact c _ _ H (DI.int I _) q⟩
  · obtain ⟨v, rfl, h⟩ := r.one
    exact .inr ⟨_, by rw [show v = V.str _ from h], q.1, c _ _ H (DI.int I _) q.2⟩
  · exact q.elim
/-- tuple(x) -/
def cTuple (xs : List D) (Q : D → Prop) : Prop := match xs with
  | [.tup ys] => Q (.tup ys)
  | [.lst ys] => Q (.tup ys)
  | [.frz ys] => Q (.tup ys)
  | _ => False
theorem calld_tuple : CallD tk K (fun xs H Q => ∃ p ys, xs = [.ref p] ∧ ((SqL K H p ys ∧ ∀ l, H l = none → Q (.ref l) (upd H l (.tup ys))) ∨ (SqT K H p ys ∧ Q (.ref p) H))) cTuple := by
  intro F pn σ H d O T xs vs Q k I r q c
  unfold cTuple at q
  split at q
  · obtain ⟨v, rfl, h⟩ := r.one
    obtain ⟨a, ws, rfl, ha, rw'⟩ := RepR.tup h
    exact ⟨a, ws, rfl, .inr ⟨ha.sq, c _ _ H (DI.add I h) q⟩⟩
  · obtain ⟨v, rfl, h⟩ := r.one
    obtain ⟨a, ws, rfl, ha, rw'⟩ := RepR.lst h
    exact ⟨a, ws, rfl, .inl ⟨SqL.of ha, fun l hl => c _ _ _ (DI.newT I hl rw') q⟩⟩
  · obtain ⟨v, rfl, h⟩ := r.one
    obtain ⟨a, ws, rfl, ha, rw'⟩ := (h : ∃ a vs, v = .ref a ∧ FrzAt K O H a vs ∧ RepL K O T H _ vs)
    exact ⟨a, ws, rfl, .inl ⟨ha.sq, fun l hl => c _ _ _ (DI.newT I hl rw') q⟩⟩
  · exact q.elim
/-- list(x) -/
def cList (xs : List D) (Q : D → Prop) : Prop := match xs with
  | [.tup ys] => Q (.lst ys)
  | [.lst ys] => Q (.lst ys)
  | [.frz ys] => Q (.lst ys)
  | _ => False
theorem calld_list : CallD tk K (fun xs H Q => ∃ p ys, xs = [.ref p] ∧ (SqL K H p ys ∨ SqT K H p ys) ∧ ∀ l, H l = none → Q (.ref l) (upd H l (.lst ys))) cList := by
  intro F pn σ H d O T xs vs Q k I r q c
  unfold cList at q
  split at q
  · obtain ⟨v, rfl, h⟩ := r.one
    obtain ⟨a, ws, rfl, ha, rw'⟩ := RepR.tup h
    exact ⟨a, ws, rfl, .inr ha.sq, fun l hl => c _ _ _ (DI.newS I hl rw') q⟩
  · obtain ⟨v, rfl, h⟩ := r.one
    obtain ⟨a, ws, rfl, ha, rw'⟩ := RepR.lst h
    exact ⟨a, ws, rfl, .inl (SqL.of ha), fun l hl => c _ _ _ (DI.newS I hl rw') q⟩
  · obtain ⟨v, rfl, h⟩ := r.one
    obtain ⟨a, ws, rfl, ha, rw'⟩ := (h : ∃ a vs, v = .ref a ∧ FrzAt K O H a vs ∧ RepL K O T H _ vs)
    exact ⟨a, ws, rfl, .inl ha.sq, fun l hl => c _ _ _ (DI.newS I hl rw') q⟩
  · exact q.elim
/-- all(xs), any(xs), sum(xs) of lists -/
def cAll (xs : List D) (Q : D → Prop) : Prop := match xs with
  | [.lst ys] => ∃ bs : List Bool, ys = bs.map D.bl ∧ Q (.bl (bs.all id))
  | _ => False
def cAny (xs : List D) (Q : D → Prop) : Prop := match xs with
  | [.lst ys] => ∃ bs : List Bool, ys = bs.map D.bl ∧ Q (.bl (bs.any id))
  | _ => False
def cSum (xs : List D) (Q : D → Prop) : Prop := match xs with
  | [.lst ys] => ∃ bs : List Int, ys = bs.map D.int ∧ Q (.int bs.sum)
  | _ => False
theorem calld_all : CallD tk K (rAll K) cAll := by
  intro F pn σ H d O T xs vs Q k I r q c
  unfold cAll at q
  split at q
  · obtain ⟨v, rfl, h⟩ := r.one
    obtain ⟨a, ws, rfl, ha, rw'⟩ := RepR.lst h
    obtain ⟨bs, rfl, q⟩ := q
    exact ⟨a, bs, rfl, SqL.of (by rw [ha, rw'.bls]), c _ _ _ (DI.bl I _) q⟩
  · exact q.elim
theorem calld_any : CallD tk K (rAny K) cAny := by
  intro F pn σ H d O T xs vs Q k I r q c
  unfold cAny at q
  split at q
  · obtain ⟨v, rfl, h⟩ := r.one
    obtain ⟨a, ws, rfl, ha, rw'⟩ := RepR.lst h
    obtain ⟨bs, rfl, q⟩ := q
    exact ⟨a, bs, rfl, SqL.of (by rw [ha, rw'.bls]), c _ _ _ (DI.bl I _) q⟩
  · exact q.elim
theorem calld_sum : CallD tk K (rSum K) cSum := by
  intro F pn σ H d O T xs vs Q k I r q c
  unfold cSum at q
  split at q
  · obtain ⟨v, rfl, h⟩ := r.one
    obtain ⟨a, ws, rfl, ha, rw'⟩ := RepR.lst h
    obtain ⟨bs, rfl, q⟩ := q
    exact ⟨a, bs, rfl, SqL.of (by rw [ha, rw'.ints]), c _ _ _ (DI.int I _) q⟩
  · exact q.elim
end

/-! ### isinstance -/
section
variable {tk : Tk} {X : Cx} {pos p p2 : Pos} {e : Expr} {te : DTE}
def tyn : D → Option String
  | .non => some "NoneType"
  | .bl _ => some "bool"
  | .int _ => some "int"
  | .str _ => some "str"
  | .tup _ => some "tuple"
  | .lst _ => some "list"
  | .frz _ => some "list"
  | _ => none
theorem Rep.ty {K O T H} {x : D} {v : V} {n : String} (h : Rep K O T H x v) (e : tyn x = some n) : TyX K H v (.type n) := by
  cases x with
  | non => cases e; rw [show v = V.non from h]; exact .base .non
  | bl b => cases e; rw [show v = V.bl b from h]; exact .base (.bl b)
  | int b => cases e; rw [show v = V.int b from h]; exact .base (.int b)
  | str b => cases e; rw [show v = V.str b from h]; exact .base (.str b)
  | tup b =>
    cases e
    obtain ⟨a, vs, rfl, ha, _⟩ := h
    rcases ha with ha | ⟨o, its, m, h1, h2, _⟩
    · exact .base (.tup ha.2)
    · exact .kTuple h1 h2
  | lst b => cases e; obtain ⟨a, vs, rfl, ha, _⟩ := h; exact .base (.lst ha.2)
  | frz b =>
    cases e
    obtain ⟨a, vs, rfl, ha, _⟩ := h
    rcases ha with ⟨_, o, ha⟩ | ⟨o, its, m, h1, h2, _⟩
    · exact .base (.frz ha)
    · exact .kList h1 h2
  | obj C fs => cases e
  | tok a b => cases e
/-- isinstance of built-in types -/
def isaB (a b : String) : Option Bool := match a, b with
  | "NoneType", "int" => some false | "NoneType", "bool" => some false | "NoneType", "str" => some false | "NoneType", "tuple" => some false | "NoneType", "list" => some false
  | "bool", "int" => some true | "bool", "bool" => some true | "bool", "str" => some false | "bool", "tuple" => some false | "bool", "list" => some false
  | "int", "int" => some true | "int", "bool" => some false | "int", "str" => some false | "int", "tuple" => some false | "int", "list" => some false
  | "str", "int" => some false | "str", "bool" => some false | "str", "str" => some true | "str", "tuple" => some false | "str", "list" => some false
  | "tuple", "int" => some false | "tuple", "bool" => some false | "tuple", "str" => some false | "tuple", "tuple" => some true | "tuple", "list" => some false
  | "list", "int" => some false | "list", "bool" => some false | "list", "str" => some false | "list", "tuple" => some false | "list", "list" => some true
  | _, _ => none
theorem isaB_kit {a b : String} {r : Bool} (h : isaB a b = some r) : kitB a b = some r := by
  unfold isaB at h
  split at h <;> first | (cases h; decide +kernel) | cases h
def isa (x : D) (n : String) : Option Bool := (tyn x).bind fun a => isaB a n
def dIsi (n : String) (te : DTE) (d : DS) (Q : D → DS → Prop) : Prop := te d fun x d1 => match isa x n with
  | some b => Q (.bl b) d1
  | none => False
theorem isa_kit {K O T H} {x : D} {v : V} {n : String} {b : Bool} (h : Rep K O T H x v) (e : isa x n = some b) : ∃ t, TyX K H v t ∧ PySem.W.kitOne K t (.type n) = some b := by
  obtain ⟨m, e1, e2⟩ := Option.bind_eq_some_iff.mp e
  exact ⟨_, h.ty e1, kit_ty (isaB_kit e2)⟩
theorem de_isi {n : Str} {ty : String} (hg : Gl X "isinstance") (hm : X.mg "isinstance" = none) (he : DE tk X e te) (hgn : Gl X n) (hmn : X.mg n = none) (hb : bootBuiltins n = some (.type ty)) (hn : n ≠ "__name__" := by decide) (hd : (n == ("__debug__" : Str)) = false := by decide)
    (hs : starEach [e, .Name n p2] X.env = [(false, eval e X.env), (false, eval (.Name n p2) X.env)] := by rfl) (hs2 : starEach [.Name n p2] X.env = [(false, eval (.Name n p2) X.env)] := by rfl) :
    DE tk X (.Call (.Name "isinstance" p) [e, .Name n p2] [] pos) (dIsi ty te) := by
  refine pe_imp (pe_callB (t := tCons (upE tk X.K te) (tCons (tC (.ty ty)) tNil)) call_isi hg hm (by decide +kernel) (pa_cons he (pa_cons (pe_bltn hgn hmn hb rfl hn hd) pa_nil (by rw [hs2]; rfl)) (by rw [hs, hs2])) (by decide) (by decide) (by rw [hs, hs2]) (by rw [hs2]; rfl)) ?_
  rintro σ H k ⟨F, pn, d, Q, I, q, c⟩
  refine upE_at I q fun v H1 x d1 I1 q1 => ?_
  obtain ⟨O, T, I1⟩ := I1
  have r1 : Rep X.K O T H1 x v := I1.pe (v, .sh x) (by simp)
  split at q1
  · rename_i b eb
    obtain ⟨t, h1, h2⟩ := isa_kit r1 eb
    exact ⟨v, _, t, _, b, rfl, .ty ty, h1, h2, c _ H1 _ d1 (DI.bl (I1.drop (by simp)) b) q1⟩
  · exact q1.elim
def dIsi2 (n m : String) (te : DTE) (d : DS) (Q : D → DS → Prop) : Prop := te d fun x d1 => match isa x n, isa x m with
  | some b, some b' => Q (.bl (b || b')) d1
  | _, _ => False
theorem de_isi2 {n m : Str} {ty ty' : String} {p3 p4 : Pos} {z : Nat} (hg : Gl X "isinstance") (hm : X.mg "isinstance" = none) (he : DE tk X e te) (hgn : Gl X n) (hmn : X.mg n = none) (hb : bootBuiltins n = some (.type ty)) (hgm : Gl X m) (hmm : X.mg m = none) (hbm : bootBuiltins m = some (.type ty'))
    (hn : n ≠ "__name__" := by decide) (hd : (n == ("__debug__" : Str)) = false := by decide) (hn' : m ≠ "__name__" := by decide) (hd' : (m == ("__debug__" : Str)) = false := by decide)
    (h1 : PA X [e, .Tuple [.Name n p2, .Name m p3] z p4] (tCons (upE tk X.K te) (tCons (tTup (tCons (tC (.ty ty)) (tCons (tC (.ty ty')) tNil))) tNil)) := by exact pa_cons he (pa_cons (pe_tup (pa_cons (pe_bltn hgn hmn hb rfl hn hd) (pa_cons (pe_bltn hgm hmm hbm rfl hn' hd') pa_nil))) pa_nil))
    (hs : starEach [e, .Tuple [.Name n p2, .Name m p3] z p4] X.env = (false, eval e X.env) :: starEach [.Tuple [.Name n p2, .Name m p3] z p4] X.env := by rfl) (hpl : (backTo pos (starEach [.Tuple [.Name n p2, .Name m p3] z p4] X.env)).any (·.1) = false := by rfl) :
    DE tk X (.Call (.Name "isinstance" p) [e, .Tuple [.Name n p2, .Name m p3] z p4] [] pos) (dIsi2 ty ty' te) := by
  refine pe_imp (pe_callB call_isiT hg hm (by decide +kernel) h1 (by decide) (by decide) hs hpl) ?_
  rintro σ H k ⟨F, pn, d, Q, I, q, c⟩
  refine upE_at I q fun v H1 x d1 I1 q1 => ⟨by show 2 ≤ sizeLine; decide, fun t ht => ?_⟩
  obtain ⟨O, T, I1⟩ := I1
  have r1 : Rep X.K O T H1 x v := I1.pe (v, .sh x) (by simp)
  have J := I1.fresh (o := .tup [.ty ty, .ty ty']) ht
  have r2 : Rep X.K O T (upd H1 t (.tup [.ty ty, .ty ty'])) x v := J.pe (v, .sh x) (by simp)
  split at q1
  · rename_i b b' eb eb'
    obtain ⟨m, e1, e2⟩ := Option.bind_eq_some_iff.mp eb
    obtain ⟨m', e3, e4⟩ := Option.bind_eq_some_iff.mp eb'
    have : m = m' := Option.some.inj (e1.symm.trans e3)
    subst this
    refine ⟨v, t, _, _, _, b || b', rfl, upd_same, .cons (.ty _) (.cons (.ty _) .nil), r2.ty e1, ?_, c _ _ _ d1 (DI.bl (J.drop (by simp)) _) q1⟩
    refine kitAny_cons (kit_ty (isaB_kit e2)) (fun z => ?_) (fun z => by rw [z]; rfl)
    subst z
    refine kitAny_cons (r := b') (kit_ty (isaB_kit e4)) (fun z => by rw [z]; exact kitAny_nil) (fun z => z)
  · exact q1.elim
end
end DL
set_option Elab.async false
set_option linter.all false
set_option maxRecDepth 100000
set_option maxHeartbeats 4000000
/-! DL4: attributes, slices, statements, loops. -/
namespace DL
open PySem L2

/-! ### attributes -/
section
variable {tk : Tk} {X : Cx} {pos p p2 : Pos} {e : Expr} {te : DTE} {f : Str}
def AtOk (K : PySem.W.Frag) (C : Addr) (f : Str) : Prop := Cls K C ∧ NoAttr K C f
def dFld (K : PySem.W.Frag) (f : Str) (te : DTE) (d : DS) (Q : D → DS → Prop) : Prop := te d fun x d1 => match x with
  | .obj C fs => AtOk K C f ∧ match fs.lookup f with
    | some y => Q y d1
    | none => False
  | _ => False
theorem de_fld (K : PySem.W.Frag) (he : DE tk X e te) (hb : attributeBase e f X.env (eval e X.env) = eval e X.env) (hK : X.K = K := by rfl) : DE tk X (.Attribute e f pos) (dFld K f te) := by
  subst hK
  refine pe_imp (pe_fld he hb) ?_
  rintro σ H k ⟨F, pn, d, Q, I, q, c⟩
  refine upE_at I q fun v H1 x d1 I1 q1 => ?_
  obtain ⟨O, T, I1⟩ := I1
  have r1 : Rep X.K O T H1 x v := I1.pe (v, .sh x) (by simp)
  split at q1
  · obtain ⟨a, dx, gs, e1, _, h1, h2⟩ := r1
    obtain ⟨q0, q1⟩ := q1
    split at q1
    · rename_i y ey
      obtain ⟨u, h3, h4⟩ := h2.lookup ey
      exact ⟨a, _, dx, gs, u, e1, h1, q0.1, q0.2, h3, c u H1 y d1 (DI.add (I1.drop (by simp)) h4) q1⟩
    · exact q1.elim
  · exact q1.elim
end

/-! ### slices -/
section
variable {tk : Tk} {X : Cx} {pos p2 : Pos} {e : Expr} {te : DTE} {lo hi : Option Expr} {tl th : DTE}
abbrev DTO := DS → (Option Int → DS → Prop) → Prop
def upO (tk : Tk) (K : PySem.W.Frag) (t : DTO) : TO := fun σ H k => ∃ F pn d Q, DI tk K F pn σ H d ∧ t d Q ∧ ∀ o H' d', DI tk K F pn σ H' d' → Q o d' → k o H'
abbrev DO (tk : Tk) (X : Cx) (e : Option Expr) (t : DTO) : Prop := PO X e (upO tk X.K t)
theorem po_imp {e : Option Expr} {t t' : TO} (h : PO X e t) (w : ∀ σ H k, t' σ H k → t σ H k) : PO X e t' := ⟨fun pins s σ H Q I q => h.run pins s σ H Q I (w σ H Q q)⟩
def dNoPart (d : DS) (Q : Option Int → DS → Prop) : Prop := Q none d
def dPart (t : DTE) (d : DS) (Q : Option Int → DS → Prop) : Prop := t d fun x d1 => match x with
  | .int i => Q (some i) d1
  | _ => False
theorem do_none : DO tk X none dNoPart := by
  refine po_imp po_none ?_
  rintro σ H k ⟨F, pn, d, Q, I, q, c⟩
  exact c none H d I q
theorem do_some (h : DE tk X e te) : DO tk X (some e) (dPart te) := by
  refine po_imp (po_some h) ?_
  rintro σ H k ⟨F, pn, d, Q, I, q, c⟩
  refine upE_at I q fun v H1 x d1 I1 q1 => ?_
  obtain ⟨O, T, I1⟩ := I1
  have r1 : Rep X.K O T H1 x v := I1.pe (v, .sh x) (by simp)
  cases x with
  | int i => exact ⟨i, r1, c _ H1 d1 ⟨O, T, I1.drop (by simp)⟩ q1⟩
  | _ => exact q1.elim
def cutD (xs : List D) (lo hi : Option Int) : List D := (xs.drop (HT.sIx xs.length 0 lo)).take (HT.sIx xs.length xs.length hi - HT.sIx xs.length 0 lo)
theorem RepL.cut {K O T H} {xs : List D} {vs : List V} (r : RepL K O T H xs vs) (lo hi : Option Int) : RepL K O T H (cutD xs lo hi) (cutV vs lo hi) := by
  unfold cutD cutV
  rw [r.length]
  exact (r.drop _).take _
/-- slices of lists, tuples -/
def rSlAll (K : PySem.W.Frag) : V → Option Int → Option Int → Hp → VK → Prop := fun x lo hi H Q => rSlL K x lo hi H Q ∨ rSlA K x lo hi H Q
theorem sl_all : SlR X (rSlAll X.K) := sl_list.or sl_tupA
def dSl (te : DTE) (tl th : DTO) (d : DS) (Q : D → DS → Prop) : Prop := te d fun x d1 => tl d1 fun lo d2 => th d2 fun hi d3 => match x with
  | .tup xs => Q (.tup (cutD xs lo hi)) d3
  | .lst xs => Q (.lst (cutD xs lo hi)) d3
  | .frz xs => Q (.lst (cutD xs lo hi)) d3
  | _ => False
theorem cut_whole {α : Type} (xs : List α) (n : Nat) (h : n = xs.length) (lo hi : Option Int) (q : HT.sIx n 0 lo = 0 ∧ HT.sIx n n hi = n) : (xs.drop (HT.sIx n 0 lo)).take (HT.sIx n n hi - HT.sIx n 0 lo) = xs := by
  rw [q.1, q.2, h]
  simp
theorem de_slice {tl th : DTO} (he : DE tk X e te) (hl : DO tk X lo tl) (hu : DO tk X hi th) : DE tk X (.Subscript e (.Slice lo hi none p2) pos) (dSl te tl th) := by
  refine pe_imp (pe_slice sl_all he hl hu) ?_
  rintro σ H k ⟨F, pn, d, Q, I, q, c⟩
  refine upE_at I q fun v H1 x d1 I1 q1 => ⟨F, _, d1, _, I1, q1, fun l H2 d2 I2 q2 => ⟨F, _, d2, _, I2, q2, fun u H3 d3 I3 q3 => ?_⟩⟩
  obtain ⟨O, T, I3⟩ := I3
  have r1 : Rep X.K O T H3 x v := I3.pe (v, .sh x) (by simp)
  have J := I3.drop (pn' := pn) (by simp)
  split at q3
  · rename_i xs
    obtain ⟨a, vs, rfl, ha, rv⟩ := id r1
    refine .inr ⟨a, vs, rfl, ha.sq, fun z => ?_, fun z p hp => c _ _ _ d3 (DI.newT J hp (rv.cut l u)) q3⟩
    have e : cutD xs l u = xs := cut_whole xs xs.length rfl l u (by rw [← rv.length]; exact z)
    rw [e] at q3
    exact c _ H3 _ d3 (DI.add J r1) q3
  · rename_i xs
    obtain ⟨a, vs, rfl, ha, rv⟩ := id r1
    exact .inl ⟨a, vs, rfl, SqL.of ha.2, fun p hp => c _ _ _ d3 (DI.newS J hp (rv.cut l u)) q3⟩
  · rename_i xs
    obtain ⟨a, vs, rfl, ha, rv⟩ := id r1
    exact .inl ⟨a, vs, rfl, ha.sq, fun p hp => c _ _ _ d3 (DI.newS J hp (rv.cut l u)) q3⟩
  · exact q3.elim
/-- xs[::-1] of a list, fresh -/
def dRevL (te : DTE) (d : DS) (Q : List D → DS → Prop) : Prop := te d fun x d1 => match x with
  | .lst xs => Q xs.reverse d1
  | .frz xs => Q xs.reverse d1
  | _ => False
theorem df_revL {k : Nat} {p1 p2 p3 : Pos} (he : DE tk X e te) : DF tk X (.Subscript e (.Slice none none (some (.UnaryOp .USub (.Constant (.int 1) k p1) p2)) p3) pos) (dRevL te) := by
  refine pe_imp (pe_revL he) ?_
  rintro σ H k ⟨F, pn, d, Q, I, q, c⟩
  refine upE_at I q fun v H1 x d1 I1 q1 => ?_
  obtain ⟨O, T, I1⟩ := I1
  have r1 : Rep X.K O T H1 x v := I1.pe (v, .sh x) (by simp)
  have J := I1.drop (pn' := pn) (by simp)
  split at q1
  · obtain ⟨a, vs, rfl, ha, rv⟩ := id r1
    exact ⟨a, vs, rfl, SqL.of ha.2, fun p hp => c _ _ _ d1 (DI.newO J hp rv.reverse) q1⟩
  · obtain ⟨a, vs, rfl, ha, rv⟩ := id r1
    exact ⟨a, vs, rfl, ha.sq, fun p hp => c _ _ _ d1 (DI.newO J hp rv.reverse) q1⟩
  · exact q1.elim
/-- -x -/
def dNeg (te : DTE) (d : DS) (Q : D → DS → Prop) : Prop := te d fun x d1 => match x with
  | .int i => Q (.int (-i)) d1
  | _ => False
theorem de_neg (he : DE tk X e te) : DE tk X (.UnaryOp .USub e pos) (dNeg te) := by
  refine pe_imp (pe_un un_neg he) ?_
  rintro σ H k ⟨F, pn, d, Q, I, q, c⟩
  refine upE_at I q fun v H1 x d1 I1 q1 => ?_
  obtain ⟨O, T, I1⟩ := I1
  have r1 : Rep X.K O T H1 x v := I1.pe (v, .sh x) (by simp)
  cases x with
  | int i => exact ⟨i, r1, c _ H1 _ d1 (DI.int (I1.drop (by simp)) _) q1⟩
  | _ => exact q1.elim
end

/-! ### own functions -/
def RetOk (tk : Tk) (K : PySem.W.Frag) (F : FrC) (v : V) (H' : Hp) (x : D) : Prop := ∃ pn σ d, DI tk K F ((v, .sh x) :: pn) σ H' d
/-- the promise of a def over data -/
def spD (tk : Tk) (K : PySem.W.Frag) (n : Nat) (c : DSp) : Sp := fun vs H Q _ => vs.length = n ∧ ∃ (O : Addr → Prop) (T : Tks) (xs : List D), (∀ a, O a → H a ≠ none) ∧ (∀ p ∈ T, O p.1 ∧ O p.2 ∧ tk.ok H p.1 p.2) ∧ RepL K O T H xs vs ∧
  ∃ Qd : D → Prop, c xs Qd ∧ ∀ x v H', Qd x → RetOk tk K ⟨H, O, T⟩ v H' x → Q v H'
section
variable {tk : Tk} {K : PySem.W.Frag} {F : FrC} {pn : Pn} {σ : St} {H H' : Hp} {d : DS} {O : Addr → Prop} {T : Tks}
/-- behind a call -/
theorem DIx.back (I : DIx tk K F pn σ H d O T) {v : V} {x : D} (r : RetOk tk K ⟨H, O, T⟩ v H' x) : DI tk K F ((v, .sh x) :: pn) σ H' d := by
  obtain ⟨pn', σ', d', O', T', J⟩ := r
  have rx : Rep K O' T' H' x v := J.pe _ (List.mem_cons_self)
  have same : ∀ a o, H a = some o → ¬ O a → H' a = some o := fun a o e n => J.ext a o e fun p hp => ⟨fun z => n (by rw [z]; exact (I.tok p hp).1), fun z => n (by rw [z]; exact (I.tok p hp).2.1)⟩
  have newO : ∀ a, (O a ∨ ∃ p ∈ T', a = p.1 ∨ a = p.2) → O a ∨ H a = none := fun a z => by
    rcases z with z | ⟨p, hp, z⟩
    · exact .inl z
    · rcases J.tnew p hp with q | ⟨q1, q2⟩
      · rcases z with z | z
        · exact .inl (by rw [z]; exact (I.tok p q).1)
        · exact .inl (by rw [z]; exact (I.tok p q).2.1)
      · rcases z with z | z
        · exact .inr (by rw [z]; exact q1)
        · exact .inr (by rw [z]; exact q2)
  have off : ∀ a, offT T a → H a ≠ none → offT T' a := fun a f n p hp => by
    rcases J.tnew p hp with q | ⟨q1, q2⟩
    · exact f p q
    · exact ⟨fun z => n (by rw [z]; exact q1), fun z => n (by rw [z]; exact q2)⟩
  have mv : ∀ {s : SV} {u : V}, RepS K F O T H s u → RepS K F (fun a => O a ∨ ∃ p ∈ T', a = p.1 ∨ a = p.2) T' H' s u := fun {s u} r => r.mono same newO (fun p hp => J.sub p hp) fun w a e => by
    obtain ⟨b, eb, ob, _, fb, nb⟩ := r.ownAt w
    have q : a = b := V.ref.inj (e.symm.trans eb)
    subst q
    cases hb : H a with
    | none => exact absurd hb nb
    | some o => exact ⟨J.ext a o hb fb, .inl ob, off a fb nb⟩
  refine ⟨fun a => O a ∨ ∃ p ∈ T', a = p.1 ∨ a = p.2, T', DIx.add (x := x) (v := v) ?_ ?_⟩
  · refine { len := I.len, ext := fun a o e f => J.ext a o (I.ext a o e f) ?_, keep := fun a e => J.keep a (I.keep a e), up := fun a e => .inl (I.up a e), fdom := I.fdom, dom := fun a z => ?_, new := fun a z => ?_, sub := fun p hp => J.sub p (I.sub p hp), tnew := fun p hp => ?_, tok := fun p hp => ⟨.inr ⟨p, hp, .inl rfl⟩, .inr ⟨p, hp, .inr rfl⟩, (J.tok p hp).2.2⟩, sl := fun i s e => let ⟨u, h1, h2⟩ := I.sl i s e; ⟨u, h1, mv h2⟩, pe := fun p hp => mv (I.pe p hp), ss := I.ss, sp := I.sp, pp := I.pp }
    · intro p hp
      rcases I.tnew p hp with q | ⟨q1, q2⟩
      · exact f p q
      · exact ⟨fun z => (by rw [z, q1] at e; cases e), fun z => (by rw [z, q2] at e; cases e)⟩
    · rcases z with z | ⟨p, hp, z⟩
      · exact J.keep a (I.dom a z)
      · have t := tk.there _ _ _ (J.tok p hp).2.2
        rcases z with z | z
        · rw [z]; exact t.1
        · rw [z]; exact t.2
    · rcases newO a z with z | z
      · exact I.new a z
      · refine .inr ?_
        cases q : F.H a with
        | none => rfl
        | some o => exact absurd z (I.keep a (by rw [q]; exact Option.some_ne_none _))
    · rcases J.tnew p hp with q | ⟨q1, q2⟩
      · exact I.tnew p q
      · refine .inr ⟨?_, ?_⟩
        · cases q : F.H p.1 with
          | none => rfl
          | some o => exact absurd q1 (I.keep p.1 (by rw [q]; exact Option.some_ne_none _))
        · cases q : F.H p.2 with
          | none => rfl
          | some o => exact absurd q2 (I.keep p.2 (by rw [q]; exact Option.some_ne_none _))
  · refine Rep.mono (fun _ _ e _ => e) (fun a z => .inl ?_) (fun _ z => z) x v rx
    rcases z with z | ⟨p, hp, z⟩
    · exact J.up a z
    · rcases z with z | z
      · rw [z]; exact (J.tok p hp).1
      · rw [z]; exact (J.tok p hp).2.1
end
section
variable {tk : Tk} {X : Cx} {pos p p2 : Pos} {e : Expr} {es : List Expr} {te : DTE} {t : DTA} {CX : CXT} {k n : Nat} {f : Addr} {fd : FuncData} {ps : List Str} {c : DSp} {x : Str} {dvs : List V} {ds : List Value} {dds : List D}
/-- f(e, ..): the contract of its data, the defaults behind -/
def dCall (n : Nat) (c : DSp) (dds : List D) (t : DTA) (d : DS) (Q : D → DS → Prop) : Prop := t d fun xs d1 => (xs ++ dds).length = n ∧ c (xs ++ dds) fun z => Q z d1
theorem repFlat {K O T H} : ∀ {dds : List D} {dvs : List V}, dds.map flatD = dvs.map some → RepL K O T H dds dvs
  | [], [], _ => rfl
  | x :: xs, v :: vs, e => by
    simp only [List.map_cons, List.cons.injEq] at e
    exact ⟨v, vs, rfl, Rep.flat e.1, repFlat e.2⟩
  | [], v :: vs, e => by cases e
  | x :: xs, [], e => by cases e
theorem de_callD (F : FnOk X.prog X.w X.K X.mg X.base CX0 k f fd ps (spD tk X.K n c)) (hr : Room k X.A) (hg : Gl X x) (hm : X.mg x = some (.ref f)) (hk : PySem.W.keepIn X.K (.ref f) = true) (hb : Binds X.K fd ps ds) (hd : Vals dvs ds) (hdd : dds.map flatD = dvs.map some) (hn : ps.length = n)
    (ha : DA tk X (e :: es) t) (hdb : (x == ("__debug__" : Str)) = false := by decide) (he : starEach (e :: es) X.env = (false, eval e X.env) :: starEach es X.env := by rfl) (hpl : (backTo pos (starEach es X.env)).any (·.1) = false := by rfl) :
    DE tk X (.Call (.Name x p) (e :: es) [] pos) (dCall n c dds t) := by
  refine pe_imp (pe_call F hr hg hm hk hb hd pass0 ha hdb he hpl) ?_
  rintro σ H k ⟨F, pn, d, Q, I, q, c'⟩
  refine upA_at I q fun vs H1 xs d1 hl I1 q1 => ?_
  obtain ⟨O, T, I1⟩ := I1
  have rl : RepL X.K O T H1 (xs ++ dds) (vs ++ dvs) := (I1.args hl).append (repFlat hdd)
  have J := I1.less
  exact ⟨by rw [rl.length]; exact q1.1, O, T, xs ++ dds, J.dom, J.tok, rl, _, q1.2, fun y v H' qy ret => c' v H' y d1 (J.back ret) qy⟩
end

/-! ### statements -/
structure DEn where
  nx : DS → Prop
  rt : D → Prop
  bk : DS → Prop := fun _ => False
  ct : DS → Prop := fun _ => False
abbrev DTS := DEn → DS → Prop
/-- what a frame wants at its ends, by data -/
structure EndOk (tk : Tk) (K : PySem.W.Frag) (F : FrC) (pn : Pn) (E : DEn) (D : Ends) : Prop where
  nx : ∀ σ H d, DI tk K F pn σ H d → E.nx d → D.nx σ H
  rt : ∀ v H x, RetOk tk K F v H x → E.rt x → D.rt v H
  bk : ∀ σ H d, DI tk K F pn σ H d → E.bk d → D.bk σ H
  ct : ∀ σ H d, DI tk K F pn σ H d → E.ct d → D.ct σ H
def upS (tk : Tk) (K : PySem.W.Frag) (t : DTS) : TS := fun D σ H => ∃ F pn d E, DI tk K F pn σ H d ∧ t E d ∧ EndOk tk K F pn E D
abbrev DSt (tk : Tk) (X : Cx) (st : Stmt) (t : DTS) : Prop := PS X st (upS tk X.K t)
abbrev DSs (tk : Tk) (X : Cx) (st : List Stmt) (t : DTS) : Prop := PSs X st (upS tk X.K t)
section
variable {tk : Tk} {X : Cx} {st : Stmt} {rest : List Stmt} {t u : DTS} {e : Expr} {te : DTE} {tf : DTA} {pos : Pos}
def sNext (E : DEn) (d : DS) : Prop := E.nx d
def sSeq (t u : DTS) (E : DEn) (d : DS) : Prop := t { E with nx := u E } d
theorem dss_nil : DSs tk X [] sNext := by
  refine pss_imp pss_nil ?_
  rintro σ H D ⟨F, pn, d, E, I, q, c⟩
  exact c.nx σ H d I q
theorem dss_cons (h1 : DSt tk X st t) (h2 : DSs tk X rest u) : DSs tk X (st :: rest) (sSeq t u) := by
  refine pss_imp (pss_cons h1 h2) ?_
  rintro σ H D ⟨F, pn, d, E, I, q, c⟩
  exact ⟨F, pn, d, _, I, q, ⟨fun σ H d I q => ⟨F, pn, d, E, I, q, c⟩, c.rt, c.bk, c.ct⟩⟩
theorem dss_one (h1 : DSt tk X st t) : DSs tk X [st] t := pss_one h1
def sBreak (E : DEn) (d : DS) : Prop := E.bk d
def sCont (E : DEn) (d : DS) : Prop := E.ct d
theorem ds_pass : DSt tk X (.Pass pos) sNext := by
  refine ps_imp ps_pass ?_
  rintro σ H D ⟨F, pn, d, E, I, q, c⟩
  exact c.nx σ H d I q
theorem ds_break : DSt tk X (.Break pos) sBreak := by
  refine ps_imp ps_break ?_
  rintro σ H D ⟨F, pn, d, E, I, q, c⟩
  exact c.bk σ H d I q
theorem ds_continue : DSt tk X (.Continue pos) sCont := by
  refine ps_imp ps_continue ?_
  rintro σ H D ⟨F, pn, d, E, I, q, c⟩
  exact c.ct σ H d I q
def sRet (te : DTE) (E : DEn) (d : DS) : Prop := te d fun x _ => E.rt x
theorem ds_ret (he : DE tk X e te) : DSt tk X (.Return (some e) pos) (sRet te) := by
  refine ps_imp (ps_ret he) ?_
  rintro σ H D ⟨F, pn, d, E, I, q, c⟩
  exact upE_at I q fun v H1 x d1 I1 q1 => c.rt v H1 x ⟨pn, σ, d1, I1⟩ q1
def sRetN (E : DEn) (_ : DS) : Prop := E.rt .non
theorem ds_retN : DSt tk X (.Return none pos) sRetN := by
  refine ps_imp ps_retN ?_
  rintro σ H D ⟨F, pn, d, E, ⟨O, T, I⟩, q, c⟩
  exact c.rt .non H .non ⟨pn, σ, d, DI.add I rfl⟩ q
def sIf (c : DTT) (t u : DTS) (E : DEn) (d : DS) : Prop := c d fun b d1 => if b = true then t E d1 else u E d1
theorem ds_if {c : Expr} {a b : List Stmt} {tc : DTT} (hc : DT tk X c tc) (ha : DSs tk X a t) (hb : DSs tk X b u) : DSt tk X (.If c a b pos) (sIf tc t u) := by
  refine ps_imp (ps_if hc ha hb) ?_
  rintro σ H D ⟨F, pn, d, E, I, q, c⟩
  refine upT_at I q fun z H1 d1 I1 q1 => ?_
  cases z with
  | true => exact ⟨F, pn, d1, E, I1, q1, c⟩
  | false => exact ⟨F, pn, d1, E, I1, q1, c⟩
def sNever (_ : DEn) (_ : DS) : Prop := False
theorem ds_never : DSt tk X st sNever := by
  refine ps_imp ps_never ?_
  rintro σ H D ⟨F, pn, d, E, I, q, c⟩
  exact q.elim
theorem dss_never {sts : List Stmt} : DSs tk X sts sNever := by
  refine pss_imp pss_never ?_
  rintro σ H D ⟨F, pn, d, E, I, q, c⟩
  exact q.elim
/-- an expression whose value is dropped -/
def sDrop (te : DTE) (E : DEn) (d : DS) : Prop := te d fun _ d1 => E.nx d1
theorem ds_expr (he : DE tk X e te) (hs : swapsWith e none pos.line X.env = pure false := by rfl) : DSt tk X (.Expr e pos) (sDrop te) := by
  refine ps_imp (ps_expr he hs) ?_
  rintro σ H D ⟨F, pn, d, E, I, q, c⟩
  exact upE_at I q fun v H1 x d1 I1 q1 => c.nx σ H1 d1 I1.tail q1
/-- name = e -/
def sSet (i : Nat) (te : DTE) (E : DEn) (d : DS) : Prop := te d fun x d1 => E.nx (d1.set i (some (.sh x)))
theorem ds_set {i : Nat} {x : Str} {pos' : Pos} (hN : X.N.Nodup) (hi : X.N[i]? = some x) (hx : Loc X.env.scope x) (he : DE tk X e te) (hs : swapsWith e (some (.Name x pos')) pos.line X.env = pure false := by rfl) (hf : X.fn x = true ∨ X.env.scope.names.lookup x = some .local := by first | exact .inl rfl | exact .inr rfl | assumption) :
    DSt tk X (.Assign [.Name x pos'] e pos) (sSet i te) := by
  refine ps_imp (ps_set hN hi hx he hs hf) ?_
  rintro σ H D ⟨F, pn, d, E, I, q, c⟩
  exact upE_at I q fun v H1 x d1 I1 q1 => let ⟨O, T, J⟩ := I1; c.nx _ H1 _ ⟨O, T, J.toSlot⟩ q1
/-- name = a fresh list -/
def sSetF (i : Nat) (tf : DTA) (E : DEn) (d : DS) : Prop := tf d fun xs d1 => E.nx (d1.set i (some (.ow xs)))
theorem ds_setF {i : Nat} {x : Str} {pos' : Pos} (hN : X.N.Nodup) (hi : X.N[i]? = some x) (hx : Loc X.env.scope x) (he : DF tk X e tf) (hs : swapsWith e (some (.Name x pos')) pos.line X.env = pure false := by rfl) (hf : X.fn x = true ∨ X.env.scope.names.lookup x = some .local := by first | exact .inl rfl | exact .inr rfl | assumption) :
    DSt tk X (.Assign [.Name x pos'] e pos) (sSetF i tf) := by
  refine ps_imp (ps_set hN hi hx he hs hf) ?_
  rintro σ H D ⟨F, pn, d, E, I, q, c⟩
  exact upF_at I q fun v H1 x d1 I1 q1 => let ⟨O, T, J⟩ := I1; c.nx _ H1 _ ⟨O, T, J.toSlot⟩ q1
/-- name op= e, of ints -/
def sAug (i : Nat) (te : DTE) (f : Int → Int → Int) (E : DEn) (d : DS) : Prop := match dPk i d with
  | some (.int z) => te d fun y d1 => match y with
    | .int w => E.nx (d1.set i (some (.sh (.int (f z w)))))
    | _ => False
  | _ => False
theorem ds_aug {i : Nat} {x : Str} {op : Operator} {f : Int → Int → Int} {pos' : Pos} (ho : PIp X op (ipI f)) (hN : X.N.Nodup) (hi : X.N[i]? = some x) (hx : Loc X.env.scope x) (he : DE tk X e te) (hf : X.fn x = true ∨ X.env.scope.names.lookup x = some .local := by first | exact .inl rfl | exact .inr rfl | assumption) :
    DSt tk X (.AugAssign (.Name x pos') op e pos) (sAug i te f) := by
  refine ps_imp (ps_aug hN hi hx he ho hf) ?_
  rintro σ H D ⟨F, pn, d, E, I, q, c⟩
  unfold sAug at q
  split at q
  · rename_i z ez
    obtain ⟨O, T, J⟩ := id I
    obtain ⟨v, hv⟩ := J.pkv ez
    have rv : v = .int z := J.pk ez hv
    subst rv
    refine ⟨.int z, hv, upE_at I q fun u H1 y d1 I1 q1 => ?_⟩
    obtain ⟨O, T, I1⟩ := I1
    have r1 : Rep X.K O T H1 y u := I1.pe (u, .sh y) (by simp)
    cases y with
    | int w =>
      refine ⟨z, w, rfl, r1, ?_⟩
      have J2 := DIx.add (x := .int (f z w)) (v := .int (f z w)) (I1.drop (pn' := pn) (by simp)) rfl
      exact c.nx _ H1 _ ⟨O, T, J2.toSlot⟩ q1
    | _ => exact q1.elim
  · exact q.elim
end

/-! ### targets -/
abbrev DTG := D → DS → (DS → Prop) → Prop
abbrev DTGs := List D → DS → (DS → Prop) → Prop
def upG (tk : Tk) (K : PySem.W.Frag) (g : DTG) : TG := fun v σ H k => ∃ F pn d x R, DI tk K F ((v, .sh x) :: pn) σ H d ∧ g x d R ∧ ∀ σ' H' d', DI tk K F pn σ' H' d' → R d' → k σ' H'
def upGs (tk : Tk) (K : PySem.W.Frag) (g : DTGs) : TGs := fun vs σ H k => ∃ F pn d xs R, vs.length = xs.length ∧ DI tk K F (pz vs xs ++ pn) σ H d ∧ g xs d R ∧ ∀ σ' H' d', DI tk K F pn σ' H' d' → R d' → k σ' H'
abbrev DG (tk : Tk) (X : Cx) (tg : Expr) (g : DTG) : Prop := PG X tg (upG tk X.K g)
abbrev DGs (tk : Tk) (X : Cx) (tg : List Expr) (g : DTGs) : Prop := PGs X tg (upGs tk X.K g)
section
variable {tk : Tk} {X : Cx} {e : Expr} {es : List Expr} {g : DTG} {gs : DTGs} {te : DTE} {pos : Pos}
def gNm (i : Nat) (x : D) (d : DS) (R : DS → Prop) : Prop := R (d.set i (some (.sh x)))
theorem dg_name {i : Nat} {x : Str} (hN : X.N.Nodup) (hi : X.N[i]? = some x) (hx : Loc X.env.scope x) (hf : X.fn x = true ∨ X.env.scope.names.lookup x = some .local := by first | exact .inl rfl | exact .inr rfl | assumption) : DG tk X (.Name x pos) (gNm i) := by
  refine pg_imp (pg_name hN hi hx hf) ?_
  rintro v σ H k ⟨F, pn, d, x, R, ⟨O, T, I⟩, q, c⟩
  exact c _ H _ ⟨O, T, I.toSlot⟩ q
def gsNil (xs : List D) (d : DS) (R : DS → Prop) : Prop := match xs with
  | [] => R d
  | _ => False
def gsCons (g : DTG) (gs : DTGs) (xs : List D) (d : DS) (R : DS → Prop) : Prop := match xs with
  | x :: xs => g x d fun d' => gs xs d' R
  | [] => False
theorem dgs_nil : DGs tk X [] gsNil := by
  refine pgs_imp pgs_nil ?_
  rintro vs σ H k ⟨F, pn, d, xs, R, hl, I, q, c⟩
  cases xs with
  | nil =>
    have z : vs = [] := List.eq_nil_of_length_eq_zero hl
    subst z
    exact ⟨rfl, c σ H d I q⟩
  | cons x xs => exact q.elim
theorem dgs_cons (h1 : DG tk X e g) (h2 : DGs tk X es gs) (hs : (assignEach (e :: es) X.env).map (·.2) = assign e X.env :: (assignEach es X.env).map (·.2) := by rfl) : DGs tk X (e :: es) (gsCons g gs) := by
  refine pgs_imp (pgs_cons h1 h2 hs) ?_
  rintro vs σ H k ⟨F, pn, d, xs, R, hl, I, q, c⟩
  cases xs with
  | nil => exact q.elim
  | cons x xs =>
    cases vs with
    | nil => cases hl
    | cons v vs =>
      exact ⟨v, vs, rfl, F, _, d, x, _, I, q, fun σ' H' d' I' q' => ⟨F, pn, d', xs, R, by simpa using hl, I', q', c⟩⟩
def gTp (gs : DTGs) (x : D) (d : DS) (R : DS → Prop) : Prop := match x with
  | .tup xs => gs xs d R
  | _ => False
theorem gs_len {n : Nat} : ∀ {es : List Expr} {gs : DTGs}, es.length = n → True := fun _ => trivial
theorem pz_rep {K : PySem.W.Frag} {F : FrC} {pn : Pn} {σ : St} {H : Hp} {d : DS} {O : Addr → Prop} {T : Tks} (I : DIx tk K F pn σ H d O T) : ∀ {xs : List D} {vs : List V}, RepL K O T H xs vs → DIx tk K F (pz vs xs ++ pn) σ H d O T
  | [], vs, h => by rw [show vs = [] from h]; exact I
  | x :: xs, vs, h => by
    obtain ⟨v, r, rfl, h1, h2⟩ := h
    exact (pz_rep I h2).add h1
theorem dg_tup {k n : Nat} (hc : X.calm = true) (h : DGs tk X es gs) (hl : ∀ xs d R, gs xs d R → xs.length = n)
    (hn : (assignEach es X.env).length = n := by rfl) (hst : (assignEach es X.env).findIdx? (·.1) = none := by rfl) : DG tk X (.Tuple es k pos) (gTp gs) := by
  refine pg_imp (pg_tup hc h hn hst) ?_
  rintro v σ H k ⟨F, pn, d, x, R, ⟨O, T, I⟩, q, c⟩
  have r1 : Rep X.K O T H x v := I.pe (v, .sh x) (by simp)
  cases x with
  | tup xs =>
    obtain ⟨a, vs, rfl, ha, rv⟩ := r1
    exact ⟨a, vs, rfl, ha.sq, by rw [rv.length]; exact hl _ _ _ q, F, pn, d, xs, R, rv.length, ⟨O, T, pz_rep (I.drop (by simp)) rv⟩, q, c⟩
  | _ => exact q.elim
/-- target = e -/
def sAsg (te : DTE) (g : DTG) (E : DEn) (d : DS) : Prop := te d fun x d1 => g x d1 E.nx
theorem ds_asg {tg : Expr} (he : DE tk X e te) (hg : DG tk X tg g) (hs : swapsWithSole [tg] e pos.line X.env = pure false := by rfl) (hw : swappedStores [tg] e X.env = pure none := by rfl)
    (h1 : (assignEach [tg] X.env).map (·.2) = [assign tg X.env] := by rfl) : DSt tk X (.Assign [tg] e pos) (sAsg te g) := by
  refine ps_imp (ps_asg he hg hs hw h1) ?_
  rintro σ H D ⟨F, pn, d, E, I, q, c⟩
  exact upE_at I q fun v H1 x d1 I1 q1 => ⟨F, pn, d1, x, _, I1, q1, fun σ' H' d' I' q' => c.nx σ' H' d' I' q'⟩
end
end DL
set_option Elab.async false
set_option linter.all false
set_option maxRecDepth 100000
set_option maxHeartbeats 4000000
/-! DL5: loops, comprehensions, lists that are written, objects that are made, a def by its body. -/
namespace DL
open PySem L2

/-! ### what is walked -/
section
variable (tk : Tk) (K : PySem.W.Frag)
def ItemsOk (F : FrC) (J : It) (items : List D) (ps : Pn) : Prop := ∃ (G : Hp → Prop) (Y : Nat → Hp → V → Hp → Prop), Walk J items.length G Y ∧ (∀ pn σ H d, DI tk K F (ps ++ pn) σ H d → G H) ∧
  ∀ (i : Nat) (H : Hp) (x : V) (H' : Hp) (pn : Pn) (σ : St) (d : DS), i < items.length → DI tk K F (ps ++ pn) σ H d → Y i H x H' → ∃ y, items[i]? = some y ∧ DI tk K F ((x, .sh y) :: (ps ++ pn)) σ H' d
abbrev DSr0 := DS → (List D → DS → Prop) → Prop
def upI (src : DSr0) : TI := fun σ H R => ∃ F pn d Q, DI tk K F pn σ H d ∧ src d Q ∧ ∀ J H' items d' ps, ItemsOk tk K F J items ps → DI tk K F (ps ++ pn) σ H' d' → Q items d' → R J H'
end
abbrev DSr (tk : Tk) (X : Cx) (tg it : Expr) (src : DSr0) : Prop := PI X tg it (upI tk X.K src)
section
variable {tk : Tk} {K : PySem.W.Frag} {F : FrC}
theorem items_lst {a : Addr} {xs : List D} {v : V} (ev : v = .ref a) : ItemsOk tk K F (Itl K a) xs [(v, .sh (.lst xs))] := by
  subst ev
  refine ⟨fun H => ∃ vs, SqL K H a vs ∧ vs.length = xs.length, fun i H x H' => H' = H ∧ ∀ vs, SqL K H a vs → vs[i]? = some x, ⟨fun i H hi h => ?_, fun H h => ?_, fun i H x H' hi h y => y⟩, fun pn σ H d I => ?_, fun i H x H' pn σ d hi I y => ?_⟩
  · obtain ⟨vs, h1, h2⟩ := h
    exact ⟨vs, vs[i]'(by omega), h1, by simp [show i < vs.length by omega]⟩
  · obtain ⟨vs, h1, h2⟩ := h
    exact ⟨vs, h1, by omega⟩
  · obtain ⟨O, T, I⟩ := I
    obtain ⟨b, vs, e, hb, r⟩ := (I.pe (.ref a, .sh (.lst xs)) (by simp) : Rep K O T H (.lst xs) (.ref a))
    cases e
    exact ⟨vs, SqL.of hb.2, r.length⟩
  · obtain ⟨O, T, I⟩ := I
    obtain ⟨b, vs, e, hb, r⟩ := (I.pe (.ref a, .sh (.lst xs)) (by simp) : Rep K O T H (.lst xs) (.ref a))
    cases e
    obtain ⟨rfl, y⟩ := y
    obtain ⟨z, h1, h2⟩ := r.get (y vs (SqL.of hb.2))
    exact ⟨z, h1, DI.add I h2⟩
theorem items_tup {a : Addr} {xs : List D} {v : V} (ev : v = .ref a) : ItemsOk tk K F (Itt K a) xs [(v, .sh (.tup xs))] := by
  subst ev
  refine ⟨fun H => ∃ vs, SqT K H a vs ∧ vs.length = xs.length, fun i H x H' => H' = H ∧ ∀ vs, SqT K H a vs → vs[i]? = some x, ⟨fun i H hi h => ?_, fun H h => ?_, fun i H x H' hi h y => y⟩, fun pn σ H d I => ?_, fun i H x H' pn σ d hi I y => ?_⟩
  · obtain ⟨vs, h1, h2⟩ := h
    exact ⟨vs, vs[i]'(by omega), h1, by simp [show i < vs.length by omega]⟩
  · obtain ⟨vs, h1, h2⟩ := h
    exact ⟨vs, h1, by omega⟩
  · obtain ⟨O, T, I⟩ := I
    obtain ⟨b, vs, e, hb, r⟩ := (I.pe (.ref a, .sh (.tup xs)) (by simp) : Rep K O T H (.tup xs) (.ref a))
    cases e
    exact ⟨vs, hb.sq, r.length⟩
  · obtain ⟨O, T, I⟩ := I
    obtain ⟨b, vs, e, hb, r⟩ := (I.pe (.ref a, .sh (.tup xs)) (by simp) : Rep K O T H (.tup xs) (.ref a))
    cases e
    obtain ⟨rfl, y⟩ := y
    obtain ⟨z, h1, h2⟩ := r.get (y vs hb.sq)
    exact ⟨z, h1, DI.add I h2⟩
theorem items_rng {lo : Int} {n : Nat} : ItemsOk tk K F (Itr lo n) ((List.range n).map fun i : Nat => D.int (lo + i)) [] := by
  have hl : ((List.range n).map fun i : Nat => D.int (lo + i)).length = n := by rw [List.length_map, List.length_range]
  refine ⟨fun _ => True, YFn fun i => .int (lo + i), by rw [hl]; exact walk_range, fun _ _ _ _ _ => trivial, fun i H x H' pn σ d hi I y => ?_⟩
  obtain ⟨rfl, rfl⟩ := y
  obtain ⟨O, T, I⟩ := I
  rw [hl] at hi
  refine ⟨.int (lo + i), ?_, DI.add I rfl⟩
  rw [List.getElem?_map, List.getElem?_range hi]
  rfl
end
section
variable {X : Cx} {tg : Expr}
/-- a list or a tuple that is walked -/
def iSeq (K : PySem.W.Frag) (tl : TE) : TI := fun σ H R => tl σ H fun x H1 => ∃ a, x = .ref a ∧ ((∃ xs, SqL K H1 a xs) ∧ R (Itl K a) H1 ∨ (∃ xs, SqT K H1 a xs) ∧ R (Itt K a) H1)
theorem pi_seq {l : Expr} {tl : TE} (hl : PE X l tl) : PI X tg l (iSeq X.K tl) := by
  constructor
  intro pins s σ H R I h
  apply thn (hl.run pins s σ H _ I h)
  rintro v s1 ⟨x, H1, I1, r1, a, rfl, q⟩
  obtain rfl : v = Value.ref a := r1
  have kp : ∀ (o : Obj), Inv X pins σ H1 { s1 with heap := s1.heap.push o } := fun o => I1.kept (t' := s1.toks) fun _ _ e => Heap.get?_push_of_some _ e
  have fp : ∀ b ∈ [s1.heap.objs.size], FpOk X pins H1 b := by
    intro b hb
    rw [List.mem_singleton.mp hb]
    exact I1.fpOk (Nat.le_refl _) (I1.hok.fresh (Nat.le_refl _))
  rcases q with ⟨⟨xs, hq⟩, q⟩ | ⟨⟨xs, hq⟩, q⟩
  · obtain ⟨its, _, p, _⟩ := I1.list hq
    apply wpAny_pyIter_list p.isList
    exact ⟨_, _, _, _, _, rfl, kp _, turn_list a _, ⟨_, Heap.get?_push_size _ rfl, rfl, rfl⟩, fp, q⟩
  · obtain ⟨its, _, p, _⟩ := I1.tuple hq
    apply wpAny_pyIter_tuple (items := its.toArray) p
    exact ⟨_, _, _, _, _, rfl, kp _, turn_tuple a _, ⟨_, Heap.get?_push_size _ rfl, rfl, rfl⟩, fp, q⟩
end
section
variable {tk : Tk} {X : Cx} {tg e : Expr} {te : DTE} {t : DTA} {p pos : Pos} {a b : Expr}
def srcE (te : DTE) (d : DS) (Q : List D → DS → Prop) : Prop := te d fun x d1 => match x with
  | .lst xs => Q xs d1
  | .tup xs => Q xs d1
  | _ => False
theorem sr_e (he : DE tk X e te) : DSr tk X tg e (srcE te) := by
  refine pi_imp (pi_seq he) ?_
  rintro σ H k ⟨F, pn, d, Q, I, q, c⟩
  refine upE_at I q fun v H1 x d1 I1 q1 => ?_
  obtain ⟨O, T, J⟩ := id I1
  have r1 : Rep X.K O T H1 x v := J.pe (v, .sh x) (by simp)
  cases x with
  | lst xs =>
    obtain ⟨a, vs, e, hb, r⟩ := id r1
    exact ⟨a, e, .inl ⟨⟨vs, SqL.of hb.2⟩, c _ H1 xs d1 [(v, .sh (.lst xs))] (items_lst e) I1 q1⟩⟩
  | tup xs =>
    obtain ⟨a, vs, e, hb, r⟩ := id r1
    exact ⟨a, e, .inr ⟨⟨vs, hb.sq⟩, c _ H1 xs d1 [(v, .sh (.tup xs))] (items_tup e) I1 q1⟩⟩
  | _ => exact q1.elim
def rngD (lo : Int) (n : Nat) : List D := (List.range n).map fun i : Nat => D.int (lo + i)
theorem rngD_len (lo : Int) (n : Nat) : (rngD lo n).length = n := by unfold rngD; rw [List.length_map, List.length_range]
theorem rngD_at {lo : Int} {n i : Nat} {y : D} (h : (rngD lo n)[i]? = some y) : i < n ∧ y = .int (lo + i) := by
  unfold rngD at h
  rw [List.getElem?_map] at h
  by_cases hi : i < n
  · rw [List.getElem?_range hi] at h
    exact ⟨hi, (Option.some.inj h).symm⟩
  · rw [List.getElem?_eq_none (by simpa using hi)] at h
    cases h
def srcR1 (t : DTA) (d : DS) (Q : List D → DS → Prop) : Prop := t d fun xs d1 => match xs with
  | [.int j] => (-(2 ^ 62) ≤ j ∧ j < 2 ^ 62) ∧ Q (rngD 0 j.toNat) d1
  | _ => False
def srcR2 (t : DTA) (d : DS) (Q : List D → DS → Prop) : Prop := t d fun xs d1 => match xs with
  | [.int i, .int j] => (-(2 ^ 62) ≤ i ∧ i < 2 ^ 62 ∧ -(2 ^ 62) ≤ j ∧ j < 2 ^ 62) ∧ Q (rngD i (j - i).toNat) d1
  | _ => False
theorem sr_r1 (hg : Gl X "range") (hm : X.mg "range" = none) (ha : DA tk X [a] t) (hs : starEach [a] X.env = [(false, eval a X.env)] := by rfl) : DSr tk X tg (.Call (.Name "range" p) [a] [] pos) (srcR1 t) := by
  refine pi_imp (pi_range1 hg hm ha hs) ?_
  rintro σ H k ⟨F, pn, d, Q, I, q, c⟩
  refine upA_at I q fun vs H1 xs d1 hl I1 q1 => ?_
  split at q1
  · rename_i j
    obtain ⟨O, T, J⟩ := id I1
    obtain ⟨v, r, rfl, h1, h2⟩ := J.args hl
    obtain rfl : v = .int j := h1
    obtain rfl : r = [] := h2
    exact ⟨j, rfl, q1.1.1, q1.1.2, c _ H1 _ d1 [] items_rng (I1.drop (by simp)) q1.2⟩
  · exact q1.elim
theorem sr_r2 (hg : Gl X "range") (hm : X.mg "range" = none) (ha : DA tk X [a, b] t) (hs : starEach [a, b] X.env = [(false, eval a X.env), (false, eval b X.env)] := by rfl) (hs2 : starEach [b] X.env = [(false, eval b X.env)] := by rfl) : DSr tk X tg (.Call (.Name "range" p) [a, b] [] pos) (srcR2 t) := by
  refine pi_imp (pi_range2 hg hm ha hs hs2) ?_
  rintro σ H k ⟨F, pn, d, Q, I, q, c⟩
  refine upA_at I q fun vs H1 xs d1 hl I1 q1 => ?_
  split at q1
  · rename_i i j
    obtain ⟨O, T, J⟩ := id I1
    obtain ⟨v, r, rfl, h1, w, r', rfl, h2, h3⟩ := J.args hl
    obtain rfl : v = .int i := h1
    obtain rfl : w = .int j := h2
    obtain rfl : r' = [] := h3
    exact ⟨i, j, rfl, q1.1, c _ H1 _ d1 [] items_rng (I1.drop (by simp)) q1.2⟩
  · exact q1.elim
end

/-! ### for, while -/
section
variable {tk : Tk} {X : Cx} {tg iter : Expr} {body : List Stmt} {src : DSr0} {g : DTG} {tb : DTS} {pos : Pos}
def sFor (src : DSr0) (g : DTG) (tb : DTS) (E : DEn) (d : DS) : Prop := src d fun items d1 => ∃ R : Nat → DS → Prop, R 0 d1 ∧
  (∀ (i : Nat) (y : D) (d : DS), items[i]? = some y → R i d → g y d fun d2 => tb { E with nx := R (i + 1), ct := R (i + 1), bk := E.nx } d2) ∧ ∀ d, R items.length d → E.nx d
theorem ds_for (hp : PassesOwn (model X.prog X.w) X.A X.env X.xe) (hc : X.calm = true) (hi : DSr tk X tg iter src) (hg : DG tk X tg g) (hb : DSs tk X body tb)
    (hs : ∀ x, foldedSetIterable iter X.env x = pure x := by intro _; rfl) : DSt tk X (.For tg iter body [] pos) (sFor src g tb) := by
  refine ps_imp (ps_for hp hc hi hg hb hs) ?_
  rintro σ H D ⟨F, pn, d, E, I, q, c⟩
  refine ⟨F, pn, d, _, I, q, fun J H1 items d1 ps ok I1 ⟨R, r0, rs, rd⟩ => ?_⟩
  obtain ⟨G, Y, wk, hG, hY⟩ := ok
  refine for_it wk (fun i σ H => ∃ d, DI tk X.K F (ps ++ pn) σ H d ∧ R i d) ⟨d1, I1, r0⟩ (fun i σ H _ ⟨d, I, _⟩ => hG pn σ H d I) (fun i x σ H H' hi ⟨d, I, r⟩ y => ?_) (fun σ H ⟨d, I, r⟩ => ?_)
  · obtain ⟨z, ez, I2⟩ := hY i H x H' pn σ d hi I y
    refine ⟨F, ps ++ pn, d, z, _, I2, rs i z d ez r, fun σ2 H2 d2 I3 q3 => ⟨F, ps ++ pn, d2, _, I3, q3, ⟨fun σ H d I q => ⟨d, I, q⟩, c.rt, fun σ H d I q => ?_, fun σ H d I q => ⟨d, I, q⟩⟩⟩⟩
    exact c.nx σ H d (I.drop (List.sublist_append_right _ _)) q
  · exact c.nx σ H d (I.drop (List.sublist_append_right _ _)) (rd d r)
def sWhile (c : DTT) (tb : DTS) (E : DEn) (d : DS) : Prop := ∃ W : Nat → DS → Prop, (∃ m, W m d) ∧ ∀ m d, W m d → c d fun b d1 =>
  if b = true then tb { E with nx := fun d' => ∃ m', m' < m ∧ W m' d', ct := fun d' => ∃ m', m' < m ∧ W m' d', bk := E.nx } d1 else E.nx d1
theorem ds_while {ce : Expr} {tc : DTT} (hp : PassesOwn (model X.prog X.w) X.A X.env X.xe) (hc : DT tk X ce tc) (hb : DSs tk X body tb) : DSt tk X (.While ce body [] pos) (sWhile tc tb) := by
  refine ps_imp (ps_while hp hc hb) ?_
  rintro σ H D ⟨F, pn, d, E, I, ⟨W, ⟨m0, w0⟩, turn⟩, c⟩
  refine ⟨fun m σ H => ∃ d, DI tk X.K F pn σ H d ∧ W m d, ⟨m0, d, I, w0⟩, ?_⟩
  rintro m σ H ⟨d, I, w⟩
  refine upT_at I (turn m d w) fun b H1 d1 I1 q1 => ?_
  cases b with
  | true =>
    rw [if_pos rfl] at q1 ⊢
    refine ⟨fun σ' H' => ∃ d', DI tk X.K F pn σ' H' d' ∧ ∃ m', m' < m ∧ W m' d', fun σ' H' ⟨d', I', m', h1, h2⟩ => ⟨m', h1, d', I', h2⟩, F, pn, d1, _, I1, q1, ⟨fun σ H d I q => ⟨d, I, q⟩, c.rt, c.nx, fun σ H d I q => ⟨d, I, q⟩⟩⟩
  | false => exact c.nx σ H1 d1 I1 q1
end

/-! ### lists that a name owns are written -/
section
variable {tk : Tk} {X : Cx} {e : Expr} {es : List Expr} {te ti : DTE} {tf : DTA} {pos apos cpos pos2 : Pos} {i : Nat} {x : Expr}
def isOw (i : Nat) (d : DS) : Bool := match d[i]? with
  | some (some (.ow _)) => true
  | _ => false
theorem isOw_at {K : PySem.W.Frag} {F : FrC} {pn : Pn} {σ : St} {H : Hp} {d : DS} {O : Addr → Prop} {T : Tks} (I : DIx tk K F pn σ H d O T) (h : isOw i d = true) : ∃ a vs, σ[i]? = some (some (.ref a)) ∧ H a = some (.lst vs) := by
  unfold isOw at h
  split at h
  · rename_i xs e
    obtain ⟨v, h1, a, vs, rfl, _, _, _, h2, _⟩ := I.sl _ _ e
    exact ⟨a, vs, h1, h2⟩
  · cases h
theorem DIx.mut {K : PySem.W.Frag} {F : FrC} {pn : Pn} {σ : St} {H : Hp} {d : DS} {O : Addr → Prop} {T : Tks} {xs ys : List D} {a : Addr} {ws : List V} (I : DIx tk K F pn σ H d O T) (e : d[i]? = some (some (.ow xs))) (ha : σ[i]? = some (some (.ref a))) (r : RepL K O T H ys ws) :
    DIx tk K F pn σ (upd H a (.lst ws)) (d.set i (some (.ow ys))) O T := by
  obtain ⟨v, h1, J⟩ := I.lift e
  have ev : v = .ref a := Option.some.inj (Option.some.inj (h1.symm.trans ha))
  have J2 := DIx.land (i := i) (J.mutP ev r) h1
  rw [List.set_set] at J2
  exact J2
theorem ow_at {K : PySem.W.Frag} {F : FrC} {pn : Pn} {σ : St} {H : Hp} {d : DS} {O : Addr → Prop} {T : Tks} {xs : List D} {a : Addr} (I : DIx tk K F pn σ H d O T) (e : d[i]? = some (some (.ow xs))) (ha : σ[i]? = some (some (.ref a))) : ∃ vs, H a = some (.lst vs) ∧ RepL K O T H xs vs := by
  obtain ⟨v, h1, b, vs, eb, _, _, _, h2, h3⟩ := I.sl _ _ e
  have : a = b := V.ref.inj (Option.some.inj (Option.some.inj (ha.symm.trans (h1.trans (by rw [eb])))))
  subst this
  exact ⟨vs, h2, h3⟩
/-- x.append(e) -/
def dApp (i : Nat) (te : DTE) (d : DS) (Q : D → DS → Prop) : Prop := match d[i]? with
  | some (some (.ow _)) => te d fun y d1 => match d1[i]? with
    | some (some (.ow xs)) => xs.length < sizeLine ∧ Q .non (d1.set i (some (.ow (xs ++ [y]))))
    | _ => False
  | _ => False
theorem de_append (hx : PE X x (tVar i)) (he : DE tk X e te) (hbase : attributeBase x "append" X.env (eval x X.env) = eval x X.env := by rfl)
    (hfew : ((backTo cpos (starEach [e] X.env)).all (fun x => !x.1) && (backToKw cpos (keywordEach [] X.env)).all (fun x => x.1.isSome)
      && decide ([e].length + ([] : List Keyword).length + (if ([] : List Keyword).isEmpty then 0 else 1) < 30)) = true := by rfl)
    (hline : (apos.endLine == cpos.line) = true := by rfl) (hs : starEach [e] X.env = (false, eval e X.env) :: starEach [] X.env := by rfl) (hplain : (backTo cpos (starEach [] X.env)).any (·.1) = false := by rfl) :
    DE tk X (.Call (.Attribute x "append" apos) [e] [] cpos) (dApp i te) := by
  refine pe_imp (pe_bm PySem.F.plainAttrs_list PySem.F.slot_list_append PySem.F.type_list_append mt_append hx (pa_cons he pa_nil hs) hbase hfew hline hs hplain) ?_
  rintro σ H k ⟨F, pn, d, Q, ⟨O, T, I⟩, q, c⟩
  unfold dApp at q
  split at q
  case h_2 => exact q.elim
  rename_i xs0 e0
  obtain ⟨a, vs, h1, h2⟩ := isOw_at (i := i) I (by unfold isOw; rw [e0])
  refine ⟨.ref a, h1, .inl ⟨rfl, vs, SqL.of h2⟩, upE_at ⟨O, T, I⟩ q fun v H1 y d1 I1 q1 => ?_⟩
  obtain ⟨O, T, I1⟩ := I1
  have r1 : Rep X.K O T H1 y v := I1.pe (v, .sh y) (by simp)
  split at q1
  · rename_i xs es
    obtain ⟨ws, h3, h4⟩ := ow_at I1 es h1
    refine ⟨a, ws, v, rfl, rfl, h3, by rw [h4.length]; exact q1.1, ?_⟩
    have J := (I1.drop (pn' := pn) (by simp)).mut es h1 (RepL.append (es := [y]) (ws := [v]) h4 ⟨v, [], rfl, r1, rfl⟩)
    exact c .non _ .non _ (DI.add J rfl) q1.2
  · exact q1.elim
/-- x.pop() -/
def dPop0 (i : Nat) (d : DS) (Q : D → DS → Prop) : Prop := match d[i]? with
  | some (some (.ow xs)) => match xs[xs.length - 1]? with
    | some y => Q y (d.set i (some (.ow xs.dropLast)))
    | none => False
  | _ => False
theorem de_pop0 (hx : PE X x (tVar i)) (hbase : attributeBase x "pop" X.env (eval x X.env) = eval x X.env := by rfl) (hline : (apos.endLine == cpos.line) = true := by rfl) : DE tk X (.Call (.Attribute x "pop" apos) [] [] cpos) (dPop0 i) := by
  refine pe_imp (pe_bm0 PySem.F.plainAttrs_list PySem.F.slot_list_pop PySem.F.type_list_pop mt_pop hx hbase hline) ?_
  rintro σ H k ⟨F, pn, d, Q, ⟨O, T, I⟩, q, c⟩
  unfold dPop0 at q
  split at q
  · rename_i xs es
    split at q
    · rename_i y ey
      obtain ⟨a, vs, h1, h2⟩ := isOw_at (i := i) I (by unfold isOw; rw [es])
      obtain ⟨ws, h3, h4⟩ := ow_at I es h1
      have e : vs = ws := by rw [h2] at h3; cases h3; rfl
      subst e
      obtain ⟨u, h5, h6⟩ := h4.at ey
      refine ⟨.ref a, h1, .inl ⟨rfl, vs, SqL.of h2⟩, a, vs, u, rfl, rfl, h2, by rw [h4.length]; exact h5, ?_⟩
      have J := (I.add h6).mut es h1 (RepL.dropLast h4)
      exact c u _ y _ ⟨O, T, J⟩ q
    · exact q.elim
  · exact q.elim
/-- x.pop(e) -/
def dPopAt (i : Nat) (te : DTE) (d : DS) (Q : D → DS → Prop) : Prop := match d[i]? with
  | some (some (.ow _)) => te d fun y d1 => match y, d1[i]? with
    | .int z, some (some (.ow xs)) => ∃ j, 0 ≤ z ∧ z < 2 ^ 63 ∧ z = (j : Nat) ∧ match xs[j]? with
      | some u => Q u (d1.set i (some (.ow (xs.eraseIdx j))))
      | none => False
    | _, _ => False
  | _ => False
theorem de_popAt (hx : PE X x (tVar i)) (he : DE tk X e te) (hbase : attributeBase x "pop" X.env (eval x X.env) = eval x X.env := by rfl)
    (hfew : ((backTo cpos (starEach [e] X.env)).all (fun x => !x.1) && (backToKw cpos (keywordEach [] X.env)).all (fun x => x.1.isSome)
      && decide ([e].length + ([] : List Keyword).length + (if ([] : List Keyword).isEmpty then 0 else 1) < 30)) = true := by rfl)
    (hline : (apos.endLine == cpos.line) = true := by rfl) (hs : starEach [e] X.env = (false, eval e X.env) :: starEach [] X.env := by rfl) (hplain : (backTo cpos (starEach [] X.env)).any (·.1) = false := by rfl) :
    DE tk X (.Call (.Attribute x "pop" apos) [e] [] cpos) (dPopAt i te) := by
  refine pe_imp (pe_bm PySem.F.plainAttrs_list PySem.F.slot_list_pop PySem.F.type_list_pop mt_popAt hx (pa_cons he pa_nil hs) hbase hfew hline hs hplain) ?_
  rintro σ H k ⟨F, pn, d, Q, ⟨O, T, I⟩, q, c⟩
  unfold dPopAt at q
  split at q
  case h_2 => exact q.elim
  rename_i xs0 e0
  obtain ⟨a, vs, h1, h2⟩ := isOw_at (i := i) I (by unfold isOw; rw [e0])
  refine ⟨.ref a, h1, .inl ⟨rfl, vs, SqL.of h2⟩, upE_at ⟨O, T, I⟩ q fun v H1 y d1 I1 q1 => ?_⟩
  obtain ⟨O, T, I1⟩ := I1
  have r1 : Rep X.K O T H1 y v := I1.pe (v, .sh y) (by simp)
  split at q1
  · rename_i y' o' z xs es
    obtain ⟨j, z0, z1, rfl, q1⟩ := q1
    split at q1
    · rename_i u eu
      obtain ⟨ws, h3, h4⟩ := ow_at I1 es h1
      obtain ⟨w, h5, h6⟩ := h4.at eu
      have hj : j < ws.length := (List.getElem?_eq_some_iff.mp h5).1
      have hix : ixN ws.length (j : Int) = some j := by unfold ixN; rw [if_pos (by omega), if_pos (by omega)]; rfl
      obtain rfl : v = .int (j : Int) := r1
      refine ⟨a, ws, (j : Int), j, w, rfl, rfl, h3, by omega, z1, (ixN_seq hix).1, h5, ?_⟩
      have J := ((I1.drop (pn' := pn) (by simp)).add h6).mut es h1 (RepL.eraseIdx j h4)
      exact c w _ u _ ⟨O, T, J⟩ q1
    · exact q1.elim
  · exact q1.elim
/-- x[k] = e -/
def sSetIx (i : Nat) (te ti : DTE) (E : DEn) (d : DS) : Prop := te d fun y d1 => match d1[i]? with
  | some (some (.ow _)) => ti d1 fun z d2 => match z, d2[i]? with
    | .int k, some (some (.ow xs)) => match ixN xs.length k with
      | some j => E.nx (d2.set i (some (.ow (xs.set j y))))
      | none => False
    | _, _ => False
  | _ => False
theorem ds_setIx {iE : Expr} {p2 : Pos} (hx : PE X x (tVar i)) (he : DE tk X e te) (hi : DE tk X iE ti)
    (h1 : PG X (.Subscript x iE p2) (gSub (tVar i) (upE tk X.K ti) rSetL)) (hs : swapsWithSole [.Subscript x iE p2] e pos.line X.env = pure false := by rfl) (hw : swappedStores [.Subscript x iE p2] e X.env = pure none := by rfl)
    (h2 : (assignEach [.Subscript x iE p2] X.env).map (·.2) = [assign (.Subscript x iE p2) X.env] := by rfl) : DSt tk X (.Assign [.Subscript x iE p2] e pos) (sSetIx i te ti) := by
  refine ps_imp (ps_asg he h1 hs hw h2) ?_
  rintro σ H D ⟨F, pn, d, E, I, q, c⟩
  refine upE_at I q fun v H1 y d1 I1 q1 => ?_
  obtain ⟨O, T, J1⟩ := id I1
  split at q1
  case h_2 => exact q1.elim
  rename_i xs0 e0
  obtain ⟨a, vs, h3, h4⟩ := isOw_at (i := i) J1 (by unfold isOw; rw [e0])
  refine ⟨.ref a, h3, upE_at I1 q1 fun w H2 z d2 I2 q2 => ?_⟩
  obtain ⟨O, T, I2⟩ := I2
  have r1 : Rep X.K O T H2 z w := I2.pe (w, .sh z) (by simp)
  have r2 : Rep X.K O T H2 y v := I2.pe (v, .sh y) (by simp)
  split at q2
  · rename_i z' o' k' xs es
    split at q2
    · rename_i j ej
      obtain ⟨ws, h5, h6⟩ := ow_at I2 es h3
      refine ⟨a, ws, k', j, rfl, r1, h5, by rw [h6.length]; exact ej, ?_⟩
      exact c.nx _ _ _ ⟨O, T, (I2.drop (pn' := pn) (by simp)).mut es h3 (RepL.set j r2 h6)⟩ q2
    · exact q2.elim
  · exact q2.elim
end

/-! ### two or three names at once -/
section
variable {tk : Tk} {X : Cx} {e : Expr} {es : List Expr} {te : DTE} {tf : DTA} {pos : Pos}
abbrev DTV := DS → (List SV → DS → Prop) → Prop
def upV (tk : Tk) (K : PySem.W.Frag) (t : DTV) : TA := fun σ H k => ∃ F pn d Q, DI tk K F pn σ H d ∧ t d Q ∧ ∀ vs H' ss d', vs.length = ss.length → DI tk K F (vs.zip ss ++ pn) σ H' d' → Q ss d' → k vs H'
abbrev DV (tk : Tk) (X : Cx) (es : List Expr) (t : DTV) : Prop := PA X es (upV tk X.K t)
def vNil (d : DS) (Q : List SV → DS → Prop) : Prop := Q [] d
def vCons (te : DTE) (t : DTV) (d : DS) (Q : List SV → DS → Prop) : Prop := te d fun x d1 => t d1 fun ss d2 => Q (.sh x :: ss) d2
def vConsF (tf : DTA) (t : DTV) (d : DS) (Q : List SV → DS → Prop) : Prop := tf d fun xs d1 => t d1 fun ss d2 => Q (.ow xs :: ss) d2
theorem dv_nil : DV tk X [] vNil := by
  refine pa_imp pa_nil ?_
  rintro σ H k ⟨F, pn, d, Q, I, q, c⟩
  exact c [] H [] d rfl I q
theorem dv_cons {t : DTV} (ha : DE tk X e te) (hr : DV tk X es t) (hs : starEach (e :: es) X.env = (false, eval e X.env) :: starEach es X.env := by rfl) : DV tk X (e :: es) (vCons te t) := by
  refine pa_imp (pa_cons ha hr hs) ?_
  rintro σ H k ⟨F, pn, d, Q, I, q, c⟩
  refine upE_at I q fun v H1 x d1 I1 q1 => ⟨F, _, d1, _, I1, q1, fun vs H2 ss d2 hl I2 q2 => ?_⟩
  exact c (v :: vs) H2 (.sh x :: ss) d2 (by simp [hl]) (I2.perm List.perm_middle) q2
theorem dv_consF {t : DTV} (ha : DF tk X e tf) (hr : DV tk X es t) (hs : starEach (e :: es) X.env = (false, eval e X.env) :: starEach es X.env := by rfl) : DV tk X (e :: es) (vConsF tf t) := by
  refine pa_imp (pa_cons ha hr hs) ?_
  rintro σ H k ⟨F, pn, d, Q, I, q, c⟩
  refine upF_at I q fun v H1 x d1 I1 q1 => ⟨F, _, d1, _, I1, q1, fun vs H2 ss d2 hl I2 q2 => ?_⟩
  exact c (v :: vs) H2 (.ow x :: ss) d2 (by simp [hl]) (I2.perm List.perm_middle) q2
def sPar (i j : Nat) (t : DTV) (E : DEn) (d : DS) : Prop := t d fun ss d1 => match ss with
  | [s, u] => E.nx ((d1.set i (some s)).set j (some u))
  | _ => False
theorem ds_par {i j : Nat} {x y : Str} {a b : Expr} {t : DTV} {px py pt : Pos} {kt k2 pt2} (hc : X.calm = true) (hN : X.N.Nodup) (hi : X.N[i]? = some x) (hj : X.N[j]? = some y) (hij : i ≠ j)
    (hx : X.env.scope.names.lookup x = some .local) (hy : X.env.scope.names.lookup y = some .local) (ha : DV tk X [a, b] t)
    (hw : swappedStores [.Tuple [.Name x px, .Name y py] kt pt] (.Tuple [a, b] k2 pt2) X.env = pure (some [x, y]))
    (hs : swapsWithSole [.Tuple [.Name x px, .Name y py] kt pt] (.Tuple [a, b] k2 pt2) pos.line X.env = pure false := by rfl) :
    DSt tk X (.Assign [.Tuple [.Name x px, .Name y py] kt pt] (.Tuple [a, b] k2 pt2) pos) (sPar i j t) := by
  refine ps_imp (ps_par hc hN hi hj hij hx hy ha hw hs) ?_
  rintro σ H D ⟨F, pn, d, E, I, q, c⟩
  refine ⟨F, pn, d, _, I, q, fun vs H1 ss d1 hl I1 q1 => ?_⟩
  split at q1
  · rename_i s u
    match vs, hl with
    | [v, w], _ =>
      obtain ⟨O, T, J⟩ := I1
      exact ⟨v, w, rfl, c.nx _ H1 _ ⟨O, T, DIx.toSlot (DIx.toSlot J)⟩ q1⟩
  · exact q1.elim
def sPar3 (i j l : Nat) (t : DTV) (E : DEn) (d : DS) : Prop := t d fun ss d1 => match ss with
  | [s, u, w] => E.nx (((d1.set i (some s)).set j (some u)).set l (some w))
  | _ => False
end
end DL
set_option Elab.async false
set_option linter.all false
set_option maxRecDepth 100000
set_option maxHeartbeats 4000000
/-! DL6: comprehensions, objects that are made, a def by its body. -/
namespace DL
open PySem L2

section
variable {tk : Tk} {X : Cx} {pos : Pos}
theorem ds_par3 {i j l : Nat} {x y z : Str} {a b c : Expr} {t : DTV} {px py pz pt : Pos} {kt k2 pt2} (hc : X.calm = true) (hN : X.N.Nodup) (hi : X.N[i]? = some x) (hj : X.N[j]? = some y) (hl : X.N[l]? = some z) (hij : i ≠ j) (hil : i ≠ l) (hjl : j ≠ l)
    (hx : X.env.scope.names.lookup x = some .local) (hy : X.env.scope.names.lookup y = some .local) (hz : X.env.scope.names.lookup z = some .local) (ha : DV tk X [a, b, c] t)
    (hw : swappedStores [.Tuple [.Name x px, .Name y py, .Name z pz] kt pt] (.Tuple [a, b, c] k2 pt2) X.env = pure (some [x, y, z]))
    (hs : swapsWithSole [.Tuple [.Name x px, .Name y py, .Name z pz] kt pt] (.Tuple [a, b, c] k2 pt2) pos.line X.env = pure false := by rfl) :
    DSt tk X (.Assign [.Tuple [.Name x px, .Name y py, .Name z pz] kt pt] (.Tuple [a, b, c] k2 pt2) pos) (sPar3 i j l t) := by
  refine ps_imp (ps_par3 hc hN hi hj hl hij hil hjl hx hy hz ha hw hs) ?_
  rintro σ H D ⟨F, pn, d, E, I, q, c⟩
  refine ⟨F, pn, d, _, I, q, fun vs H1 ss d1 hl I1 q1 => ?_⟩
  split at q1
  · rename_i s u w
    match vs, hl with
    | [v1, v2, v3], _ =>
      obtain ⟨O, T, J⟩ := I1
      exact ⟨v1, v2, v3, rfl, c.nx _ H1 _ ⟨O, T, DIx.toSlot (DIx.toSlot (DIx.toSlot J))⟩ q1⟩
  · exact q1.elim
end

/-! ### comprehensions -/
section
variable {tk : Tk} {K : PySem.W.Frag} {F : FrC} {pn : Pn} {σ σ' : St} {H : Hp} {d : DS} {O : Addr → Prop} {T : Tks}
def wipeD : List Nat → DS → DS
  | [], d => d
  | v :: vs, d => (wipeD vs d).set v none
theorem wipeD_length (d : DS) : ∀ vs, (wipeD vs d).length = d.length
  | [] => rfl
  | v :: vs => by unfold wipeD; rw [List.length_set, wipeD_length d vs]
theorem wipeD_some {i : Nat} {s : SV} : ∀ {vs : List Nat}, (wipeD vs d)[i]? = some (some s) → d[i]? = some (some s) ∧ i ∉ vs
  | [], h => ⟨h, by simp⟩
  | v :: vs, h => by
    unfold wipeD at h
    by_cases hi : v = i
    · subst hi
      by_cases hv : v < (wipeD vs d).length
      · rw [List.getElem?_set_self hv] at h; cases h
      · rw [List.getElem?_eq_none (by simpa using hv)] at h; cases h
    · rw [List.getElem?_set_ne hi] at h
      obtain ⟨h1, h2⟩ := wipeD_some h
      exact ⟨h1, by simp only [List.mem_cons, not_or]; exact ⟨fun e => hi e.symm, h2⟩⟩
/-- names that nothing is known of may change -/
theorem DIx.sig (I : DIx tk K F pn σ H d O T) (hl : σ'.length = σ.length) (h : ∀ (j : Nat) (s : SV), d[j]? = some (some s) → σ'[j]? = σ[j]?) : DIx tk K F pn σ' H d O T :=
  { I with
    len := I.len.trans hl.symm
    sl := fun i s e => by rw [h i s e]; exact I.sl i s e
    ss := fun i j s t v n e w e' w' q => by rw [h j t e']; rw [h i s e] at q; exact I.ss i j s t v n e w e' w' q
    sp := fun i s v e w q => by rw [h i s e] at q; exact I.sp i s v e w q }
theorem DIx.forgets (I : DIx tk K F pn σ H d O T) : ∀ vs, DIx tk K F pn σ H (wipeD vs d) O T
  | [] => I
  | v :: vs => (DIx.forgets I vs).forget v
theorem wipe_at {i : Nat} : ∀ {vs : List Nat}, i ∉ vs → (wipe σ vs)[i]? = σ[i]?
  | [], _ => rfl
  | v :: vs, h => by
    simp only [List.mem_cons, not_or] at h
    unfold wipe
    rw [List.getElem?_set_ne (fun e => h.1 e.symm)]
    exact wipe_at h.2
theorem wipe_in {i : Nat} : ∀ {vs : List Nat}, i ∈ vs → i < σ.length → (wipe σ vs)[i]? = some none
  | v :: vs, h, hl => by
    unfold wipe
    by_cases e : v = i
    · subst e
      rw [List.getElem?_set_self (by rw [wipe_length]; exact hl)]
    · rw [List.getElem?_set_ne e]
      rcases List.mem_cons.mp h with z | z
      · exact absurd z.symm e
      · exact wipe_in z hl
theorem wipe_set {vs : List Nat} {i : Nat} {x : Option V} (hi : i ∈ vs) : wipe ((wipe σ vs).set i x) vs = wipe σ vs := by
  apply List.ext_getElem?
  intro j
  by_cases hj : j ∈ vs
  · by_cases hl : j < σ.length
    · rw [wipe_in hj (by rw [List.length_set, wipe_length]; exact hl), wipe_in hj hl]
    · rw [List.getElem?_eq_none (by rw [wipe_length, List.length_set, wipe_length]; omega), List.getElem?_eq_none (by rw [wipe_length]; omega)]
  · rw [wipe_at hj, List.getElem?_set_ne (fun e => hj (by rw [← e]; exact hi)), wipe_at hj]
/-- the names of a comprehension are laid by -/
theorem DI.stash (I : DI tk K F pn σ H d) : ∀ vs, ∃ ps, DI tk K F (ps ++ pn) σ H (wipeD vs d) ∧ ∀ pn2 H', DI tk K F (ps ++ pn2) σ H' (wipeD vs d) → DI tk K F pn2 σ H' d
  | [] => ⟨[], I, fun _ _ J => J⟩
  | v :: vs => by
    obtain ⟨ps, J, back⟩ := DI.stash I vs
    cases e : (wipeD vs d)[v]? with
    | none =>
      have z : wipeD (v :: vs) d = wipeD vs d := by
        show (wipeD vs d).set v none = wipeD vs d
        exact List.set_eq_of_length_le (List.getElem?_eq_none_iff.mp e)
      rw [z]
      exact ⟨ps, J, back⟩
    | some o =>
      have hl : v < (wipeD vs d).length := (List.getElem?_eq_some_iff.mp e).1
      cases o with
      | none =>
        have z : wipeD (v :: vs) d = wipeD vs d := by
          show (wipeD vs d).set v none = wipeD vs d
          apply List.ext_getElem?
          intro j
          by_cases q : v = j
          · subst q; rw [List.getElem?_set_self hl, e]
          · rw [List.getElem?_set_ne q]
        rw [z]
        exact ⟨ps, J, back⟩
      | some s =>
        obtain ⟨O, T, J⟩ := J
        obtain ⟨u, h1, J2⟩ := J.lift e
        refine ⟨(u, s) :: ps, ⟨O, T, J2⟩, fun pn2 H' ⟨O', T', J3⟩ => back pn2 H' ⟨O', T', ?_⟩⟩
        have J4 := DIx.land (i := v) J3 h1
        have z : ((wipeD (v :: vs) d)).set v (some s) = wipeD vs d := by
          show ((wipeD vs d).set v none).set v (some s) = wipeD vs d
          rw [List.set_set]
          apply List.ext_getElem?
          intro j
          by_cases q : v = j
          · subst q; rw [List.getElem?_set_self hl, e]
          · rw [List.getElem?_set_ne q]
        rw [z] at J4
        exact J4
/-- targets of a comprehension: names -/
def gNms : List Nat → TGs
  | [] => gNil
  | i :: is => gCons (gName i) (gNms is)
def setAll (σ : St) : List Nat → List V → St
  | i :: is, v :: vs => setAll (σ.set i (some v)) is vs
  | _, _ => σ
theorem gNms_iff {Q : St → Hp → Prop} : ∀ {is : List Nat} {vs : List V} {σ : St}, vs.length = is.length → Q (setAll σ is vs) H → gNms is vs σ H Q
  | [], [], σ, _, q => ⟨rfl, q⟩
  | i :: is, v :: vs, σ, hl, q => ⟨v, vs, rfl, gNms_iff (is := is) (vs := vs) (by simpa using hl) q⟩
theorem setAll_at {j : Nat} : ∀ {is : List Nat} {vs : List V} {σ : St}, j ∉ is → (setAll σ is vs)[j]? = σ[j]?
  | [], vs, σ, _ => by unfold setAll; rfl
  | i :: is, [], σ, _ => by unfold setAll; rfl
  | i :: is, v :: vs, σ, h => by
    simp only [List.mem_cons, not_or] at h
    show (setAll (σ.set i (some v)) is vs)[j]? = _
    rw [setAll_at h.2, List.getElem?_set_ne (fun e => h.1 e.symm)]
theorem setAll_length : ∀ {is : List Nat} {vs : List V} {σ : St}, (setAll σ is vs).length = σ.length
  | [], vs, σ => by unfold setAll; rfl
  | i :: is, [], σ => by unfold setAll; rfl
  | i :: is, v :: vs, σ => by
    show (setAll (σ.set i (some v)) is vs).length = _
    rw [setAll_length, List.length_set]
theorem wipe_setAll {is vs : List Nat} {ws : List V} (h : ∀ i ∈ is, i ∈ vs) : wipe (setAll (wipe σ vs) is ws) vs = wipe σ vs := by
  apply List.ext_getElem?
  intro j
  by_cases hj : j ∈ vs
  · by_cases hl : j < σ.length
    · rw [wipe_in hj (by rw [setAll_length, wipe_length]; exact hl), wipe_in hj hl]
    · rw [List.getElem?_eq_none (by rw [wipe_length, setAll_length, wipe_length]; omega), List.getElem?_eq_none (by rw [wipe_length]; omega)]
  · rw [wipe_at hj, setAll_at (fun z => hj (h j z))]
def setAllD (d : DS) : List Nat → List D → DS
  | i :: is, v :: vs => setAllD (d.set i (some (.sh v))) is vs
  | _, _ => d
theorem DIx.setAll : ∀ {is : List Nat} {ws : List V} {xs : List D} {σ : St} {d : DS}, ws.length = xs.length → DIx tk K F (pz ws xs ++ pn) σ H d O T → DIx tk K F pn (setAll σ is ws) H (setAllD d is xs) O T
  | [], ws, xs, σ, d, _, I => by unfold DL.setAll setAllD; exact I.less
  | i :: is, [], [], σ, d, _, I => I
  | i :: is, w :: ws, x :: xs, σ, d, hl, I => DIx.setAll (is := is) (ws := ws) (xs := xs) (by simpa using hl) (DIx.toSlot I)
/-- the tests of a comprehension -/
abbrev DTs (tk : Tk) (X : Cx) (ifs : List Expr) (t : DTT) : Prop := PTs X ifs (upT tk X.K t)
theorem pts_imp {X : Cx} {ifs : List Expr} {t t' : TT} (h : PTs X ifs t) (w : ∀ σ H k, t' σ H k → t σ H k) : PTs X ifs t' := ⟨fun pins s σ H Q I q => h.run pins s σ H Q I (w σ H Q q)⟩
def dYes (d : DS) (Q : Bool → DS → Prop) : Prop := Q true d
theorem dts_nil {X : Cx} : DTs tk X [] dYes := by
  refine pts_imp pts_nil ?_
  rintro σ H k ⟨F, pn, d, Q, I, q, c⟩
  exact c true H d I q
theorem dts_one {X : Cx} {c : Expr} {t : DTT} (h : DT tk X c t) : DTs tk X [c] t := pts_one h
/-- what a turn sets: the names' data out of the item -/
def cNm (i : Nat) (y : D) (d : DS) (R : DS → Prop) : Prop := R (d.set i (some (.sh y)))
def cTp (is : List Nat) (y : D) (d : DS) (R : DS → Prop) : Prop := match y with
  | .tup xs => xs.length = is.length ∧ R (setAllD d is xs)
  | _ => False
/-- one turn of a comprehension -/
def lcTurn (tt : DTT) (te : DTE) (d0 : DS) (vs : List Nat) (acc : List D) (R : List D → Prop) (d2 : DS) : Prop := tt d2 fun b d3 =>
  if b = true then te d3 fun z d4 => wipeD vs d4 = d0 ∧ acc.length < sizeLine ∧ R (acc ++ [z]) else wipeD vs d3 = d0 ∧ R acc
def dLc (src : DSr0) (g : D → DS → (DS → Prop) → Prop) (tt : DTT) (te : DTE) (vs : List Nat) (d : DS) (Q : List D → DS → Prop) : Prop := src d fun items d1 => ∃ R : Nat → List D → Prop, R 0 [] ∧
  (∀ (i : Nat) (y : D) (acc : List D), items[i]? = some y → R i acc → g y (wipeD vs d1) (lcTurn tt te (wipeD vs d1) vs acc (R (i + 1)))) ∧ ∀ acc, R items.length acc → Q acc d1
/-- how the target is set, in both layers -/
def GOk (tk : Tk) (K : PySem.W.Frag) (vs : List Nat) (graw : TG) (g : D → DS → (DS → Prop) → Prop) : Prop :=
  ∀ (F : FrC) (pn : Pn) (σ : St) (H : Hp) (d : DS) (x : V) (y : D) (R : DS → Prop) (k : St → Hp → Prop), DI tk K F ((x, .sh y) :: pn) (wipe σ vs) H d → g y d R →
    (∀ σ2 d2, σ2.length = σ.length → wipe σ2 vs = wipe σ vs → DI tk K F pn σ2 H d2 → R d2 → k σ2 H) → graw x (wipe σ vs) H k
theorem gok_nm {vs : List Nat} {i : Nat} (hi : i ∈ vs) : GOk tk K vs (gName i) (cNm i) := by
  rintro F pn σ H d x y R k ⟨O, T, I⟩ q c
  exact c _ _ (by rw [List.length_set, wipe_length]) (wipe_set hi) ⟨O, T, I.toSlot⟩ q
theorem gok_tp {vs is : List Nat} (hi : ∀ i ∈ is, i ∈ vs) : GOk tk K vs (gTup K is.length (gNms is)) (cTp is) := by
  rintro F pn σ H d x y R k ⟨O, T, I⟩ q c
  unfold cTp at q
  split at q
  · rename_i xs
    have r1 : Rep K O T H (.tup xs) x := I.pe (x, .sh (.tup xs)) (by simp)
    obtain ⟨a, ws, rfl, ha, r⟩ := r1
    refine ⟨a, ws, rfl, ha.sq, by rw [r.length]; exact q.1, gNms_iff (by rw [r.length]; exact q.1) ?_⟩
    exact c _ _ (by rw [setAll_length, wipe_length]) (wipe_setAll hi) ⟨O, T, DIx.setAll r.length (pz_rep (I.drop (by simp)) r)⟩ q.2
  · exact q.elim
theorem lc_D {J0 : True} {wi : TI} {src : DSr0} {graw : TG} {g : D → DS → (DS → Prop) → Prop} {tt : DTT} {te : DTE} {vs : List Nat} (hwi : wi = upI tk K src) (hG : GOk tk K vs graw g) : ∀ σ H k, upF tk K (dLc src g tt te vs) σ H k → tLc wi graw (upT tk K tt) (upE tk K te) vs σ H k := by
  subst hwi
  rintro σ H k ⟨F, pn, d, Q, I, q, c⟩
  refine ⟨F, pn, d, _, I, q, fun J H1 items d1 ps ok I1 ⟨R, r0, rs, rd⟩ D hD => ?_⟩
  obtain ⟨G, Y, wk, hg, hY⟩ := ok
  obtain ⟨st, I2, back⟩ := I1.stash vs
  have per : ∀ {p : V × SV}, List.Perm (p :: (st ++ (ps ++ pn))) (ps ++ (p :: (st ++ pn))) := fun {p} => by
    refine List.Perm.trans ?_ List.perm_middle.symm
    refine List.Perm.cons p ?_
    rw [← List.append_assoc, ← List.append_assoc]
    exact List.Perm.append_right pn List.perm_append_comm
  obtain ⟨O2, T2, I2⟩ := I2
  have I3 : DI tk K F ((.ref D, .ow []) :: (st ++ (ps ++ pn))) σ (upd H1 D (.lst [])) (wipeD vs d1) := DI.newO (vs := []) (xs := []) I2 hD rfl
  refine lc_it wk (fun i H => ∃ acc, DI tk K F (ps ++ ((.ref D, .ow acc) :: (st ++ pn))) σ H (wipeD vs d1) ∧ R i acc) ⟨[], I3.perm per, r0⟩ (fun i H _ ⟨acc, I, _⟩ => hg _ σ H _ I) (fun i x H H' hi ⟨acc, I, r⟩ y => ?_) (fun H ⟨acc, I, r⟩ => ?_)
  · obtain ⟨z, ez, I4⟩ := hY i H x H' _ σ _ hi I y
    have I5 : DI tk K F ((x, .sh z) :: (ps ++ ((.ref D, .ow acc) :: (st ++ pn)))) (wipe σ vs) H' (wipeD vs d1) := by
      obtain ⟨O, T, I4⟩ := I4
      exact ⟨O, T, I4.sig (wipe_length _ _) fun j s e => wipe_at (wipeD_some e).2⟩
    refine hG F _ σ H' _ x z _ _ I5 (rs i z acc ez r) fun σ2 d2 hl hw I6 q6 => ⟨hw, upT_at I6 q6 fun b H3 d3 I7 q7 => ?_⟩
    have restore : ∀ {pn' : Pn} {H : Hp} {d : DS}, DI tk K F pn' σ2 H d → wipeD vs d = wipeD vs d1 → DI tk K F pn' σ H (wipeD vs d1) := fun {pn' H d} I e => by
      obtain ⟨O, T, I⟩ := I
      have J := I.forgets vs
      rw [e] at J
      refine ⟨O, T, J.sig hl.symm fun j s e => ?_⟩
      have nj := (wipeD_some e).2
      rw [← wipe_at (σ := σ) nj, ← hw, wipe_at nj]
    cases b with
    | true =>
      rw [if_pos rfl] at q7 ⊢
      refine upE_at I7 q7 fun v H4 y d4 I8 q8 => ?_
      have I9 : DI tk K F ((.ref D, .ow acc) :: (v, .sh y) :: (st ++ (ps ++ pn))) σ2 H4 d4 := by
        refine I8.perm ?_
        refine List.Perm.trans (List.Perm.cons _ per.symm) ?_
        exact List.Perm.swap _ _ _
      obtain ⟨O, T, I9⟩ := I9
      obtain ⟨a, ws, ea, _, _, _, h1, h2⟩ := I9.pe (.ref D, .ow acc) (by simp)
      cases ea
      have ry : Rep K O T H4 y v := I9.pe (v, .sh y) (by simp)
      have J := I9.mutP (ys := acc ++ [y]) rfl (RepL.append (es := [y]) (ws := [v]) h2 ⟨v, [], rfl, ry, rfl⟩)
      refine ⟨ws, h1, by rw [h2.length]; exact q8.2.1, acc ++ [y], ?_, q8.2.2⟩
      refine DI.perm (restore ⟨O, T, J.drop (pn' := (.ref D, .ow (acc ++ [y])) :: (st ++ (ps ++ pn))) ?_⟩ q8.1) per
      exact List.Sublist.cons_cons _ (List.sublist_cons_self _ _)
    | false =>
      exact ⟨acc, restore I7 q7.1, q7.2⟩
  · refine c (.ref D) H acc d1 ?_ (rd acc r)
    have J := I.perm per.symm
    refine DI.drop (pn := (.ref D, .ow acc) :: (ps ++ pn)) (back _ _ (J.perm ?_)) ?_
    · exact List.perm_middle.symm
    · exact List.Sublist.cons_cons _ (List.sublist_append_right _ _)
end
section
variable {tk : Tk} {X : Cx} {elt tg iter : Expr} {ifs : List Expr} {scope : Scope} {own : List (Str × Nat)} {pos spos py : Pos} {src : DSr0} {graw : TG} {g : D → DS → (DS → Prop) → Prop} {tt : DTT} {te : DTE} {i : Nat} {y : Str}
theorem df_lc {vs : List Nat} (hvs : own.map (·.2) = vs) (hc : X.calm = true) (hN : X.N.Nodup) (hi : DSr tk X tg iter src) (ok : BlkOk X.N X.env.scope scope own) (hG : GOk tk X.K (own.map (·.2)) graw g)
    (hg : ∀ (s : Shared) (H : Hp) (C : Addr) (cl : List (Str × Addr)) (fp : List Addr), PG (X.blk s H scope (compEnvC scope cl C X.env) fp) tg graw) (ht : ∀ (s : Shared) (H : Hp) (C : Addr) (cl : List (Str × Addr)) (fp : List Addr), DTs tk (X.blk s H scope (compEnvC scope cl C X.env) fp) ifs tt)
    (he : ∀ (s : Shared) (H : Hp) (C : Addr) (cl : List (Str × Addr)) (fp : List Addr), DE tk (X.blk s H scope (compEnvC scope cl C X.env) fp) elt te) (hs : ∀ x, foldedSetIterable iter X.env x = pure x := by intro _; rfl) :
    DF tk X (.ListComp elt [⟨tg, iter, ifs, 0⟩] scope pos) (dLc src g tt te vs) := by
  subst hvs
  exact pe_imp (pe_lc hc hN hi ok hg ht he hs) (lc_D (J0 := trivial) rfl hG)
theorem ds_setLc {vs : List Nat} (hvs : own.map (·.2) = vs) (hc : X.calm = true) (hN : X.N.Nodup) (hy : X.N[i]? = some y) (hyl : X.env.scope.names.lookup y = some .local)
    (hsw : swapsWith (.ListComp elt [⟨tg, iter, ifs, 0⟩] scope pos) (some (.Name y py)) spos.line X.env = pure true) (hi : DSr tk X tg iter src) (ok : BlkOk X.N X.env.scope scope own) (hG : GOk tk X.K (own.map (·.2)) graw g)
    (hg : ∀ (s : Shared) (H : Hp) (C : Addr) (cl : List (Str × Addr)) (fp : List Addr), PG (X.blk s H scope (compEnvC scope cl C X.env) fp) tg graw) (ht : ∀ (s : Shared) (H : Hp) (C : Addr) (cl : List (Str × Addr)) (fp : List Addr), DTs tk (X.blk s H scope (compEnvC scope cl C X.env) fp) ifs tt)
    (he : ∀ (s : Shared) (H : Hp) (C : Addr) (cl : List (Str × Addr)) (fp : List Addr), DE tk (X.blk s H scope (compEnvC scope cl C X.env) fp) elt te) (hs : ∀ x, foldedSetIterable iter X.env x = pure x := by intro _; rfl) :
    DSt tk X (.Assign [.Name y py] (.ListComp elt [⟨tg, iter, ifs, 0⟩] scope pos) spos) (sSetF i (dLc src g tt te vs)) := by
  subst hvs
  refine ps_imp (ps_setLc (tt := upT tk X.K tt) (te := upE tk X.K te) hc hN hy hyl hsw hi ok hg ht he hs) ?_
  rintro σ H D ⟨F, pn, d, E, I, q, c⟩
  refine lc_D (J0 := trivial) rfl hG σ H _ (upF_at I q fun v H1 xs d1 I1 q1 => ?_)
  obtain ⟨O, T, J⟩ := I1
  exact c.nx _ H1 _ ⟨O, T, J.toSlot⟩ q1
end

/-! ### a def by its body -/
def startD (N : List Str) (ss : List SV) : DS := ss.map some ++ List.replicate (N.length - ss.length) none
section
variable {tk : Tk} {K : PySem.W.Frag} {F : FrC} {H : Hp} {O : Addr → Prop} {T : Tks}
theorem startD_at {N : List Str} {ss : List SV} {i : Nat} {s : SV} (h : (startD N ss)[i]? = some (some s)) : ss[i]? = some s := by
  unfold startD at h
  by_cases hi : i < ss.length
  · rw [List.getElem?_append_left (by simpa using hi), List.getElem?_map] at h
    cases e : ss[i]? with
    | none => rw [e] at h; cases h
    | some a => rw [e] at h; cases h; rfl
  · rw [List.getElem?_append_right (by simpa using hi), List.getElem?_replicate] at h
    split at h <;> cases h
theorem start_at {N : List Str} {vs : List V} {i : Nat} {v : V} (h : vs[i]? = some v) : (L2.start N vs)[i]? = some (some v) := by
  unfold L2.start
  have hi : i < vs.length := (List.getElem?_eq_some_iff.mp h).1
  rw [List.getElem?_append_left (by simpa using hi), List.getElem?_map, h]
  rfl
theorem DIx.enter {N : List Str} {vs : List V} {ss : List SV} (hl : vs.length = ss.length) (I : DIx tk K F (vs.zip ss) [] H [] O T) : DIx tk K F [] (L2.start N vs) H (startD N ss) O T := by
  have at_ : ∀ {i : Nat} {s : SV}, (startD N ss)[i]? = some (some s) → ∃ v, vs[i]? = some v ∧ (L2.start N vs)[i]? = some (some v) ∧ (vs.zip ss)[i]? = some (v, s) := fun {i s} e => by
    have h1 := startD_at e
    have hi : i < ss.length := (List.getElem?_eq_some_iff.mp h1).1
    have h2 : vs[i]? = some (vs[i]'(by omega)) := List.getElem?_eq_getElem (by omega)
    exact ⟨_, h2, start_at h2, by rw [List.getElem?_zip_eq_some]; exact ⟨h2, h1⟩⟩
  have apart : ∀ {i j : Nat} {v : V} {s t : SV}, i ≠ j → (vs.zip ss)[i]? = some (v, s) → (vs.zip ss)[j]? = some (v, t) → s.own = true → t.own = true → False := fun {i j v s t} n e1 e2 w1 w2 => by
    have P := List.pairwise_iff_getElem.mp I.pp
    obtain ⟨h1, e1⟩ := List.getElem?_eq_some_iff.mp e1
    obtain ⟨h2, e2⟩ := List.getElem?_eq_some_iff.mp e2
    rcases Nat.lt_or_gt_of_ne n with h | h
    · exact P i j h1 h2 h (by rw [e1]; exact w1) (by rw [e2]; exact w2) (by rw [e1, e2])
    · exact P j i h2 h1 h (by rw [e2]; exact w2) (by rw [e1]; exact w1) (by rw [e1, e2])
  refine { I with len := by unfold startD L2.start; simp [hl], sl := fun i s e => ?_, pe := fun p hp => by simp at hp, ss := fun i j s t v n ei wi ej wj ev ev' => ?_, sp := fun i s v e w ev q hq => by simp at hq, pp := List.Pairwise.nil }
  · obtain ⟨v, h1, h2, h3⟩ := at_ e
    exact ⟨v, h2, I.pe (v, s) (List.mem_of_getElem? h3)⟩
  · obtain ⟨v1, _, h2, h3⟩ := at_ ei
    obtain ⟨v2, _, h5, h6⟩ := at_ ej
    rw [h2] at ev; cases ev
    rw [h5] at ev'; cases ev'
    exact apart n h3 h6 wi wj
theorem base_DI (hd : ∀ a, O a → H a ≠ none) (ht : ∀ p ∈ T, O p.1 ∧ O p.2 ∧ tk.ok H p.1 p.2) : DIx tk K ⟨H, O, T⟩ [] [] H [] O T where
  len := rfl
  ext := fun a o e _ => e
  keep := fun a e => e
  up := fun a e => e
  fdom := hd
  dom := hd
  new := fun a e => .inl e
  sub := fun p hp => hp
  tnew := fun p hp => .inl hp
  tok := ht
  sl := fun i s e => by simp at e
  pe := fun p hp => by simp at hp
  ss := fun i j s t v n e => by simp at e
  sp := fun i s v e => by simp at e
  pp := List.Pairwise.nil
theorem pz_zip : ∀ {vs : List V} {xs : List D}, pz vs xs = vs.zip (xs.map SV.sh)
  | [], xs => by unfold pz; simp
  | v :: vs, [] => by unfold pz; simp
  | v :: vs, x :: xs => by
    show (v, SV.sh x) :: pz vs xs = _
    rw [pz_zip]
    rfl
end
section
variable {P : Program} {w : World} {K : PySem.W.Frag} {mg : Str → Option Value} {base : Heap} {tk : Tk}
/-- THE RULE for a def over data (nothing is raised out of it) -/
theorem fn_D {x qual : Str} {params : Arguments} {body : List Stmt} {scope : Scope} {dvs : List V} {kws : List (Str × V)} {f : Addr} {fd : FuncData} {N ps : List Str} {k : Nat} {c : DSp} {t : DTS} (F : FunD K x qual params body scope dvs kws f fd) (S : FnScope N ps scope)
    (hb : ∀ (cdv : Value) (A : Around) (outer : List Env) (s : Shared) (H : Hp) (E : XK), Room k (A.deeper (PyProof.Rows.envOfC qual scope s.heap.objs.size f cdv)) → DSs tk (cxOf CX0 P w K mg base N qual scope f cdv A outer s H E).nox body t)
    (hc : ∀ xs Q, xs.length = ps.length → c xs Q → t ⟨fun _ => Q .non, Q, fun _ => False, fun _ => False⟩ (startD N (xs.map SV.sh))) : FnOk P w K mg base CX0 (k + 1) f fd ps (spD tk K ps.length c) := by
  refine F.ok S (fun vs H Q E h => h.1) fun cdv A outer s H vs Q E hr h => ?_
  obtain ⟨hl, O, T, xs, hd, ht, rl, Qd, q, ret⟩ := h
  have I0 : DIx tk K ⟨H, O, T⟩ (vs.zip (xs.map SV.sh)) [] H [] O T := by
    have J := pz_rep (base_DI (K := K) hd ht) rl
    rw [List.append_nil, pz_zip] at J
    exact J
  have I := DIx.enter (N := N) (by rw [List.length_map, rl.length]) I0
  refine ⟨_, (hb cdv A outer s H E hr).nox, ⟨H, O, T⟩, [], _, ⟨fun _ => Qd .non, Qd, fun _ => False, fun _ => False⟩, ⟨O, T, I⟩, hc xs Qd (by rw [← rl.length]; exact hl) q, ⟨fun σ H' d J q => ?_, fun v H' x r q => ret x v H' q r, fun σ H d J q => q.elim, fun σ H d J q => q.elim⟩⟩
  obtain ⟨O', T', J⟩ := J
  exact ret .non .non H' q ⟨_, σ, d, O', T', J.add rfl⟩
end
end DL
set_option Elab.async false
set_option linter.all false
set_option maxRecDepth 100000
set_option maxHeartbeats 4000000
/-! DL7: enumerate of a tuple or a list, objects that are made. -/
namespace DL
open PySem L2 PyProof.Rows

/-! ### enumerate -/
theorem meetsEnumB {v : Value} {o : Obj} {G : Heap → Prop} (B : Begins v o G) :
    Meets (Builtin.«enumerate.__new__» ⟨[.type "enumerate", v], []⟩) (fun _ R s => G s.heap ∧
      R (.ok (.ret (.ref (s.heap.push o).objs.size))) { s with heap := (s.heap.push o).push { cls := .type "enumerate", data := .fields #[.none, .bool false, .ref s.heap.objs.size, rawInt 0, .none, .none] } }) :=
  .of_wp fun prog w A R s h => by
    obtain ⟨hp, g, d, tk, os⟩ := s
    obtain ⟨hg, h⟩ := h
    have hsub := sub_enumerate
    have it1 : ∀ {A' : Around} {E : Value → Shared → Prop} {Q : Value → Shared → Prop}, Q (.ref hp.objs.size) ⟨hp.push o, g, d, tk, os⟩ → wpAny (model prog w) A' (pyIter v) Q E ⟨hp, g, d, tk, os⟩ := fun q => B.iter prog w _ _ ⟨hp, g, d, tk, os⟩ _ hg q
    wp_walk using it1
    refine wpAny_stack_any fun st => wpAny_pure ?_
    split
    · rename_i c _ _ _ _ _
      cases (c == Value.type "enumerate") <;> (wp_walk using it1; exact ⟨_, rfl, h⟩)
    · wp_walk using it1
      exact ⟨_, rfl, h⟩
theorem enumB {prog : Program} {w : World} {A : Around} {E : Value → Shared → Prop} {s : Shared} {v : Value} {o : Obj} {G : Heap → Prop} {Q : Value → Shared → Prop} (B : Begins v o G) (hg : G s.heap)
    (h : ∀ h', IsEnum h' (s.heap.objs.size + 1) s.heap.objs.size 0 .none → h'.get? s.heap.objs.size = some o → (∀ b u, s.heap.get? b = some u → h'.get? b = some u) → Q (.ref (s.heap.objs.size + 1)) { s with heap := h' }) :
    wpAny (model prog w) A (call (.type "enumerate") [v]) Q E s := by
  refine callType_new F.called_enumerate (by decide) (F.typeCall_enumerate_1 _) (F.newCall_enumerate_1 _) (fun obj => F.args_object_init_2 obj _) F.entry_enumerate_new (meetsEnumB B) ⟨hg, ?_⟩
  have sz : (s.heap.push o).objs.size = s.heap.objs.size + 1 := Heap.size_push ..
  show _ ∧ _
  rw [sz]
  have e1 := Heap.get?_push_size (s.heap.push o) (o := { cls := .type "enumerate", data := .fields #[.none, .bool false, .ref s.heap.objs.size, rawInt 0, .none, .none] }) rfl
  rw [sz] at e1
  exact ⟨⟨_, e1, rfl⟩, h _ e1 (Heap.get?_push_of_some _ (Heap.get?_push_size _ B.free)) fun b u z => Heap.get?_push_of_some _ (Heap.get?_push_of_some _ z)⟩
/-- enumerate of the tuple at a -/
def IteT (K : PySem.W.Frag) (a : Addr) : It :=
  ⟨fun i H => ∃ (xs : List V) (x : V), SqT K H a xs ∧ xs[i]? = some x, fun i H v H' => ∃ T x, v = .ref T ∧ H T = none ∧ H' = upd H T (.tup [.int (i : Nat), x]) ∧ ∀ xs, SqT K H a xs → xs[i]? = some x, fun i H => ∃ xs : List V, SqT K H a xs ∧ xs.length ≤ i⟩
theorem turn_enumT {P : Program} {w : World} {K : PySem.W.Frag} {elts : List Expr} {kk : Nat} {tpos : Pos} (a e it : Addr) :
    Turn P w K (.Tuple elts kk tpos) (IteT K a) [e, it] e (fun i h => (∃ old, IsEnum h e it ((i : Nat) : Int) old) ∧ h.IsTupleIter it a i ∧ e ≠ it ∧ a ≠ it ∧ a ≠ e) where
  mem := List.mem_cons_self
  obj := fun i h st b hb => by
    obtain ⟨⟨old, he⟩, ⟨o, ho, hc, hd⟩, _⟩ := st
    simp only [List.mem_cons, List.not_mem_nil, or_false] at hb
    rcases hb with rfl | rfl
    · exact ⟨_, he, fun v q => nomatch q⟩
    · exact ⟨o, ho, fun v q => by rw [hd] at q; cases q⟩
  keep := fun i h h' st k => let ⟨⟨old, he⟩, hi, r⟩ := st; ⟨⟨old, k e (by simp) _ he⟩, hi.at fun o q => k it (by simp) o q, r⟩
  item := by
    intro X hP hw hK hc i pins s σ H E I hf st hg
    subst hP hw hK
    obtain ⟨⟨old, he⟩, hit, hne, hai, hae⟩ := st
    obtain ⟨xs, x, hq, hx⟩ := hg
    obtain ⟨its, rv, pt, hz⟩ := I.tuple hq
    obtain ⟨u, hu, ru⟩ := rv.get hx
    have hil : i < its.toArray.size := by
      have := (List.getElem?_eq_some_iff.mp hu).1
      simpa using this
    have hd1 : X.A.in1.handled = none := I.ok.hd hc
    have le : e < s.heap.objs.size := Heap.lt_size he
    have li : it < s.heap.objs.size := by obtain ⟨_, q, _⟩ := hit; exact Heap.lt_size q
    refine wpAny_pyNext_enum_itemD (Draws.tuple (prog := X.prog) (w := X.w) hd1 it a hai its.toArray) he ⟨hit, pt⟩ hil hne (by simp [hne, Ne.symm hae]) fun y h' t hy ho hs' hT hsz hk => ?_
    obtain rfl : y = u := by
      have q : its.toArray[i]? = some u := by simpa using hu
      exact Option.some.inj (hy.symm.trans q)
    refine ⟨_, rfl, wpAny_letOwnedTupleGo_enum (s := { s with heap := h', toks := t + 1 }) ho fun h'' he' sb => ?_⟩
    have hT2 : h''.get? s.heap.objs.size = some { cls := .type "tuple", data := .seq #[.int i t, y] } := (sb.2 _ (Nat.ne_of_gt le)).trans hT
    have new : ObjOk X.prog X.w (upd H s.heap.objs.size (.tup [.int (i : Nat), x])) h'' s.heap.objs.size (.tup [.int (i : Nat), x]) :=
      ⟨by show 2 ≤ sizeLine; decide, _, .cons ⟨_, rfl⟩ (.cons ru .nil), ⟨_, hT2, rfl, _, rfl⟩⟩
    have I1 : Inv X pins σ (upd H s.heap.objs.size (.tup [.int (i : Nat), x])) { s with heap := h'', toks := t + 1 } :=
      I.turnedNew (ch := [e, it]) (fun b ob hb q => by
        simp only [List.mem_cons, List.not_mem_nil, or_false, not_or] at hb
        exact (sb.2 b hb.1).trans (hk b ob hb.1 hb.2 q)) hf (Nat.le_refl _) new
    refine ⟨.ref s.heap.objs.size, _, I1, rfl, ⟨_, x, rfl, I.hok.fresh (Nat.le_refl _), rfl, fun ys hy => by rw [I.tuple_inj hy hq]; exact hx⟩, ⟨⟨y, ?_⟩, hs'.1.at fun o q => (sb.2 it (Ne.symm hne)).trans q, hne, hai, hae⟩, fun b hb => ?_⟩
    · rw [show ((i + 1 : Nat) : Int) = (i : Int) + 1 by omega]
      exact he'
    · have lb : b < s.heap.objs.size := by
        simp only [List.mem_cons, List.not_mem_nil, or_false] at hb
        rcases hb with rfl | rfl
        · exact le
        · exact li
      rw [upd_ne (Nat.ne_of_lt lb)]
      exact (hf b hb).1
  done := by
    intro X hP hw hK hc i pins s σ H E I hf st hg
    subst hP hw hK
    obtain ⟨⟨old, he⟩, hit, hne, hai, hae⟩ := st
    obtain ⟨xs, hq, hx⟩ := hg
    obtain ⟨its, rv, pt, hz⟩ := I.tuple hq
    obtain ⟨f0, f1, f2, f3, f4, f5⟩ := hf it (by simp)
    have hl := rv.length
    have hd1 : X.A.in1.handled = none := I.ok.hd hc
    unfold pyNext
    have hT : s.TypeIs (.ref e) "enumerate" := ⟨_, he, rfl⟩
    refine wpAny_bind (wpAny_attempt (wpAny_callSpecial?_slot (name := Str.ofString "__next__") hT F.slot_enumerate_next (wpAny_call_entry F.slot_enumerate_next hT F.entry_enumerate_next ?_ (F.args_enumerate_next_1 _))))
    show wpAny _ _ (field (.ref e) 2 >>= _) _ _ _
    refine wpAny_bind (wpAny_field he rfl (x := .ref it) rfl ?_)
    refine wpAny_bind (wpAny_nextOf_tuple_end hd1 hit pt (by simp; omega) fun h' x hx' ex => ?_)
    obtain ⟨o, ho, hcl⟩ := ex
    refine wpAny_bind (wpAny_isInstance (T := "StopIteration") (b := true) ⟨o, ho, hcl⟩ isSubtype_stop ?_)
    exact wpAny_pure ⟨rfl, I.turned (t' := s.toks) (fun b o hb q => hx' b o hb q) f0 f1 f3 f4 f5⟩
  self := fun A i s Q E st h => let ⟨⟨_, he⟩, _⟩ := st; wpAny_pyIter_enum he h

section
variable {X : Cx} {p pos tpos : Pos} {elts : List Expr} {kk : Nat} {e : Expr} {ta : TA}
def iEnumA (K : PySem.W.Frag) (ta : TA) : TI := fun σ H R => ta σ H fun vs H1 => ∃ a, vs = [.ref a] ∧ ((∃ xs, SqL K H1 a xs) ∧ R (Ite K a) H1 ∨ (∃ xs, SqT K H1 a xs) ∧ R (IteT K a) H1)
theorem pi_enumA (hg : Gl X "enumerate") (hm : X.mg "enumerate" = none) (ha : PA X [e] ta) (hs : starEach [e] X.env = [(false, eval e X.env)] := by rfl) : PI X (.Tuple elts kk tpos) (.Call (.Name "enumerate" p) [e] [] pos) (iEnumA X.K ta) := by
  constructor
  intro pins s σ H R I h
  refine Call_ (ld_blt I hg hm boot_enumerate ?_)
  refine PyProof.Rows.callWith_type1 (thn (ha.run pos pins s σ H _ I h) ?_) hs rfl
  rintro us s1 ⟨vs, H1, I1, r1, a, rfl, q⟩
  obtain ⟨u, rfl, ru⟩ := Vals.one r1
  obtain rfl : u = Value.ref a := ru
  have le : ∀ b ∈ [s1.heap.objs.size + 1, s1.heap.objs.size], FpOk X pins H1 b := by
    intro b hb
    have z : s1.heap.objs.size ≤ b := by
      simp only [List.mem_cons, List.not_mem_nil, or_false] at hb
      rcases hb with rfl | rfl
      · exact Nat.le_succ _
      · exact Nat.le_refl _
    exact I1.fpOk z (I1.hok.fresh z)
  rcases q with ⟨⟨xs, hq⟩, q⟩ | ⟨⟨xs, hq⟩, q⟩
  · obtain ⟨its, rv, pl, hz⟩ := I1.list hq
    refine enumB (begins_list a its.toArray) pl.isList fun h' he ho hk => wpAny_pyIter_enum he ?_
    exact ⟨_, _, _, _, H1, rfl, I1.kept (t' := s1.toks) hk, turn_enum a (s1.heap.objs.size + 1) s1.heap.objs.size, ⟨⟨.none, he⟩, ⟨_, ho, rfl, rfl⟩, Nat.succ_ne_self _⟩, le, q⟩
  · obtain ⟨its, rv, pt, hz⟩ := I1.tuple hq
    have la : a < s1.heap.objs.size := IsTup.lt pt
    refine enumB (begins_tuple a its.toArray) pt fun h' he ho hk => wpAny_pyIter_enum he ?_
    exact ⟨_, _, _, _, H1, rfl, I1.kept (t' := s1.toks) hk, turn_enumT a (s1.heap.objs.size + 1) s1.heap.objs.size, ⟨⟨.none, he⟩, ⟨_, ho, rfl, rfl⟩, Nat.succ_ne_self _, Nat.ne_of_lt la, Nat.ne_of_lt (Nat.lt_succ_of_lt la)⟩, le, q⟩
end
def enumD (k : Int) : List D → List D
  | [] => []
  | x :: xs => .tup [.int k, x] :: enumD (k + 1) xs
theorem enumD_len : ∀ {k : Int} {xs : List D}, (enumD k xs).length = xs.length
  | k, [] => rfl
  | k, x :: xs => by
    show (enumD (k + 1) xs).length + 1 = _
    rw [enumD_len]; rfl
theorem enumD_at : ∀ {k : Int} {xs : List D} {i : Nat} {x : D}, xs[i]? = some x → (enumD k xs)[i]? = some (.tup [.int (k + (i : Nat)), x])
  | k, [], i, x, h => by simp at h
  | k, y :: xs, 0, x, h => by
    have e : y = x := Option.some.inj h
    subst e
    show some (D.tup [.int k, y]) = _
    rw [show k + ((0 : Nat) : Int) = k by simp]
  | k, y :: xs, i + 1, x, h => by
    have ih := enumD_at (k := k + 1) (xs := xs) (i := i) (x := x) h
    show (enumD (k + 1) xs)[i]? = _
    rw [ih]
    have : k + 1 + (i : Nat) = k + ((i + 1 : Nat) : Int) := by omega
    rw [this]
theorem enumD_of {k : Int} {xs : List D} {i : Nat} {y : D} (h : (enumD k xs)[i]? = some y) : ∃ x, xs[i]? = some x ∧ y = .tup [.int (k + (i : Nat)), x] := by
  have hi : i < xs.length := by
    have := (List.getElem?_eq_some_iff.mp h).1
    rwa [enumD_len] at this
  have e : xs[i]? = some xs[i] := List.getElem?_eq_getElem hi
  rw [enumD_at e] at h
  exact ⟨_, e, (Option.some.inj h).symm⟩
section
variable {tk : Tk} {K : PySem.W.Frag} {F : FrC}
theorem items_enum {a : Addr} {xs : List D} {v : V} (ev : v = .ref a) : ItemsOk tk K F (Ite K a) (enumD 0 xs) [(v, .sh (.lst xs))] := by
  subst ev
  refine ⟨fun H => ∃ vs, SqL K H a vs ∧ vs.length = xs.length, (Ite K a).yld, ⟨fun i H hi h => ?_, fun H h => ?_, fun i H x H' hi h y => y⟩, fun pn σ H d I => ?_, fun i H x H' pn σ d hi I y => ?_⟩
  · obtain ⟨vs, h1, h2⟩ := h
    rw [enumD_len] at hi
    exact ⟨vs, vs[i]'(by omega), h1, by simp [show i < vs.length by omega]⟩
  · obtain ⟨vs, h1, h2⟩ := h
    exact ⟨vs, h1, by rw [enumD_len]; omega⟩
  · obtain ⟨O, T, I⟩ := I
    obtain ⟨b, vs, e, hb, r⟩ := (I.pe (.ref a, .sh (.lst xs)) (by simp) : Rep K O T H (.lst xs) (.ref a))
    cases e
    exact ⟨vs, SqL.of hb.2, r.length⟩
  · obtain ⟨O, T, I⟩ := I
    obtain ⟨b, vs, e, hb, r⟩ := (I.pe (.ref a, .sh (.lst xs)) (by simp) : Rep K O T H (.lst xs) (.ref a))
    cases e
    obtain ⟨t, u, rfl, ht, rfl, y⟩ := y
    obtain ⟨z, h1, h2⟩ := r.get (y vs (SqL.of hb.2))
    refine ⟨_, enumD_at h1, DI.newT (xs := [.int (i : Nat), z]) (vs := [.int (i : Nat), u]) I ht ⟨_, _, rfl, rfl, _, _, rfl, h2, rfl⟩ |> fun q => ?_⟩
    rw [show (0 : Int) + (i : Nat) = (i : Nat) by omega]
    exact q
theorem items_enumT {a : Addr} {xs : List D} {v : V} (ev : v = .ref a) : ItemsOk tk K F (IteT K a) (enumD 0 xs) [(v, .sh (.tup xs))] := by
  subst ev
  refine ⟨fun H => ∃ vs, SqT K H a vs ∧ vs.length = xs.length, (IteT K a).yld, ⟨fun i H hi h => ?_, fun H h => ?_, fun i H x H' hi h y => y⟩, fun pn σ H d I => ?_, fun i H x H' pn σ d hi I y => ?_⟩
  · obtain ⟨vs, h1, h2⟩ := h
    rw [enumD_len] at hi
    exact ⟨vs, vs[i]'(by omega), h1, by simp [show i < vs.length by omega]⟩
  · obtain ⟨vs, h1, h2⟩ := h
    exact ⟨vs, h1, by rw [enumD_len]; omega⟩
  · obtain ⟨O, T, I⟩ := I
    obtain ⟨b, vs, e, hb, r⟩ := (I.pe (.ref a, .sh (.tup xs)) (by simp) : Rep K O T H (.tup xs) (.ref a))
    cases e
    exact ⟨vs, hb.sq, r.length⟩
  · obtain ⟨O, T, I⟩ := I
    obtain ⟨b, vs, e, hb, r⟩ := (I.pe (.ref a, .sh (.tup xs)) (by simp) : Rep K O T H (.tup xs) (.ref a))
    cases e
    obtain ⟨t, u, rfl, ht, rfl, y⟩ := y
    obtain ⟨z, h1, h2⟩ := r.get (y vs hb.sq)
    refine ⟨_, enumD_at h1, DI.newT (xs := [.int (i : Nat), z]) (vs := [.int (i : Nat), u]) I ht ⟨_, _, rfl, rfl, _, _, rfl, h2, rfl⟩ |> fun q => ?_⟩
    rw [show (0 : Int) + (i : Nat) = (i : Nat) by omega]
    exact q
end
section
variable {tk : Tk} {X : Cx} {p pos tpos : Pos} {elts : List Expr} {kk : Nat} {e : Expr} {te : DTE}
def srcEnum (te : DTE) (d : DS) (Q : List D → DS → Prop) : Prop := te d fun x d1 => match x with
  | .lst xs => Q (enumD 0 xs) d1
  | .tup xs => Q (enumD 0 xs) d1
  | _ => False
theorem sr_enum (hg : Gl X "enumerate") (hm : X.mg "enumerate" = none) (he : DE tk X e te) (hs : starEach [e] X.env = [(false, eval e X.env)] := by rfl) : DSr tk X (.Tuple elts kk tpos) (.Call (.Name "enumerate" p) [e] [] pos) (srcEnum te) := by
  refine pi_imp (pi_enumA hg hm (pa_cons he pa_nil hs) hs) ?_
  rintro σ H k ⟨F, pn, d, Q, I, q, c⟩
  refine upE_at I q fun v H1 x d1 I1 q1 => ?_
  obtain ⟨O, T, J⟩ := id I1
  have r1 : Rep X.K O T H1 x v := J.pe (v, .sh x) (by simp)
  cases x with
  | lst xs =>
    obtain ⟨a, vs, e, hb, r⟩ := id r1
    exact ⟨a, by rw [e], .inl ⟨⟨vs, SqL.of hb.2⟩, c _ H1 _ d1 [(v, .sh (.lst xs))] (items_enum e) I1 q1⟩⟩
  | tup xs =>
    obtain ⟨a, vs, e, hb, r⟩ := id r1
    exact ⟨a, by rw [e], .inr ⟨⟨vs, hb.sq⟩, c _ H1 _ d1 [(v, .sh (.tup xs))] (items_enumT e) I1 q1⟩⟩
  | _ => exact q1.elim
end

/-! ### objects that are made -/
section
variable {tk : Tk} {X : Cx} {p pos pos' : Pos} {e o : Expr} {es : List Expr} {te : DTE} {t : DTA} {f : Str}
def putD (f : Str) (x : D) : List (Str × D) → List (Str × D)
  | [] => [(f, x)]
  | (g, y) :: r => if g = f then (g, x) :: r else (g, y) :: putD f x r
theorem RepF.put {K O T H} {f : Str} {x : D} {v : V} (r : Rep K O T H x v) : ∀ {fs : List (Str × D)} {gs : List (Str × V)}, RepF K O T H fs gs → RepF K O T H (putD f x fs) (putF f v gs)
  | [], gs, h => by rw [show gs = [] from h]; exact ⟨v, [], rfl, r, rfl⟩
  | (g, y) :: fs, gs, h => by
    obtain ⟨w, q, rfl, h1, h2⟩ := h
    unfold putD putF
    by_cases z : g = f
    · rw [if_pos z, if_pos z]; exact ⟨v, q, rfl, r, h2⟩
    · rw [if_neg z, if_neg z]; exact ⟨w, _, rfl, h1, RepF.put r h2⟩
/-- self.f = e, self in slot i -/
def sFldI (K : PySem.W.Frag) (i : Nat) (f : Str) (te : DTE) (E : DEn) (d : DS) : Prop := te d fun x d1 => match d1[i]? with
  | some (some (.ob a C fs)) => AtOk K C f ∧ fs.length < 1000 ∧ E.nx (d1.set i (some (.ob a C (putD f x fs))))
  | _ => False
theorem ds_fldI (K : PySem.W.Frag) {i : Nat} (ho : PE X o (tVar i)) (he : DE tk X e te) (hs : swapsWith e (some (.Attribute o f pos')) pos.line X.env = pure false := by rfl) (hK : X.K = K := by rfl) : DSt tk X (.Assign [.Attribute o f pos'] e pos) (sFldI K i f te) := by
  subst hK
  refine ps_imp (ps_fld ho he hs) ?_
  rintro σ H D ⟨F, pn, d, E, I, q, c⟩
  refine upE_at I q fun v H1 x d1 I1 q1 => ?_
  obtain ⟨O, T, I1⟩ := I1
  have r1 : Rep X.K O T H1 x v := I1.pe (v, .sh x) (by simp)
  split at q1
  · rename_i a C fs es
    obtain ⟨u, h1, J⟩ := (I1.drop (pn' := pn) (by simp)).lift es
    obtain ⟨dx, gs, eu, h2, h3, h4, h5, h6⟩ := J.pe (u, .ob a C fs) (by simp)
    obtain rfl : u = .ref a := eu
    refine ⟨.ref a, h1, a, C, dx, gs, rfl, h5, q1.1.1, q1.1.2, by rw [h6.length]; exact q1.2.1, ?_⟩
    have J2 := DIx.land (i := i) (J.mutO (dx := dx) (h6.put (f := f) r1)) h1
    rw [List.set_set] at J2
    exact c.nx _ _ _ ⟨O, T, J2⟩ q1.2.2
  · exact q1.elim
/-- self.f, self in slot i, being made -/
def dFldI (K : PySem.W.Frag) (i : Nat) (f : Str) (d : DS) (Q : D → DS → Prop) : Prop := match d[i]? with
  | some (some (.ob _ C fs)) => AtOk K C f ∧ match fs.lookup f with
    | some y => Q y d
    | none => False
  | _ => False
theorem de_fldI (K : PySem.W.Frag) {i : Nat} (ho : PE X o (tVar i)) (hb : attributeBase o f X.env (eval o X.env) = eval o X.env) (hK : X.K = K := by rfl) : DE tk X (.Attribute o f pos) (dFldI K i f) := by
  subst hK
  refine pe_imp (pe_fld ho hb) ?_
  rintro σ H k ⟨F, pn, d, Q, ⟨O, T, I⟩, q, c⟩
  unfold dFldI at q
  split at q
  · rename_i a C fs es
    obtain ⟨v, h1, dx, gs, e1, h2, h3, h4, h5, h6⟩ := I.sl _ _ es
    obtain ⟨q0, q⟩ := q
    split at q
    · rename_i y ey
      obtain ⟨u, h7, h8⟩ := h6.lookup ey
      exact ⟨v, h1, a, C, dx, gs, u, e1, h5, q0.1, q0.2, h7, c u H y d (DI.add I h8) q⟩
    · exact q.elim
  · exact q.elim
/-- the promise of an __init__ over data: the fields that it leaves -/
abbrev DMk := List D → (List (Str × D) → Prop) → Prop
def spI (tk : Tk) (K : PySem.W.Frag) (C : Addr) (n : Nat) (c : DMk) : Sp := fun vs H Q _ => vs.length = n + 1 ∧ ∃ (x dx : Addr) (H1 : Hp) (rest : List V) (O : Addr → Prop) (T : Tks) (xs : List D),
  vs = .ref x :: rest ∧ H1 x = none ∧ H1 dx = none ∧ dx ≠ x ∧ H = upd (upd H1 dx (.own x)) x (.ins C dx []) ∧ (∀ a, O a → H1 a ≠ none) ∧ (∀ p ∈ T, O p.1 ∧ O p.2 ∧ tk.ok H1 p.1 p.2) ∧ RepL K O T H1 xs rest ∧
  ∃ Qd : List (Str × D) → Prop, c xs Qd ∧ ∀ fs H', Qd fs → (∃ pn σ d, DI tk K ⟨H1, O, T⟩ ((.ref x, .ob x C fs) :: pn) σ H' d) → Q .non H'
def dMake (n : Nat) (C : Addr) (c : DMk) (dds : List D) (t : DTA) (d : DS) (Q : D → DS → Prop) : Prop := t d fun xs d1 => (xs ++ dds).length = n ∧ c (xs ++ dds) fun fs => Q (.obj C fs) d1
theorem de_make {CX : CXT} {k n : Nat} {g C : Addr} {fd : FuncData} {ps : List Str} {c : DMk} {x : Str} {dvs : List V} {ds : List Value} {dds : List D} (M : Mk X.K C g) (F : FnOk X.prog X.w X.K X.mg X.base CX0 k g fd ps (spI tk X.K C n c)) (hr : Room (k + 1) X.A) (hg : Gl X x) (hm : X.mg x = some (.ref C)) (hb : Binds X.K fd ps ds) (hd : Vals dvs ds) (hdd : dds.map flatD = dvs.map some)
    (ha : DA tk X (e :: es) t) (hdb : (x == ("__debug__" : Str)) = false := by decide) (he : starEach (e :: es) X.env = (false, eval e X.env) :: starEach es X.env := by rfl) (hpl : (backTo pos (starEach es X.env)).any (·.1) = false := by rfl) :
    DE tk X (.Call (.Name x p) (e :: es) [] pos) (dMake n C c dds t) := by
  refine pe_imp (pe_make M F hr hg hm hb hd pass0 ha hdb he hpl) ?_
  rintro σ H k ⟨F, pn, d, Q, I, q, c'⟩
  refine upA_at I q fun vs H1 xs d1 hl I1 q1 y dx hy hdx hne => ?_
  obtain ⟨O, T, I1⟩ := I1
  have rl : RepL X.K O T H1 (xs ++ dds) (vs ++ dvs) := (I1.args hl).append (repFlat hdd)
  have J := I1.less
  refine ⟨by rw [List.length_cons, rl.length, q1.1], y, dx, H1, vs ++ dvs, O, T, xs ++ dds, rfl, hy, hdx, hne, rfl, J.dom, J.tok, rl, _, q1.2, fun fs H' qf mk => ⟨rfl, ?_⟩⟩
  obtain ⟨pn', σ', d', MI⟩ := mk
  exact c' (.ref y) H' (.obj C fs) d1 (J.back ⟨pn', σ', d', DI.freezeP MI⟩) qf
end
section
variable {P : Program} {w : World} {K : PySem.W.Frag} {mg : Str → Option Value} {base : Heap} {tk : Tk}
theorem DIx.newOb {F : FrC} {pn : Pn} {σ : L2.St} {H : Hp} {d : DS} {O : Addr → Prop} {T : Tks} {x C dx : Addr} (I : DIx tk K F pn σ H d O T) (hx : H x = none) : DIx tk K F ((.ref x, .ob x C []) :: pn) σ (upd H x (.ins C dx [])) d (fun a => O a ∨ a = x) T := by
  have J := I.own (o := .ins C dx []) hx
  have far : ∀ {s : SV} {v : V}, RepS K F O T H s v → s.own = true → v ≠ .ref x := fun {s v} q w e => by
    obtain ⟨b, eb, ob, _, _, nb⟩ := q.ownAt w
    have z : b = x := V.ref.inj (eb.symm.trans e)
    exact nb (by rw [z]; exact hx)
  refine { J with pe := fun q hq => ?_, sp := fun i s u a b c q hq w => ?_, pp := List.Pairwise.cons (fun q hq w w' e => far (I.pe q hq) w' e.symm) I.pp }
  · rcases List.mem_cons.mp hq with e | hq
    · subst e
      exact ⟨dx, [], rfl, .inr rfl, I.freshF hx, I.freshT hx, upd_same, rfl⟩
    · exact J.pe q hq
  · rcases List.mem_cons.mp hq with e | hq
    · subst e
      obtain ⟨v, e1, r1⟩ := I.sl i s a
      have : u = v := Option.some.inj (Option.some.inj (c.symm.trans e1))
      subst this
      exact fun z => far r1 b z.symm
    · exact I.sp i s u a b c q hq w
/-- THE RULE for an __init__ over data (nothing is raised out of it); its body ends without return -/
theorem fn_I {x qual : Str} {params : Arguments} {body : List Stmt} {scope : Scope} {dvs : List V} {kws : List (Str × V)} {f C : Addr} {fd : FuncData} {N ps : List Str} {k n : Nat} {c : DMk} {t : DTS} (F : FunD K x qual params body scope dvs kws f fd) (S : FnScope N ps scope) (hn : ps.length = n + 1)
    (hb : ∀ (cdv : Value) (A : Around) (outer : List Env) (s : Shared) (H : Hp) (E : XK), Room k (A.deeper (PyProof.Rows.envOfC qual scope s.heap.objs.size f cdv)) → DSs tk (cxOf CX0 P w K mg base N qual scope f cdv A outer s H E).nox body t)
    (hc : ∀ (y : Addr) xs Q, xs.length = n → c xs Q → t ⟨fun d => ∃ fs, d[0]? = some (some (.ob y C fs)) ∧ Q fs, fun _ => False, fun _ => False, fun _ => False⟩ (startD N (.ob y C [] :: xs.map SV.sh))) : FnOk P w K mg base CX0 (k + 1) f fd ps (spI tk K C n c) := by
  refine F.ok S (fun vs H Q E h => by rw [hn]; exact h.1) fun cdv A outer s H vs Q E hr h => ?_
  obtain ⟨hl, y, dx, H1, rest, O, T, xs, rfl, hy, hdx, hne, rfl, hd, ht, rl, Qd, q, ret⟩ := h
  have J0 := (pz_rep (base_DI (K := K) hd ht) rl).fresh (o := .own y) hdx
  have hy1 : upd H1 dx (.own y) y = none := by rw [upd_ne (Ne.symm hne)]; exact hy
  have J1 := J0.newOb (C := C) (dx := dx) hy1
  rw [List.append_nil, pz_zip] at J1
  have J1 : DIx tk K ⟨H1, O, T⟩ ((V.ref y :: rest).zip (.ob y C [] :: xs.map SV.sh)) [] (upd (upd H1 dx (.own y)) y (.ins C dx [])) [] (fun a => O a ∨ a = y) T := J1
  have I := DIx.enter (N := N) (by rw [List.length_cons, List.length_cons, List.length_map, rl.length]) J1
  refine ⟨_, (hb cdv A outer s _ E hr).nox, ⟨H1, O, T⟩, [], _, _, ⟨_, T, I⟩, hc y xs Qd (by rw [← rl.length]; simpa using hl) q, ⟨fun σ H' d J q => ?_, fun v H' x r q => q.elim, fun σ H d J q => q.elim, fun σ H d J q => q.elim⟩⟩
  obtain ⟨fs, e, q⟩ := q
  obtain ⟨O', T', J⟩ := J
  obtain ⟨u, h1, h2⟩ := J.lift e
  obtain ⟨dx', gs, eu, _⟩ := h2.pe (u, .ob y C fs) (by simp)
  obtain rfl : u = .ref y := eu
  exact ret fs H' q ⟨_, σ, _, O', T', h2⟩
end
end DL
set_option Elab.async false
set_option linter.all false
set_option maxRecDepth 100000
set_option maxHeartbeats 4000000
/-! DL8: the source of draws (family A): [[digits], stir, count]. -/
namespace DL
open PySem L2

theorem canLay_ints : ∀ ns : List Int, PyData.canLay0 (.list (ns.map PyData.int)) = true ∧ True := by
  intro ns
  refine ⟨?_, trivial⟩
  induction ns with
  | nil => rfl
  | cons n ns ih => exact ih
theorem depth_ints : ∀ ns : List Int, PyData.depth (.list (ns.map PyData.int)) = 1 := by
  intro ns
  induction ns with
  | nil => rfl
  | cons n ns ih =>
    have e : PyData.depth (.list ((n :: ns).map PyData.int)) = PyData.depth (.list (ns.map PyData.int)) := by
      show max 0 (PyData.depthAll (ns.map PyData.int)) + 1 = _
      rw [Nat.zero_max]; rfl
    rw [e, ih]
theorem shaped_ints (ns : List Int) : SeqAt.shaped (.list (ns.map PyData.int)) = true := by
  unfold SeqAt.shaped
  rw [(canLay_ints ns).1, depth_ints]
  rfl
theorem eqv_ints_nil (ns : List Int) : PyData.eqv (.list (ns.map PyData.int)) (.list []) = ns.isEmpty := by
  cases ns <;> rfl
theorem dp_ints {K : PySem.W.Frag} {H : Hp} : ∀ ns : List Int, DpAll K H (ns.map V.int) (ns.map PyData.int)
  | [] => .nil
  | n :: ns => .cons (.int n) (dp_ints ns)

def tokA : Tk where
  ok := fun H a b => ∃ (ds : List Int) (s c : Int), H a = some (.lst [.ref b, .int s, .int c]) ∧ H b = some (.lst (ds.map V.int)) ∧ ds.length ≤ 63
  loc := fun H H' a b e1 e2 ⟨ds, s, c, h1, h2, h3⟩ => ⟨ds, s, c, by rw [e1]; exact h1, by rw [e2]; exact h2, h3⟩
  there := fun H a b ⟨ds, s, c, h1, h2, _⟩ => ⟨by rw [h1]; exact Option.some_ne_none _, by rw [h2]; exact Option.some_ne_none _⟩
/-- what stands is kept but for sources of draws, whose shape is kept -/
structure ShA (a b : Addr) (H H' : Hp) : Prop where
  keep : ∀ c o, c ≠ a → c ≠ b → H c = some o → H' c = some o
  src : ∃ (ds : List Int) (s c : Int), H' a = some (.lst [.ref b, .int s, .int c]) ∧ H' b = some (.lst (ds.map V.int)) ∧ ds.length ≤ 63
theorem ints_ref {ds : List Int} {b : Addr} {x y : V} (h : ds.map V.int = [.ref b, x, y]) : False := by
  cases ds with
  | nil => cases h
  | cons d ds => simp at h
theorem ShA.ne {a b : Addr} {H H' : Hp} (s : ShA a b H H') : a ≠ b := by
  obtain ⟨ds, st, c, h1, h2, _⟩ := s.src
  intro e
  rw [e, h2] at h1
  exact ints_ref (HO.lst.inj (Option.some.inj h1))
theorem ShA.tok {a b : Addr} {H H' : Hp} (h0 : tokA.ok H a b) (s : ShA a b H H') {p : Addr × Addr} (h : tokA.ok H p.1 p.2) : tokA.ok H' p.1 p.2 := by
  obtain ⟨ds, st, c, h1, h2, h3⟩ := h0
  obtain ⟨ds', st', c', g1, g2, g3⟩ := s.src
  obtain ⟨es, su, cu, k1, k2, k3⟩ := h
  by_cases e1 : p.1 = a
  · have e2 : p.2 = b := by
      rw [e1, h1] at k1
      injection k1 with k1; injection k1 with k1; injection k1 with k1 _; injection k1 with k1
      exact k1.symm
    rw [e1, e2]
    exact ⟨ds', st', c', g1, g2, g3⟩
  · have n1 : p.1 ≠ b := fun z => by
      rw [z, h2] at k1
      exact ints_ref (HO.lst.inj (Option.some.inj k1))
    have k1' := s.keep _ _ e1 n1 k1
    have n2 : p.2 ≠ a := fun z => by
      rw [z, h1] at k2
      exact ints_ref (HO.lst.inj (Option.some.inj k2)).symm
    by_cases e3 : p.2 = b
    · exact ⟨ds', su, cu, k1', by rw [e3]; exact g2, g3⟩
    · exact ⟨es, su, cu, k1', s.keep _ _ n2 e3 k2, k3⟩
theorem ShA.ret {K : PySem.W.Frag} {H H' : Hp} {O : Addr → Prop} {T : Tks} {a b : Addr} (s : ShA a b H H') (hd : ∀ a, O a → H a ≠ none) (ht : ∀ p ∈ T, O p.1 ∧ O p.2 ∧ tokA.ok H p.1 p.2) (hab : (a, b) ∈ T) {v : V} {x : D} (r : Rep K O T H x v) (hx : flatD x = some v) : RetOk tokA K ⟨H, O, T⟩ v H' x := by
  have oab := ht _ hab
  have kp : ∀ c, H c ≠ none → H' c ≠ none := fun c hc => by
    by_cases e : c = a
    · obtain ⟨_, _, _, g1, _⟩ := s.src
      rw [e, g1]; exact Option.some_ne_none _
    · by_cases e2 : c = b
      · obtain ⟨_, _, _, _, g2, _⟩ := s.src
        rw [e2, g2]; exact Option.some_ne_none _
      · cases q : H c with
        | none => exact absurd q hc
        | some o => rw [s.keep c o e e2 q]; exact Option.some_ne_none _
  refine ⟨[], [], [], O, T, DIx.add (x := x) (v := v) ?_ (Rep.flat hx)⟩
  refine { len := rfl, ext := fun c o e f => s.keep c o (f _ hab).1 (f _ hab).2 e, keep := kp, up := fun a e => e, fdom := hd, dom := fun c z => kp c (hd c z), new := fun a e => .inl e, sub := fun p hp => hp, tnew := fun p hp => .inl hp, tok := fun p hp => ⟨(ht p hp).1, (ht p hp).2.1, s.tok oab.2.2 (ht p hp).2.2⟩, sl := fun i s e => by simp at e, pe := fun p hp => by simp at hp, ss := fun i j s t v n e => by simp at e, sp := fun i s v e => by simp at e, pp := List.Pairwise.nil }

/-- xs[i], i from 0 on, for xs[i] op= e -/
def rGetL (K : PySem.W.Frag) : V → V → Hp → VK → Prop := fun x y H Q => ∃ p xs, ∃ (i : Nat), ∃ v, x = .ref p ∧ y = .int (i : Int) ∧ i < 2 ^ 60 ∧ SqL K H p xs ∧ xs[i]? = some v ∧ Q v H
theorem get_lst {X : Cx} : PGet X (rGetL X.K) := by
  rintro pins s σ H o i ov iv Q I r1 r2 ⟨p, xs, j, v, rfl, rfl, hj, hq, hv, q⟩
  obtain rfl : ov = Value.ref p := r1
  obtain ⟨t, rfl⟩ := r2
  obtain ⟨its, rv, pl, hz⟩ := I.list hq
  obtain ⟨u, hu, ru⟩ := rv.get hv
  exact wpAny_getItem_list pl.isList (by omega) (by omega) (x := u) (by simpa using hu) ⟨v, H, I, ru, q⟩

/-- a draw: any number below the bound -/
def cDraw (xs : List D) (Q : D → Prop) : Prop := match xs with
  | [.tok _ _, .int n] => (0 < n ∧ n < 2 ^ 64) ∧ ∀ r : Int, 0 ≤ r → r < n → Q (.int r)
  | _ => False
theorem log2_lt64 {n : Int} (h0 : 0 < n) (h : n < 2 ^ 64) : n.natAbs.log2 < 9000 := by
  have e : n.natAbs < 2 ^ 64 := by omega
  have : n.natAbs.log2 < 64 := (Nat.log2_lt (by omega)).mpr e
  omega
section
variable {P : Program} {w : World} {K : PySem.W.Frag} {mg : Str → Option Value} {base : Heap}
/-- the source as it stands within a draw -/
def SrcA (a b : Addr) (ds : List Int) (s c : Int) (H : Hp) : Prop := H a = some (.lst [.ref b, .int s, .int c]) ∧ H b = some (.lst (ds.map V.int)) ∧ ds.length ≤ 63
theorem SrcA.new {a b : Addr} {ds : List Int} {s c : Int} {H : Hp} (h : SrcA a b ds s c H) {p : Addr} {o : HO} (hp : H p = none) : SrcA a b ds s c (upd H p o) :=
  ⟨by rw [upd_ne (ne_of_none h.1 hp)]; exact h.1, by rw [upd_ne (ne_of_none h.2.1 hp)]; exact h.2.1, h.2.2⟩
theorem SrcA.neq {a b : Addr} {ds : List Int} {s c : Int} {H : Hp} (h : SrcA a b ds s c H) : a ≠ b := fun e => by
  have h1 := h.1
  rw [e, h.2.1] at h1
  exact ints_ref (HO.lst.inj (Option.some.inj h1))
theorem last_ints {ds : List Int} (h : ds ≠ []) : ∃ es z, ds = es ++ [z] ∧ L2.atI (ds.map V.int) (-1) = some (.int z) ∧ (ds.map V.int)[(ds.map V.int).length - 1]? = some (.int z) ∧ (ds.map V.int).dropLast = es.map V.int := by
  refine ⟨ds.dropLast, ds.getLast h, (List.dropLast_concat_getLast h).symm, ?_, ?_, ?_⟩
  · have e := List.dropLast_concat_getLast h
    have : ds.map V.int = ds.dropLast.map V.int ++ [V.int (ds.getLast h)] := by
      conv => lhs; rw [← e]
      rw [List.map_append]; rfl
    rw [this]
    exact atI_last _ _
  · have e := List.dropLast_concat_getLast h
    have : ds.map V.int = ds.dropLast.map V.int ++ [V.int (ds.getLast h)] := by
      conv => lhs; rw [← e]
      rw [List.map_append]; rfl
    rw [this]
    simp
  · rw [List.map_dropLast]
end
section
variable {X : Cx} {e1 e2 e3 : Expr} {t1 : DTA} {t2 t3 : DTE} {pos : Pos}
/-- a new source -/
def dTokA (t1 : DTA) (t2 t3 : DTE) (d : DS) (Q : D → DS → Prop) : Prop := t1 d fun xs d1 => t2 d1 fun y d2 => t3 d2 fun z d3 => match y, z with
  | .int _, .int _ => (∃ ns : List Int, xs = ns.map D.int ∧ ns.length ≤ 63) ∧ ∀ a b, Q (.tok a b) d3
  | _, _ => False
theorem de_tokA (h1 : DF tokA X e1 t1) (h2 : DE tokA X e2 t2) (h3 : DE tokA X e3 t3)
    (hs1 : starEach [e1, e2, e3] X.env = (false, eval e1 X.env) :: starEach [e2, e3] X.env := by rfl) (hs2 : starEach [e2, e3] X.env = (false, eval e2 X.env) :: starEach [e3] X.env := by rfl) (hs3 : starEach [e3] X.env = (false, eval e3 X.env) :: starEach [] X.env := by rfl) : DE tokA X (.List [e1, e2, e3] pos) (dTokA t1 t2 t3) := by
  refine pe_imp (pe_lst (pa_cons h1 (pa_cons h2 (pa_cons h3 pa_nil hs3) hs2) hs1)) ?_
  rintro σ H k ⟨F, pn, d, Q, I, q, c⟩
  refine upF_at I q fun v H1 xs d1 I1 q1 => upE_at I1 q1 fun w H2 y d2 I2 q2 => upE_at I2 q2 fun u H3 z d3 I3 q3 => ?_
  split at q3
  · rename_i i j
    obtain ⟨⟨ns, rfl, hl⟩, q3⟩ := q3
    obtain ⟨O, T, I3⟩ := I3
    obtain ⟨b, vs, eb, ob, nb, fb, hb, rb⟩ := I3.pe (v, .ow (ns.map D.int)) (by simp)
    obtain rfl : v = .ref b := eb
    have ry : w = .int i := I3.pe (w, .sh (.int i)) (by simp)
    have rz : u = .int j := I3.pe (u, .sh (.int j)) (by simp)
    subst ry
    subst rz
    obtain rfl : vs = ns.map V.int := rb.ints
    refine ⟨by show 3 ≤ sizeLine; decide, fun p hp => ?_⟩
    have I4 := (I3.drop (pn' := (.ref b, .ow (ns.map D.int)) :: pn) (by simp)).own (o := .lst [.ref b, .int i, .int j]) hp
    have bp : b ≠ p := ne_of_none hb hp
    have hb' : upd H3 p (.lst [.ref b, .int i, .int j]) b = some (.lst (ns.map V.int)) := by rw [upd_ne bp]; exact hb
    refine c (.ref p) _ (.tok p b) d3 ⟨fun a => O a ∨ a = p, (p, b) :: T, DIx.add ?_ ⟨rfl, List.mem_cons_self⟩⟩ (q3 p b)
    have off : ∀ a, offT T a → (∀ o, H3 a = some o → a ≠ b → True) → a ≠ p → a ≠ b → offT ((p, b) :: T) a := fun a f _ n1 n2 r hr => by
      rcases List.mem_cons.mp hr with e | hr
      · subst e; exact ⟨n1, n2⟩
      · exact f r hr
    have mv : ∀ {s : SV} {x : V}, RepS X.K F (fun a => O a ∨ a = p) T (upd H3 p (.lst [.ref b, .int i, .int j])) s x → (s.own = true → x ≠ .ref p ∧ x ≠ .ref b) → RepS X.K F (fun a => O a ∨ a = p) ((p, b) :: T) (upd H3 p (.lst [.ref b, .int i, .int j])) s x := fun {s x} r hw =>
      r.mono (fun _ _ e _ => e) (fun _ z => .inl z) (fun _ z => List.mem_cons_of_mem _ z) fun w a e => by
        obtain ⟨a', e', oa, _, fa, _⟩ := r.ownAt w
        have q : a = a' := V.ref.inj (e.symm.trans e')
        subst q
        exact ⟨rfl, oa, off a fa (fun _ _ _ => trivial) (fun z => (hw w).1 (by rw [e, z])) fun z => (hw w).2 (by rw [e, z])⟩
    have nop : ∀ {s : SV} {x : V}, RepS X.K F O T H3 s x → s.own = true → x ≠ .ref p := fun {s x} r w e => by
      obtain ⟨a', e', _, _, _, na⟩ := r.ownAt w
      have z : a' = p := V.ref.inj (e'.symm.trans e)
      exact na (by rw [z]; exact hp)
    have J := I4.drop (pn' := pn) (by simp)
    refine { J with sub := fun r hr => List.mem_cons_of_mem _ (J.sub r hr), tnew := fun r hr => ?_, tok := fun r hr => ?_, sl := fun n s es => ?_, pe := fun r hr => ?_ }
    · rcases List.mem_cons.mp hr with e | hr
      · subst e; exact .inr ⟨I3.freshF hp, nb⟩
      · exact J.tnew r hr
    · rcases List.mem_cons.mp hr with e | hr
      · subst e; exact ⟨.inr rfl, .inl ob, ns, i, j, upd_same, hb', hl⟩
      · exact J.tok r hr
    · obtain ⟨x, h1, h2⟩ := J.sl n s es
      obtain ⟨x', h1', h2'⟩ := I3.sl n s es
      have ex : x = x' := Option.some.inj (Option.some.inj (h1.symm.trans h1'))
      subst ex
      exact ⟨x, h1, mv h2 fun w => ⟨nop h2' w, fun z => I3.sp n s x es w h1 (.ref b, .ow (ns.map D.int)) (by simp) rfl z.symm⟩⟩
    · refine mv (J.pe r hr) fun w => ⟨nop (I3.pe r (by simp [hr])) w, fun z => ?_⟩
      exact (List.pairwise_cons.mp (I3.drop (pn' := (.ref b, .ow (ns.map D.int)) :: pn) (by simp)).pp).1 r hr rfl w z.symm
  · exact q3.elim
/-- an item of some, drawn -/
def cPick (xs : List D) (Q : D → Prop) : Prop := match xs with
  | [.tok _ _, .tup ys] => (0 < ys.length ∧ ys.length < 2 ^ 60) ∧ ∀ y ∈ ys, Q y
  | [.tok _ _, .lst ys] => (0 < ys.length ∧ ys.length < 2 ^ 60) ∧ ∀ y ∈ ys, Q y
  | _ => False
theorem atI_draw {ys : List D} {r : Int} (h0 : 0 ≤ r) (h : r < (ys.length : Int)) : ∃ y, y ∈ ys ∧ L2.atI ys r = some y := by
  obtain ⟨j, rfl⟩ : ∃ j : Nat, r = (j : Int) := ⟨r.toNat, by omega⟩
  have hj : j < ys.length := by omega
  exact ⟨ys[j], List.getElem_mem hj, atI_nat (List.getElem?_eq_getElem hj)⟩
end
end DL
set_option Elab.async false
set_option linter.all false
set_option maxRecDepth 100000
set_option maxHeartbeats 4000000
/-! DL9: defs and classes of the text, chains, the end. -/
namespace DL
open PySem L2

/-- a def of the module as it stands behind the top -/
structure FnT (K : PySem.W.Frag) (mg : Str → Option Value) (x qual : Str) (st : Stmt) (dvs : List V) (f : Addr) (fd : FuncData) : Prop where
  at_ : mg x = some (.ref f)
  fn : FunD K x qual (defArgs st) (defBody st) (defScope st) dvs [] f fd
theorem FnT.mk0 {K : PySem.W.Frag} {mg : Str → Option Value} {x qual : Str} {st : Stmt} {f : Addr} {oc : Value} {od an : Option Addr} {osl : Array (Option Value)} {kV doc pm cdv ct : Value} (m : mg x = some (.ref f)) (l : K.lookup f = some ⟨oc, od, .func (PySem.W.fnOf x qual (defArgs st) (defBody st) (defScope st) .none kV doc pm an cdv ct), osl⟩)
    (c : PySem.W.codeIn K cdv qual = true) (k : PySem.W.keepIn K (.ref f) = true) : FnT K mg x qual st [] f (PySem.W.fnOf x qual (defArgs st) (defBody st) (defScope st) .none kV doc pm an cdv ct) :=
  ⟨m, ⟨⟨oc, od, _, kV, doc, pm, an, cdv, ct, osl, rfl, l, c, .inl ⟨rfl, rfl⟩, .inl rfl⟩, k⟩⟩
theorem FnT.mkD {K : PySem.W.Frag} {mg : Str → Option Value} {x qual : Str} {st : Stmt} {f T : Addr} {oc oc2 : Value} {od od2 an : Option Addr} {osl osl2 : Array (Option Value)} {kV doc pm cdv ct : Value} {dvs : List V} {its : List Value} {n : Nat} (m : mg x = some (.ref f)) (l : K.lookup f = some ⟨oc, od, .func (PySem.W.fnOf x qual (defArgs st) (defBody st) (defScope st) (.ref T) kV doc pm an cdv ct), osl⟩)
    (l2 : K.lookup T = some ⟨oc2, od2, .seq its.toArray n, osl2⟩) (hv : Vals dvs its) (hne : dvs ≠ []) (c : PySem.W.codeIn K cdv qual = true) (k : PySem.W.keepIn K (.ref f) = true) : FnT K mg x qual st dvs f (PySem.W.fnOf x qual (defArgs st) (defBody st) (defScope st) (.ref T) kV doc pm an cdv ct) :=
  ⟨m, ⟨⟨oc, od, _, kV, doc, pm, an, cdv, ct, osl, rfl, l, c, .inr ⟨hne, T, _, its, n, rfl, l2, rfl, hv⟩, .inl rfl⟩, k⟩⟩
/-- a def with defaults, all of its parameters written -/
theorem bindsAll {K : PySem.W.Frag} {x qual : Str} {params : Arguments} {body : List Stmt} {scope : Scope} {dvs : List V} {f : Addr} {fd : FuncData} {ps : List Str} {n j : Nat} (F : FunD K x qual params body scope dvs [] f fd) (hd : dvs ≠ []) (hj : dvs.length - j = 0) (hn : n + (dvs.length - j) = ps.length)
    (h : ∀ (T : Addr) (kV doc pm : Value) (an : Option Addr) (cdv ct : Value) (us its : List Value), us.length = n → its.length = dvs.length →
      ∃ k, bindArgs (PySem.W.fnOf x qual params body scope (.ref T) kV doc pm an cdv ct) ⟨us, []⟩ = seqItems? (.ref T) >>= k ∧ k (some its.toArray) = pure (ps.zip (us ++ its.drop j))) : Binds K fd ps [] := by
  obtain ⟨ds, hv, hb⟩ := F.binds1 n j hd hn h
  have z : ds = [] := by
    have e := hv.length
    rw [List.length_drop, hj] at e
    exact List.eq_nil_of_length_eq_zero e.symm
  rw [z] at hb
  exact hb
/-- what a caller wants of a def: its contract over data -/
structure DFn (tk : Tk) (P : Program) (w : World) (K : PySem.W.Frag) (mg : Str → Option Value) (base : Heap) (x : Str) (lv n : Nat) (ps : List Str) (f : Addr) (fd : FuncData) (c : DSp) : Prop where
  at_ : mg x = some (.ref f)
  kp : PySem.W.keepIn K (.ref f) = true
  ok : FnOk P w K mg base CX0 lv f fd ps (spD tk K n c)
  len : ps.length = n
section
variable {tk : Tk} {P : Program} {w : World} {K : PySem.W.Frag} {mg : Str → Option Value} {base : Heap}
theorem DFn.of {x qual : Str} {st : Stmt} {dvs : List V} {f : Addr} {fd : FuncData} {N ps : List Str} {k n : Nat} {c : DSp} {t : DTS} (F : FnT K mg x qual st dvs f fd) (S : FnScope N ps (defScope st)) (hn : ps.length = n)
    (hb : ∀ (cdv : Value) (A : Around) (outer : List Env) (s : Shared) (H : Hp) (E : XK), Room k (A.deeper (PyProof.Rows.envOfC qual (defScope st) s.heap.objs.size f cdv)) → DSs tk (cxOf CX0 P w K mg base N qual (defScope st) f cdv A outer s H E).nox (defBody st) t)
    (hc : ∀ xs Q, xs.length = n → c xs Q → t ⟨fun _ => Q .non, Q, fun _ => False, fun _ => False⟩ (startD N (xs.map SV.sh))) : DFn tk P w K mg base x (k + 1) n ps f fd c := by
  subst hn
  exact ⟨F.at_, F.fn.kp, fn_D F.fn S hb hc, rfl⟩
theorem DFn.mono {x : Str} {j k n : Nat} {ps : List Str} {f : Addr} {fd : FuncData} {c : DSp} (F : DFn tk P w K mg base x j n ps f fd c) (h : j ≤ k) : DFn tk P w K mg base x k n ps f fd c := ⟨F.at_, F.kp, F.ok.mono h, F.len⟩
end
section
variable {tk : Tk} {X : Cx} {pos p : Pos} {e : Expr} {es : List Expr} {t : DTA} {x : Str} {k n : Nat} {ps : List Str} {f : Addr} {fd : FuncData} {c : DSp} {dvs : List V} {ds : List Value} {dds : List D}
theorem de_fn (G : DFn tk X.prog X.w X.K X.mg X.base x k n ps f fd c) (hb : Binds X.K fd ps []) (hr : Room k X.A) (ha : DA tk X (e :: es) t) (hg : Gl X x := by rfl) (hdb : (x == ("__debug__" : Str)) = false := by decide) (he : starEach (e :: es) X.env = (false, eval e X.env) :: starEach es X.env := by rfl) (hpl : (backTo pos (starEach es X.env)).any (·.1) = false := by rfl) :
    DE tk X (.Call (.Name x p) (e :: es) [] pos) (dCall n c [] t) := de_callD G.ok hr hg G.at_ G.kp hb .nil rfl G.len ha hdb he hpl
theorem de_fnD (G : DFn tk X.prog X.w X.K X.mg X.base x k n ps f fd c) (hb : Binds X.K fd ps ds) (hd : Vals dvs ds) (hdd : dds.map flatD = dvs.map some) (hr : Room k X.A) (ha : DA tk X (e :: es) t) (hg : Gl X x := by rfl) (hdb : (x == ("__debug__" : Str)) = false := by decide) (he : starEach (e :: es) X.env = (false, eval e X.env) :: starEach es X.env := by rfl) (hpl : (backTo pos (starEach es X.env)).any (·.1) = false := by rfl) :
    DE tk X (.Call (.Name x p) (e :: es) [] pos) (dCall n c dds t) := de_callD G.ok hr hg G.at_ G.kp hb hd hdd G.len ha hdb he hpl
/-- a class of the text -/
structure ClT (K : PySem.W.Frag) (mg : Str → Option Value) (x qual : Str) (st : Stmt) (dvs : List V) (C f : Addr) (fd : FuncData) : Prop where
  at_ : mg x = some (.ref C)
  cl : Cls K C
  made : Mk K C f
  fn : FunD K "__init__" qual (defArgs st) (defBody st) (defScope st) dvs [] f fd
theorem ClT.mk0 {K : PySem.W.Frag} {mg : Str → Option Value} {x qual : Str} {st : Stmt} {C f : Addr} {oc : Value} {od an : Option Addr} {osl : Array (Option Value)} {kV doc pm cdv ct : Value} (m : mg x = some (.ref C)) (pg : PySem.W.plainGet K C Str.empty = true) (hd : PySem.W.hasDictIn K C = true) (po : PySem.W.plainOver K C = true) (sa : PySem.W.findIn K (.ref C) "__setattr__" = some (some (.builtin "object.__setattr__")))
    (mk : PySem.W.makesIn K C = true) (a : PySem.W.findIn K (.ref C) "__init__" = some (some (.ref f))) (i : PySem.W.isFn K (.ref f) = true) (kc : PySem.W.keepIn K (.ref C) = true) (l : K.lookup f = some ⟨oc, od, .func (PySem.W.fnOf "__init__" qual (defArgs st) (defBody st) (defScope st) .none kV doc pm an cdv ct), osl⟩)
    (c : PySem.W.codeIn K cdv qual = true) (k : PySem.W.keepIn K (.ref f) = true) : ClT K mg x qual st [] C f (PySem.W.fnOf "__init__" qual (defArgs st) (defBody st) (defScope st) .none kV doc pm an cdv ct) :=
  ⟨m, ⟨pg, hd, po, sa⟩, ⟨mk, a, i, kc⟩, ⟨⟨oc, od, _, kV, doc, pm, an, cdv, ct, osl, rfl, l, c, .inl ⟨rfl, rfl⟩, .inl rfl⟩, k⟩⟩
structure DCl (tk : Tk) (P : Program) (w : World) (K : PySem.W.Frag) (mg : Str → Option Value) (base : Heap) (x : Str) (lv n : Nat) (ps : List Str) (C f : Addr) (fd : FuncData) (c : DMk) : Prop where
  at_ : mg x = some (.ref C)
  made : Mk K C f
  ok : FnOk P w K mg base CX0 lv f fd ps (spI tk K C n c)
theorem DCl.of {tk : Tk} {P : Program} {w : World} {K : PySem.W.Frag} {mg : Str → Option Value} {base : Heap} {x qual : Str} {st : Stmt} {dvs : List V} {f C : Addr} {fd : FuncData} {N ps : List Str} {k n : Nat} {c : DMk} {t : DTS} (F : ClT K mg x qual st dvs C f fd) (S : FnScope N ps (defScope st)) (hn : ps.length = n + 1)
    (hb : ∀ (cdv : Value) (A : Around) (outer : List Env) (s : Shared) (H : Hp) (E : XK), Room k (A.deeper (PyProof.Rows.envOfC qual (defScope st) s.heap.objs.size f cdv)) → DSs tk (cxOf CX0 P w K mg base N qual (defScope st) f cdv A outer s H E).nox (defBody st) t)
    (hc : ∀ (y : Addr) xs Q, xs.length = n → c xs Q → t ⟨fun d => ∃ fs, d[0]? = some (some (.ob y C fs)) ∧ Q fs, fun _ => False, fun _ => False, fun _ => False⟩ (startD N (.ob y C [] :: xs.map SV.sh))) : DCl tk P w K mg base x (k + 1) n ps C f fd c :=
  ⟨F.at_, F.made, fn_I F.fn S hn hb hc⟩
theorem de_cl {C : Addr} {c : DMk} (G : DCl tk X.prog X.w X.K X.mg X.base x k n ps C f fd c) (hb : Binds X.K fd ps []) (hr : Room (k + 1) X.A) (ha : DA tk X (e :: es) t) (hg : Gl X x := by rfl) (hdb : (x == ("__debug__" : Str)) = false := by decide) (he : starEach (e :: es) X.env = (false, eval e X.env) :: starEach es X.env := by rfl) (hpl : (backTo pos (starEach es X.env)).any (·.1) = false := by rfl) :
    DE tk X (.Call (.Name x p) (e :: es) [] pos) (dMake n C c [] t) := de_make (CX := CX0) G.made G.ok hr hg G.at_ hb .nil rfl ha hdb he hpl
end

/-! ### a < b < c -/
section
variable {tk : Tk} {X : Cx} {pos : Pos} {a b e : Expr} {ta tb tc : DTE}
def dChain (f g : DR2) (ta tb tc : DTE) (d : DS) (Q : D → DS → Prop) : Prop := ta d fun x d1 => tb d1 fun y d2 => f x y fun z => match z with
  | .bl k => if k = true then tc d2 fun u d3 => g y u fun z' => Q z' d3 else Q (.bl false) d2
  | _ => False
theorem tChain_D {r r' : R2} {f g : DR2} (hf : OpD tk X.K r f) (hg : OpD tk X.K r' g) : ∀ σ H k, upE tk X.K (dChain f g ta tb tc) σ H k → tChain r r' (upE tk X.K ta) (upE tk X.K tb) (upE tk X.K tc) σ H k := by
  rintro σ H k ⟨F, pn, d, Q, I, q, c⟩
  refine upE_at I q fun v H1 x d1 I1 q1 => upE_at I1 q1 fun w H2 y d2 I2 q2 => ?_
  obtain ⟨O, T, I2⟩ := I2
  have r1 : Rep X.K O T H2 x v := I2.pe (v, .sh x) (by simp)
  have r2 : Rep X.K O T H2 y w := I2.pe (w, .sh y) (by simp)
  refine hf F ((w, .sh y) :: pn) σ H2 d2 O T x y v w _ _ (I2.drop (by simp)) r1.r r2.r q2 fun z u H3 I3 q3 => ?_
  obtain ⟨O3, T3, I3⟩ := I3
  have r3 : Rep X.K O3 T3 H3 u z := I3.pe (z, .sh u) (by simp)
  cases u with
  | bl b =>
    refine ⟨b, r3, ?_⟩
    cases b with
    | true =>
      rw [if_pos rfl]
      replace q3 : tc d2 fun u d3 => g y u fun z' => Q z' d3 := q3
      refine upE_at (pn := (w, .sh y) :: pn) ⟨O3, T3, I3.drop (by simp)⟩ q3 fun w' H4 u' d4 I4 q4 => ?_
      obtain ⟨O4, T4, I4⟩ := I4
      have r4 : Rep X.K O4 T4 H4 u' w' := I4.pe (w', .sh u') (by simp)
      have r5 : Rep X.K O4 T4 H4 y w := I4.pe (w, .sh y) (by simp)
      exact hg F pn σ H4 d4 O4 T4 y u' w w' _ k (I4.drop (by simp)) r5.r r4.r q4 fun z u H' J q => c z H' u d4 J q
    | false => exact c _ H3 _ d2 (DI.bl (I3.drop (pn' := pn) (by simp)) false) q3
  | _ => exact q3.elim
theorem de_chain {op op' : CmpOp} {r r' : R2} {f g : DR2} {c : Expr} (ho : OpR X (compareOp op) r) (ho' : OpR X (compareOp op') r') (hf : OpD tk X.K r f) (hg : OpD tk X.K r' g) (ha : DE tk X a ta) (hb : DE tk X b tb) (hc : DE tk X c tc)
    (hm : lastMarks [op, op'] [b, c] = false := by with_unfolding_all rfl) : DE tk X (.Compare a [op, op'] [b, c] pos) (dChain f g ta tb tc) := pe_imp (pe_chain ho ho' ha hb hc hm) (tChain_D hf hg)
theorem dt_chain {op op' : CmpOp} {r r' : R2} {f g : DR2} {c : Expr} (ho : OpR X (compareOp op) r) (ho' : OpR X (compareOp op') r') (hf : OpD tk X.K r f) (hg : OpD tk X.K r' g) (ha : DE tk X a ta) (hb : DE tk X b tb) (hc : DE tk X c tc)
    (hm : lastMarks [op, op'] [b, c] = false := by with_unfolding_all rfl) : DT tk X (.Compare a [op, op'] [b, c] pos) (dTest (dChain f g ta tb tc)) := by
  refine pt_imp (pt_chain ho ho' ha hb hc hm) fun σ H k h => ?_
  obtain ⟨F, pn, d, Q, I, q, c⟩ := h
  refine tChain_D hf hg σ H _ ⟨F, pn, d, _, I, q, fun v H1 x d1 I1 q1 => ?_⟩
  obtain ⟨O, T, I1⟩ := I1
  have r1 : Rep X.K O T H1 x v := I1.pe (v, .sh x) (by simp)
  cases x with
  | bl z => exact ⟨z, r1, c z H1 d1 ⟨O, T, I1.drop (by simp)⟩ q1⟩
  | _ => exact q1.elim
end

/-! ### how many items a target takes -/
def GT (g : DTG) : Prop := ∀ (x : D) (d : DS) (R : DS → Prop), g x d R → ∃ d', R d'
def GL (gs : DTGs) (n : Nat) : Prop := ∀ (xs : List D) (d : DS) (R : DS → Prop), gs xs d R → xs.length = n ∧ ∃ d', R d'
theorem gt_nm {i : Nat} : GT (gNm i) := fun x d R h => ⟨_, h⟩
theorem gl_nil : GL gsNil 0 := fun xs d R h => by
  cases xs with
  | nil => exact ⟨rfl, d, h⟩
  | cons x xs => exact h.elim
theorem gl_cons {g : DTG} {gs : DTGs} {n : Nat} (h1 : GT g) (h2 : GL gs n) : GL (gsCons g gs) (n + 1) := fun xs d R h => by
  cases xs with
  | nil => exact h.elim
  | cons x xs =>
    obtain ⟨d', h'⟩ := h1 x d _ h
    obtain ⟨e, d2, q⟩ := h2 xs d' R h'
    exact ⟨by rw [List.length_cons, e], d2, q⟩
theorem gt_tp {gs : DTGs} {n : Nat} (h : GL gs n) : GT (gTp gs) := fun x d R q => by
  cases x with
  | tup xs => exact (h xs d R q).2
  | _ => exact q.elim
theorem GL.len {gs : DTGs} {n : Nat} (h : GL gs n) : ∀ xs d R, gs xs d R → xs.length = n := fun xs d R q => (h xs d R q).1

theorem ifT {b : Bool} {X Y : Prop} (h : b = true) (x : X) : if b = true then X else Y := by rw [if_pos h]; exact x
theorem ifF {b : Bool} {X Y : Prop} (h : b = false) (y : Y) : if b = true then X else Y := by rw [if_neg (by rw [h]; exact Bool.false_ne_true)]; exact y
theorem ifB {b : Bool} {X Y : Prop} (x : b = true → X) (y : b = false → Y) : if b = true then X else Y := by
  cases b with
  | true => exact x rfl
  | false => exact y rfl
/-- one statement, the rest folded -/
theorem sq {t u : DTS} {E : DEn} {d : DS} (h : t { E with nx := u E } d) : sSeq t u E d := h
theorem bl_eq {Q : D → Prop} {a b : Bool} (h : Q (.bl a)) (e : a = b) : Q (.bl b) := e ▸ h
theorem int_eq {Q : D → Prop} {a b : Int} (h : Q (.int a)) (e : a = b) : Q (.int b) := e ▸ h
theorem d_eq {Q : D → Prop} {a b : D} (h : Q a) (e : a = b) : Q b := e ▸ h

/-! ### the law's end -/
/-- the script is handed in, True comes out -/
def cLaw (xs : List D) (Q : D → Prop) : Prop := ∃ ns : List Int, xs = [.frz (ns.map D.int)] ∧ ns.length ≤ 63 ∧ Q (.bl true)
theorem repL_ints {K : PySem.W.Frag} {O : Addr → Prop} {T : Tks} {H : Hp} (ns : List Int) : RepL K O T H (ns.map D.int) (ns.map V.int) := RepL.ofInts ns
theorem law_sp {tk : Tk} {K : PySem.W.Frag} {H : Hp} {a : Addr} {ns : List Int} (hl : ns.length ≤ 63) (ho : Only H) (hs : SqL K H a (ns.map V.int)) {E : XK} : spD tk K 1 cLaw [.ref a] H (fun v _ => v = .bl true) E := by
  refine ⟨rfl, fun _ => False, [], [.frz (ns.map D.int)], fun _ z => z.elim, fun p hp => by simp at hp, ⟨.ref a, [], rfl, ⟨a, ns.map V.int, rfl, ?_, repL_ints ns⟩, rfl⟩, fun x => x = .bl true, ⟨ns, rfl, hl, rfl⟩, fun x v H' e r => ?_⟩
  · rcases hs with (h | ⟨o, h⟩) | h
    · rcases ho a with q | ⟨o, xs, q⟩
      · rw [q] at h; cases h
      · rw [q] at h; cases h
    · exact .inl ⟨fun z => z, o, h⟩
    · exact .inr h
  · subst e
    obtain ⟨pn, σ, d, O, T, J⟩ := r
    exact J.pe (v, .sh (.bl true)) (by simp)
end DL
set_option Elab.async false
set_option linter.all false
set_option maxRecDepth 100000
set_option maxHeartbeats 4000000
/-! DL10: one draw out of a source of family A, walked. -/
namespace DL
open PySem L2

/-- the cells as a draw found them, but for the source's two -/
structure Pz (H0 : Hp) (a b : Addr) (ds : List Int) (s c : Int) (H : Hp) : Prop where
  keep : ∀ e o, e ≠ a → e ≠ b → H0 e = some o → H e = some o
  src : SrcA a b ds s c H
section
variable {K : PySem.W.Frag} {H0 H : Hp} {a b : Addr} {ds : List Int} {s c : Int}
theorem Pz.new (z : Pz H0 a b ds s c H) {p : Addr} {o : HO} (hp : H p = none) : Pz H0 a b ds s c (upd H p o) :=
  ⟨fun e o' n1 n2 h => by
    have h2 := z.keep e o' n1 n2 h
    rw [upd_ne (ne_of_none h2 hp)]; exact h2, z.src.new hp⟩
theorem Pz.setB (z : Pz H0 a b ds s c H) {es : List Int} (hl : es.length ≤ 63) : Pz H0 a b es s c (upd H b (.lst (es.map V.int))) :=
  ⟨fun e o' n1 n2 h => by rw [upd_ne n2]; exact z.keep e o' n1 n2 h, by rw [upd_ne z.src.neq]; exact z.src.1, upd_same, hl⟩
theorem Pz.setA (z : Pz H0 a b ds s c H) {s' c' : Int} : Pz H0 a b ds s' c' (upd H a (.lst [.ref b, .int s', .int c'])) :=
  ⟨fun e o' n1 n2 h => by rw [upd_ne n1]; exact z.keep e o' n1 n2 h, upd_same, by rw [upd_ne z.src.neq.symm]; exact z.src.2.1, z.src.2.2⟩
theorem Pz.sh (z : Pz H0 a b ds s c H) : ShA a b H0 H := ⟨z.keep, ds, s, c, z.src.1, z.src.2.1, z.src.2.2⟩

abbrev tIx (K : PySem.W.Frag) (ta : TE) (z : Int) : TE := tOp (rIx K) ta (tC (.int z))
theorem ix0 {σ : St} {Q : VK} (hσ : σ[0]? = some (some (.ref a))) (z : Pz H0 a b ds s c H) (q : Q (.ref b) H) : tIx K (tVar 0) 0 σ H Q :=
  ⟨.ref a, hσ, .inl ⟨a, _, 0, .ref b, rfl, rfl, SqL.of z.src.1, rfl, q⟩⟩
theorem ix1 {σ : St} {Q : VK} (hσ : σ[0]? = some (some (.ref a))) (z : Pz H0 a b ds s c H) (q : Q (.int s) H) : tIx K (tVar 0) 1 σ H Q :=
  ⟨.ref a, hσ, .inl ⟨a, _, 1, .int s, rfl, rfl, SqL.of z.src.1, rfl, q⟩⟩
theorem ix2 {σ : St} {Q : VK} (hσ : σ[0]? = some (some (.ref a))) (z : Pz H0 a b ds s c H) (q : Q (.int c) H) : tIx K (tVar 0) 2 σ H Q :=
  ⟨.ref a, hσ, .inl ⟨a, _, 2, .int c, rfl, rfl, SqL.of z.src.1, rfl, q⟩⟩
/-- heap[0] != [] -/
abbrev tSome (K : PySem.W.Frag) : TT := tTest (tOp (rNeAll K) (tIx K (tVar 0) 0) (tLst tNil))
theorem some_ok {σ : St} {Q : Bool → Hp → Prop} (hσ : σ[0]? = some (some (.ref a))) (z : Pz H0 a b ds s c H) (q : ∀ H', Pz H0 a b ds s c H' → Q (!ds.isEmpty) H') : tSome K σ H Q := by
  refine ix0 hσ z ⟨Nat.zero_le _, fun p hp => .inr ⟨.list (ds.map PyData.int), .list [], ?_, ?_, shaped_ints ds, shaped_ints [], ⟨_, rfl, ?_⟩⟩⟩
  · exact .lst (SqL.of (z.new hp).src.2.1) (dp_ints ds)
  · exact .lst (SqL.of (upd_same (H := H))) .nil
  · rw [eqv_ints_nil]; exact q _ (z.new hp)
/-- heap[0][-1] == 0 -/
abbrev tLast (K : PySem.W.Frag) : TT := tTest (tOp (rEqAll K) (tOp (rIx K) (tIx K (tVar 0) 0) (tUn (rU fun i => .int (-i)) (tC (.int 1)))) (tC (.int 0)))
theorem last_ok {σ : St} {Q : Bool → Hp → Prop} (hσ : σ[0]? = some (some (.ref a))) (z : Pz H0 a b ds s c H) (hd : ds ≠ []) (q : ∀ k, Q k H) : tLast K σ H Q := by
  obtain ⟨es, x, e1, e2, e3, e4⟩ := last_ints hd
  refine ix0 hσ z ⟨1, rfl, .inl ⟨b, _, -1, .int x, rfl, rfl, SqL.of z.src.2.1, e2, .inl ⟨rfl, _, rfl, q _⟩⟩⟩
/-- heap[0].pop() -/
abbrev tPopB (K : PySem.W.Frag) : TE := tBM0 K "list" (fun x xs H Q => rPop x xs H Q) (tIx K (tVar 0) 0)
theorem pop_ok {σ : St} {Q : VK} (hσ : σ[0]? = some (some (.ref a))) (z : Pz H0 a b ds s c H) (hd : ds ≠ []) (q : ∀ es x H', ds = es ++ [x] → Pz H0 a b es s c H' → Q (.int x) H') : tPopB K σ H Q := by
  obtain ⟨es, x, e1, e2, e3, e4⟩ := last_ints hd
  refine ix0 hσ z ⟨.inl ⟨rfl, _, SqL.of z.src.2.1⟩, b, _, .int x, rfl, rfl, z.src.2.1, e3, ?_⟩
  rw [e4]
  refine q es x _ e1 (z.setB ?_)
  have := z.src.2.2
  rw [e1, List.length_append] at this
  simp at this
  omega
/-- a draw behind its while -/
def tDrawR (K : PySem.W.Frag) (r1 r2 : List V → Hp → VK → Prop) : TS :=
  (tSeq (tIfS (tSome K)
      (tSeq (tAsg (tPopB K) (gName 2))
      (tSeq (tDrop (tBM K "list" rAppend (tIx K (tVar 0) 0) (tCons (tOp (rI CDivW fun i j => .int (i / j)) (tVar 2) (tVar 1)) tNil)))
        (tRet (tOp (rI (fun _ j => 0 < j) fun i j => .int (i % j)) (tCB r1 (tCons (tVar 2) tNil)) (tVar 1)))))
      tNext)
  (tSeq (tAugS (tVar 0) (tC (.int 2)) (tC (.int 1)) (rGetL K) (ipI fun i j => i + j) rSetL)
  (tSeq (tAsg (tOp (rI (fun _ j => 0 < j) fun i j => .int (i % j)) (tCB r1 (tCons (tOp (rI0 fun i j => .int (i + j)) (tOp (rI0 fun i j => .int (i + j)) (tOp (rI CMul fun i j => .int (i * j)) (tIx K (tVar 0) 1) (tC (.int 48271))) (tC (.int 17))) (tIx K (tVar 0) 2)) tNil)) (tC (.int 2147483647)))
      (gSub (tVar 0) (tC (.int 1)) rSetL))
    (tRet (tOp (rI (fun _ j => 0 < j) fun i j => .int (i % j)) (tCB r2 (tCons (tOp (rI CDivW fun i j => .int (i / j)) (tIx K (tVar 0) 1) (tC (.int 32))) tNil)) (tVar 1))))))
abbrev rInt1 : List V → Hp → VK → Prop := fun xs H Q => (∃ i, xs = [.int i] ∧ Q (.int i) H) ∨ ∃ k, xs = [.bl k] ∧ Q (.int (if k then 1 else 0)) H
/-- the whole draw -/
def tDrawA (K : PySem.W.Frag) (r1 r2 : List V → Hp → VK → Prop) : TS := tSeq (tWhile (tAnd (tSome K) (tLast K)) (tDrop (tPopB K))) (tDrawR K r1 r2)
theorem drawR_ok {n : Int} {D : Ends} {x2 : Option V} (hn0 : 0 < n) (hn : n < 2 ^ 64) (q : ∀ (r : Int) ds s c H', 0 ≤ r → r < n → Pz H0 a b ds s c H' → D.rt (.int r) H') (z : Pz H0 a b ds s c H) :
    tDrawR K rInt1 rInt1 D [some (.ref a), some (.int n), x2] H := by
  dsimp only [tDrawR, tSeq, tIfS]
  refine some_ok rfl z fun H1 z1 => ?_
  by_cases e : ds = []
  · subst e
    rw [if_neg (by decide)]
    dsimp only [tNext, tSeq, gName, tAugS, List.set_cons_zero, List.set_cons_succ]
    refine ⟨.ref a, rfl, a, _, 2, .int c, rfl, rfl, by decide, SqL.of z1.src.1, rfl, c, 1, rfl, rfl, a, _, 2, 2, rfl, rfl, z1.src.1, rfl, ?_⟩
    have z2 := z1.setA (s' := s) (c' := c + 1)
    dsimp only [tNext, tSeq, gName, tAsg, List.set_cons_zero, List.set_cons_succ]
    refine ix1 rfl z2 ⟨s, 48271, rfl, rfl, .inr ⟨by decide, by decide⟩, _, 17, rfl, rfl, ?_⟩
    refine ix2 rfl z2 ⟨_, _, rfl, rfl, .inl ⟨_, rfl, _, 2147483647, rfl, rfl, by show (0 : Int) < 2147483647; decide, ?_⟩⟩
    refine ⟨.ref a, rfl, a, _, 1, 1, rfl, rfl, z2.src.1, rfl, ?_⟩
    have z3 := z2.setA (s' := (s * 48271 + 17 + (c + 1)) % 2147483647) (c' := c + 1)
    dsimp only [tNext, tSeq, gName, tRet, List.set_cons_zero, List.set_cons_succ]
    refine ix1 rfl z3 ⟨_, 32, rfl, rfl, ⟨by decide, by decide +kernel⟩, .inl ⟨_, rfl, .int n, rfl, _, n, rfl, rfl, hn0, ?_⟩⟩
    exact q _ _ _ _ _ (Int.emod_nonneg _ (by omega)) (Int.emod_lt_of_pos _ hn0) z3
  · have e' : (!ds.isEmpty) = true := by
      cases ds with
      | nil => exact absurd rfl e
      | cons d ds => rfl
    rw [if_pos e']
    dsimp only [tNext, tSeq, gName, tAsg, List.set_cons_zero, List.set_cons_succ]
    refine pop_ok rfl z1 e fun es x H2 e3 z2 => ?_
    dsimp only [tNext, tSeq, gName, tDrop, List.set_cons_zero, List.set_cons_succ]
    refine ix0 rfl z2 ⟨.inl ⟨rfl, _, SqL.of z2.src.2.1⟩, .int x, rfl, .int n, rfl, x, n, rfl, rfl, ⟨hn0, log2_lt64 hn0 hn⟩, b, _, .int (x / n), rfl, rfl, z2.src.2.1, ?_, ?_⟩
    · have := z2.src.2.2
      rw [List.length_map]
      exact Nat.lt_of_le_of_lt this (by decide)
    · have l1 := z1.src.2.2
      rw [e3, List.length_append] at l1
      have z3 := z2.setB (es := es ++ [x / n]) (by rw [List.length_append]; exact l1)
      rw [List.map_append] at z3
      dsimp only [tNext, tSeq, gName, tRet, List.set_cons_zero, List.set_cons_succ]
      refine ⟨.int x, rfl, .inl ⟨x, rfl, .int n, rfl, x, n, rfl, rfl, hn0, ?_⟩⟩
      exact q _ _ _ _ _ (Int.emod_nonneg _ (by omega)) (Int.emod_lt_of_pos _ hn0) z3
theorem drawA_ok {n : Int} {D : Ends} {x2 : Option V} (hn0 : 0 < n) (hn : n < 2 ^ 64) (z : Pz H0 a b ds s c H) (q : ∀ (r : Int) ds s c H', 0 ≤ r → r < n → Pz H0 a b ds s c H' → D.rt (.int r) H') :
    tDrawA K rInt1 rInt1 D [some (.ref a), some (.int n), x2] H := by
  unfold tDrawA tSeq tWhile
  refine ⟨fun m σ H => σ = [some (.ref a), some (.int n), x2] ∧ ∃ ds s c, m = ds.length ∧ Pz H0 a b ds s c H, ⟨_, rfl, ds, s, c, rfl, z⟩, ?_⟩
  clear z
  rintro m σ H ⟨rfl, ds, s, c, rfl, z⟩
  unfold tAnd
  refine some_ok rfl z fun H1 z1 => ?_
  by_cases e : ds = []
  · subst e
    exact drawR_ok hn0 hn q z1
  · have e' : (!ds.isEmpty) = true := by
      cases ds with
      | nil => exact absurd rfl e
      | cons d ds => rfl
    rw [if_pos e']
    refine last_ok rfl z1 e fun k => ?_
    cases k with
    | false => exact drawR_ok hn0 hn q z1
    | true =>
      rw [if_pos rfl]
      refine ⟨fun σ H => σ = [some (.ref a), some (.int n), x2] ∧ ∃ ds' s c, ds'.length < ds.length ∧ Pz H0 a b ds' s c H, fun σ' H' ⟨h1, ds', s', c', h2, h3⟩ => ⟨_, h2, h1, ds', s', c', rfl, h3⟩, ?_⟩
      refine pop_ok rfl z1 e fun es x H2 e3 z2 => ⟨rfl, es, s, c, ?_, z2⟩
      rw [e3, List.length_append]
      exact Nat.lt_succ_self _
/-- the def's promise out of its walk -/
theorem drawA_sp {vs : List V} {H : Hp} {Q : VK} {E : XK} {nx bk ct : St → Hp → Prop} (h : spD tokA K 2 cDraw vs H Q E) : tDrawA K rInt1 rInt1 ⟨nx, Q, bk, ct⟩ (start ["heap", "many", "rest"] vs) H := by
  obtain ⟨hl, O, T, xs, hd, ht, rl, Qd, q, ret⟩ := h
  unfold cDraw at q
  split at q
  · rename_i a b n
    obtain ⟨⟨n0, n1⟩, q⟩ := q
    obtain ⟨v, r, rfl, hv, hr⟩ := rl
    obtain ⟨w, r', rfl, hw, hr'⟩ := hr
    obtain rfl : r' = [] := hr'
    obtain ⟨rfl, hab⟩ := hv
    obtain rfl : w = .int n := hw
    obtain ⟨oa, ob, ds, s, c, h1, h2, h3⟩ := ht _ hab
    refine drawA_ok (a := a) (b := b) (H0 := H) (ds := ds) (s := s) (c := c) (x2 := none) n0 n1 ⟨fun _ _ _ _ e => e, h1, h2, h3⟩ fun r ds s c H' r0 r1 z => ?_
    exact ret (.int r) _ H' (q r r0 r1) (z.sh.ret hd ht hab rfl rfl)
  · exact q.elim
end
/-- a def whose contract nothing meets -/
theorem DFn.never {tk : Tk} {P : Program} {w : World} {K : PySem.W.Frag} {mg : Str → Option Value} {base : Heap} {x qual : Str} {st : Stmt} {dvs : List V} {f : Addr} {fd : FuncData} {n : Nat} {ps : List Str} {c : DSp} (F : FnT K mg x qual st dvs f fd) (hn : ps.length = n) (hc : ∀ xs Q, ¬ c xs Q) : DFn tk P w K mg base x 0 n ps f fd c := by
  refine ⟨F.at_, F.fn.kp, ⟨fun vs H Q E h => ?_, fun A outer s H args us vs Q E _ _ _ _ h => ?_⟩, hn⟩
  · obtain ⟨_, O, T, xs, _, _, _, Qd, q, _⟩ := h
    exact (hc _ _ q).elim
  · obtain ⟨_, O, T, xs, _, _, _, Qd, q, _⟩ := h
    exact (hc _ _ q).elim
/-- plain data, as deep as j -/
def plainD : Nat → D → Bool
  | 0, _ => false
  | _ + 1, .non => true
  | _ + 1, .bl _ => true
  | _ + 1, .int _ => true
  | _ + 1, .str _ => true
  | j + 1, .tup xs => decide (xs.length < 1000) && xs.all (plainD j)
  | _ + 1, _ => false
/-- _law_like told the same thing twice -/
def c_like (j : Nat) (xs : List D) (Q : D → Prop) : Prop := match j with
  | 0 => False
  | j + 1 => ∃ x, xs = [x, x] ∧ plainD (j + 1) x = true ∧ Q (.bl true)
theorem ints_drop {α : Type} {β : Type} {f : α → β} (ns : List α) (n : Nat) : (ns.map f).take n = (ns.take n).map f := List.map_take.symm
theorem int_of_cut {ns : List Int} {lo hi : Option Int} : ∃ ms : List Int, cutD (ns.map D.int) lo hi = ms.map D.int ∧ ms.length ≤ ns.length := by
  unfold cutD
  refine ⟨(ns.drop (HT.sIx (ns.map D.int).length 0 lo)).take (HT.sIx (ns.map D.int).length (ns.map D.int).length hi - HT.sIx (ns.map D.int).length 0 lo), ?_, ?_⟩
  · rw [List.map_take, List.map_drop]
  · rw [List.length_take, List.length_drop]; omega
section
variable {tk : Tk} {X : Cx} {pos : Pos} {a : Expr} {ta : DTE}
theorem dt_isN {j pos'} (ha : DE tk X a ta) : DT tk X (.Compare a [.Is] [.Constant .none j pos'] pos) (dTest (dIsN ta)) := by
  refine pt_imp (pt_cmp (pc_isN ha) rfl) ?_
  rintro σ H k ⟨F, pn, d, Q, I, q, c⟩
  refine upE_at I q fun v H1 x d1 I1 q1 => ?_
  obtain ⟨O, T, I1⟩ := I1
  have r1 : Rep X.K O T H1 x v := I1.pe (v, .sh x) (by simp)
  exact ⟨_, rfl, by rw [r1.isN]; exact c _ H1 d1 ⟨O, T, I1.drop (by simp)⟩ q1⟩
theorem dt_notN {j pos'} (ha : DE tk X a ta) : DT tk X (.Compare a [.IsNot] [.Constant .none j pos'] pos) (dTest (dNotN ta)) := by
  refine pt_imp (pt_cmp (pc_notN ha) rfl) ?_
  rintro σ H k ⟨F, pn, d, Q, I, q, c⟩
  refine upE_at I q fun v H1 x d1 I1 q1 => ?_
  obtain ⟨O, T, I1⟩ := I1
  have r1 : Rep X.K O T H1 x v := I1.pe (v, .sh x) (by simp)
  exact ⟨_, rfl, by rw [r1.isN]; exact c _ H1 d1 ⟨O, T, I1.drop (by simp)⟩ q1⟩
end
theorem isa_NoneType_int : isaB "NoneType" "int" = some false := rfl
theorem isa_NoneType_bool : isaB "NoneType" "bool" = some false := rfl
theorem isa_NoneType_str : isaB "NoneType" "str" = some false := rfl
theorem isa_NoneType_tuple : isaB "NoneType" "tuple" = some false := rfl
theorem isa_NoneType_list : isaB "NoneType" "list" = some false := rfl
theorem isa_bool_int : isaB "bool" "int" = some true := rfl
theorem isa_bool_bool : isaB "bool" "bool" = some true := rfl
theorem isa_bool_str : isaB "bool" "str" = some false := rfl
theorem isa_bool_tuple : isaB "bool" "tuple" = some false := rfl
theorem isa_bool_list : isaB "bool" "list" = some false := rfl
theorem isa_int_int : isaB "int" "int" = some true := rfl
theorem isa_int_bool : isaB "int" "bool" = some false := rfl
theorem isa_int_str : isaB "int" "str" = some false := rfl
theorem isa_int_tuple : isaB "int" "tuple" = some false := rfl
theorem isa_int_list : isaB "int" "list" = some false := rfl
theorem isa_str_int : isaB "str" "int" = some false := rfl
theorem isa_str_bool : isaB "str" "bool" = some false := rfl
theorem isa_str_str : isaB "str" "str" = some true := rfl
theorem isa_str_tuple : isaB "str" "tuple" = some false := rfl
theorem isa_str_list : isaB "str" "list" = some false := rfl
theorem isa_tuple_int : isaB "tuple" "int" = some false := rfl
theorem isa_tuple_bool : isaB "tuple" "bool" = some false := rfl
theorem isa_tuple_str : isaB "tuple" "str" = some false := rfl
theorem isa_tuple_tuple : isaB "tuple" "tuple" = some true := rfl
theorem isa_tuple_list : isaB "tuple" "list" = some false := rfl
theorem isa_list_int : isaB "list" "int" = some false := rfl
theorem isa_list_bool : isaB "list" "bool" = some false := rfl
theorem isa_list_str : isaB "list" "str" = some false := rfl
theorem isa_list_tuple : isaB "list" "tuple" = some false := rfl
theorem isa_list_list : isaB "list" "list" = some true := rfl
theorem itT {X Y : Prop} : (if true = true then X else Y) = X := rfl
theorem itF {X Y : Prop} : (if false = true then X else Y) = Y := rfl
theorem like_ok {j : Nat} {x : D} {Q : D → Prop} (h : plainD (j + 1) x = true) (q : Q (.bl true)) : c_like (j + 1) [x, x] Q := ⟨x, rfl, h, q⟩
theorem itNT {X Y : Prop} : (if (!true) = true then X else Y) = Y := rfl
theorem itNF {X Y : Prop} : (if (!false) = true then X else Y) = X := rfl
end DL
set_option Elab.async false
set_option linter.all false
set_option maxRecDepth 100000
set_option maxHeartbeats 4000000
namespace My
open PySem L2 DL
def top (i : Nat) : Stmt := PySem.Challenge.pw_allapart_k30_whole_counts_of_one_story.main.body.getD i (.Pass ⟨0, 0, 0, 0⟩)
abbrev s_taken_slack : Stmt := top 3
abbrev s_shown_slack : Stmt := top 4
abbrev s_kinds_of : Stmt := top 5
abbrev s_least_shown : Stmt := top 6
abbrev s_least_untrue : Stmt := top 7
abbrev s_is_integer : Stmt := top 12
abbrev s_is_number : Stmt := top 13
abbrev s__law_heap : Stmt := top 18
abbrev s__law_draw : Stmt := top 19
abbrev s__law_pick : Stmt := top 20
abbrev s__law_like : Stmt := top 21
abbrev s__law_both : Stmt := top 22
abbrev s__law_kinds : Stmt := top 23
abbrev s_law : Stmt := top 24
abbrev s_Numbers___init__ : Stmt := inClass (top 16) 0
structure Adr where
  f_taken_slack : Addr
  d_taken_slack : FuncData
  f_shown_slack : Addr
  d_shown_slack : FuncData
  f_kinds_of : Addr
  d_kinds_of : FuncData
  f_least_shown : Addr
  d_least_shown : FuncData
  f_least_untrue : Addr
  d_least_untrue : FuncData
  f_is_integer : Addr
  d_is_integer : FuncData
  f_is_number : Addr
  d_is_number : FuncData
  f__law_heap : Addr
  d__law_heap : FuncData
  f__law_draw : Addr
  d__law_draw : FuncData
  f__law_pick : Addr
  d__law_pick : FuncData
  f__law_like : Addr
  d__law_like : FuncData
  f__law_both : Addr
  d__law_both : FuncData
  f__law_kinds : Addr
  d__law_kinds : FuncData
  f_law : Addr
  d_law : FuncData
  C_Numbers : Addr
  f_Numbers : Addr
  d_Numbers : FuncData
structure Txt (K : PySem.W.Frag) (mg : Str → Option Value) (A : Adr) : Prop where
  f_taken_slack : FnT K mg "taken_slack" "taken_slack" s_taken_slack [] A.f_taken_slack A.d_taken_slack
  f_shown_slack : FnT K mg "shown_slack" "shown_slack" s_shown_slack [] A.f_shown_slack A.d_shown_slack
  f_kinds_of : FnT K mg "kinds_of" "kinds_of" s_kinds_of [] A.f_kinds_of A.d_kinds_of
  f_least_shown : FnT K mg "least_shown" "least_shown" s_least_shown [] A.f_least_shown A.d_least_shown
  f_least_untrue : FnT K mg "least_untrue" "least_untrue" s_least_untrue [] A.f_least_untrue A.d_least_untrue
  f_is_integer : FnT K mg "is_integer" "is_integer" s_is_integer [] A.f_is_integer A.d_is_integer
  f_is_number : FnT K mg "is_number" "is_number" s_is_number [V.non] A.f_is_number A.d_is_number
  f__law_heap : FnT K mg "_law_heap" "_law_heap" s__law_heap [] A.f__law_heap A.d__law_heap
  f__law_draw : FnT K mg "_law_draw" "_law_draw" s__law_draw [] A.f__law_draw A.d__law_draw
  f__law_pick : FnT K mg "_law_pick" "_law_pick" s__law_pick [] A.f__law_pick A.d__law_pick
  f__law_like : FnT K mg "_law_like" "_law_like" s__law_like [] A.f__law_like A.d__law_like
  f__law_both : FnT K mg "_law_both" "_law_both" s__law_both [] A.f__law_both A.d__law_both
  f__law_kinds : FnT K mg "_law_kinds" "_law_kinds" s__law_kinds [] A.f__law_kinds A.d__law_kinds
  f_law : FnT K mg "law" "law" s_law [] A.f_law A.d_law
  c_Numbers : ClT K mg "Numbers" "Numbers.__init__" s_Numbers___init__ [] A.C_Numbers A.f_Numbers A.d_Numbers
  a_Numbers_k : PySem.W.findIn K (.ref A.C_Numbers) "k" = some none
  a_Numbers_s : PySem.W.findIn K (.ref A.C_Numbers) "s" = some none
  a_Numbers_u : PySem.W.findIn K (.ref A.C_Numbers) "u" = some none
  a_Numbers_w1 : PySem.W.findIn K (.ref A.C_Numbers) "w1" = some none
  a_Numbers_w2 : PySem.W.findIn K (.ref A.C_Numbers) "w2" = some none
  a_Numbers_c : PySem.W.findIn K (.ref A.C_Numbers) "c" = some none
  a_Numbers_h : PySem.W.findIn K (.ref A.C_Numbers) "h" = some none
  n_abs : mg "abs" = none
  n_all : mg "all" = none
  n_bool : mg "bool" = none
  n_enumerate : mg "enumerate" = none
  n_int : mg "int" = none
  n_isinstance : mg "isinstance" = none
  n_len : mg "len" = none
  n_max : mg "max" = none
  n_min : mg "min" = none
  n_range : mg "range" = none
  n_str : mg "str" = none
  n_tuple : mg "tuple" = none
  g_PAPERS : ∃ t, mg "PAPERS" = some (.str "papers" t)
  g_UNSEEN : ∃ t, mg "UNSEEN" = some (.str "unseen" t)
  g_MOST_COPIES : ∃ t, mg "MOST_COPIES" = some (.int 12 t)

abbrev tk : Tk := tokA
section
variable {P : Program} {w : World} {K : PySem.W.Frag} {mg : Str → Option Value} {base : Heap} {A : Adr}

def isIntB : D → Bool
  | .int _ => true
  | _ => false
def c_is_integer : DSp := fun xs Q => match xs with
  | [x] => (tyn x).isSome = true ∧ Q (.bl (isIntB x))
  | _ => False
theorem sc_is_integer : FnScope ["value"] ["value"] (defScope s_is_integer) := ⟨rfl, rfl, rfl, by decide +kernel, rfl, by decide +kernel, by decide +kernel⟩
set_option maxHeartbeats 16000000 in
theorem ok_is_integer (T : Txt K mg A) : DFn tk P w K mg base "is_integer" 1 1 ["value"] A.f_is_integer A.d_is_integer c_is_integer := by
  have sc := sc_is_integer
  refine DFn.of T.f_is_integer sc rfl (fun cdv B outer s H E hr =>
    (dss_one (ds_ret (de_and (de_isi (ty := "int") rfl T.n_isinstance (de_nm (pv 0)) rfl T.n_int (by decide +kernel)) (de_one (de_not (de_isi (ty := "bool") rfl T.n_isinstance (de_nm (pv 0)) rfl T.n_bool (by decide +kernel)))))))) ?_

  intro xs Q hl h
  match xs, hl with
  | [x], _ =>
    obtain ⟨h0, h⟩ := h
    cases x <;> first | (dsimp only [sSeq, dLc, sRet, sRetN, sIf, sDrop, sSet, sSetF, sAug, sAsg, sPar, sPar3, sFldI, sSetIx, sBreak, sCont, sNext, gNm, gTp, gsCons, gsNil, fSub, fDiv, fMod, fPow, fLt, fLe, fGt, fGe, fEq, fNe, cAbs, cMax, cMin, dVar, dC, dOp, dOpv, dPk, dTest, dAnd, dOr, dNot, dAndV, dOrV, dNotV, dIf, dIsN, dNotN, isNon, fIsB, fI, fI0, fAdd, fMul, fEqG, fIx, dNil, dCons, dTup, dLst, dLstF, dSh, dCB, dCBv, cI1, cI2, cInt, cLen, cTuple, cList, cAll, cAny, cSum, dIsi, dIsi2, isa, tyn, isa_NoneType_int, isa_NoneType_bool, isa_NoneType_str, isa_NoneType_tuple, isa_NoneType_list, isa_bool_int, isa_bool_bool, isa_bool_str, isa_bool_tuple, isa_bool_list, isa_int_int, isa_int_bool, isa_int_str, isa_int_tuple, isa_int_list, isa_str_int, isa_str_bool, isa_str_str, isa_str_tuple, isa_str_list, isa_tuple_int, isa_tuple_bool, isa_tuple_str, isa_tuple_tuple, isa_tuple_list, isa_list_int, isa_list_bool, isa_list_str, isa_list_tuple, isa_list_list, itT, itF, itNT, itNF, id, dFld, dFldI, dNoPart, dPart, dSl, dRevL, dNeg, dCall, dMake, isOw, dApp, dPop0, dPopAt, vNil, vCons, vConsF, srcE, srcR1, srcR2, srcEnum, dYes, lcTurn, cNm, cTp, setAllD, wipeD, startD, dChain, SV.data, enumD, List.map_cons, List.map_nil, List.length_cons, List.length_nil, List.getElem?_cons_zero, List.getElem?_cons_succ, List.set_cons_zero, List.set_cons_succ, List.replicate_zero, List.replicate_succ, List.cons_append, List.nil_append, Nat.reduceAdd, Nat.reduceSub, Nat.zero_add, Option.isSome_some, Option.isSome_none, Bool.not_true, Bool.not_false, Option.bind_some]; exact h) | cases h0
theorem b_is_integer (T : Txt K mg A) : Binds K A.d_is_integer ["value"] [] := T.f_is_integer.fn.bindsN (ps := ["value"]) fun _ _ _ _ _ _ us hl => match us, hl with | [_], _ => rfl


def isNumB : D → D → Bool
  | .int i, .int k => decide (0 ≤ i ∧ i ≤ k)
  | .int i, .non => decide (0 ≤ i)
  | _, _ => false
def c_is_number : DSp := fun xs Q => match xs with
  | [x, .int k] => (tyn x).isSome = true ∧ Q (.bl (isNumB x (.int k)))
  | [x, .non] => (tyn x).isSome = true ∧ Q (.bl (isNumB x .non))
  | _ => False
theorem sc_is_number : FnScope ["value", "most"] ["value", "most"] (defScope s_is_number) := ⟨rfl, rfl, rfl, by decide +kernel, rfl, by decide +kernel, by decide +kernel⟩
set_option maxHeartbeats 16000000 in
theorem ok_is_number (T : Txt K mg A) : DFn tk P w K mg base "is_number" 2 2 ["value", "most"] A.f_is_number A.d_is_number c_is_number := by
  have sc := sc_is_number
  refine DFn.of T.f_is_number sc rfl (fun cdv B outer s H E hr =>
    (dss_one (ds_ret (de_and (de_fn (ok_is_integer T) (b_is_integer T) (hr.mono (by decide)) (da_cons (de_nm (pv 0)) da_nil)) (de_and (de_cmpv op_ge opd_ge (pv 0) de_int (nomark _)) (de_one (de_or (de_isN (de_nm (pv 1))) (de_one (de_cmpv op_le opd_le (pv 0) (de_nm (pv 1)) (nomark _)))))))))) ?_

  intro xs Q hl h
  match xs, hl with
  | [x, y], _ =>
    cases y with
    | int k =>
      obtain ⟨h0, h⟩ := h
      cases x with
      | int i =>
        rw [show startD ["value", "most"] (List.map SV.sh [.int i, .int k]) = ([some (.sh (.int i)), some (.sh (.int k))] : DS) from rfl]
        dsimp only [sSeq, dLc, sRet, sRetN, sIf, sDrop, sSet, sSetF, sAug, sAsg, sPar, sPar3, sFldI, sSetIx, sBreak, sCont, sNext, gNm, gTp, gsCons, gsNil, fSub, fDiv, fMod, fPow, fLt, fLe, fGt, fGe, fEq, fNe, cAbs, cMax, cMin, dVar, dC, dOp, dOpv, dPk, dTest, dAnd, dOr, dNot, dAndV, dOrV, dNotV, dIf, dIsN, dNotN, isNon, fIsB, fI, fI0, fAdd, fMul, fEqG, fIx, dNil, dCons, dTup, dLst, dLstF, dSh, dCB, dCBv, cI1, cI2, cInt, cLen, cTuple, cList, cAll, cAny, cSum, dIsi, dIsi2, isa, tyn, isa_NoneType_int, isa_NoneType_bool, isa_NoneType_str, isa_NoneType_tuple, isa_NoneType_list, isa_bool_int, isa_bool_bool, isa_bool_str, isa_bool_tuple, isa_bool_list, isa_int_int, isa_int_bool, isa_int_str, isa_int_tuple, isa_int_list, isa_str_int, isa_str_bool, isa_str_str, isa_str_tuple, isa_str_list, isa_tuple_int, isa_tuple_bool, isa_tuple_str, isa_tuple_tuple, isa_tuple_list, isa_list_int, isa_list_bool, isa_list_str, isa_list_tuple, isa_list_list, itT, itF, itNT, itNF, id, dFld, dFldI, dNoPart, dPart, dSl, dRevL, dNeg, dCall, dMake, isOw, dApp, dPop0, dPopAt, vNil, vCons, vConsF, srcE, srcR1, srcR2, srcEnum, dYes, lcTurn, cNm, cTp, setAllD, wipeD, startD, dChain, SV.data, enumD, List.map_cons, List.map_nil, List.length_cons, List.length_nil, List.getElem?_cons_zero, List.getElem?_cons_succ, List.set_cons_zero, List.set_cons_succ, List.replicate_zero, List.replicate_succ, List.cons_append, List.nil_append, Nat.reduceAdd, Nat.reduceSub, Nat.zero_add, Option.isSome_some, Option.isSome_none, Bool.not_true, Bool.not_false, Option.bind_some, c_is_integer, isIntB]
        refine ⟨rfl, rfl, ?_⟩
        by_cases h1 : 0 ≤ i
        · simp only [reduceIte, Bool.false_eq_true, if_false, if_true, true_and, and_true, List.append_nil, Bool.not_true, Bool.not_false, decide_true, decide_false, Option.isSome_some, Option.isSome_none, h1]
          refine bl_eq h ?_
          simp only [isNumB, h1, true_and]
        · simp only [reduceIte, Bool.false_eq_true, if_false, if_true, true_and, and_true, List.append_nil, Bool.not_true, Bool.not_false, decide_true, decide_false, Option.isSome_some, Option.isSome_none, h1]
          refine bl_eq h ?_
          simp only [isNumB, h1, false_and, decide_false]
      | _ => first | exact ⟨rfl, rfl, h⟩ | cases h0
    | non =>
      obtain ⟨h0, h⟩ := h
      cases x with
      | int i =>
        rw [show startD ["value", "most"] (List.map SV.sh [.int i, .non]) = ([some (.sh (.int i)), some (.sh (.non))] : DS) from rfl]
        dsimp only [sSeq, dLc, sRet, sRetN, sIf, sDrop, sSet, sSetF, sAug, sAsg, sPar, sPar3, sFldI, sSetIx, sBreak, sCont, sNext, gNm, gTp, gsCons, gsNil, fSub, fDiv, fMod, fPow, fLt, fLe, fGt, fGe, fEq, fNe, cAbs, cMax, cMin, dVar, dC, dOp, dOpv, dPk, dTest, dAnd, dOr, dNot, dAndV, dOrV, dNotV, dIf, dIsN, dNotN, isNon, fIsB, fI, fI0, fAdd, fMul, fEqG, fIx, dNil, dCons, dTup, dLst, dLstF, dSh, dCB, dCBv, cI1, cI2, cInt, cLen, cTuple, cList, cAll, cAny, cSum, dIsi, dIsi2, isa, tyn, isa_NoneType_int, isa_NoneType_bool, isa_NoneType_str, isa_NoneType_tuple, isa_NoneType_list, isa_bool_int, isa_bool_bool, isa_bool_str, isa_bool_tuple, isa_bool_list, isa_int_int, isa_int_bool, isa_int_str, isa_int_tuple, isa_int_list, isa_str_int, isa_str_bool, isa_str_str, isa_str_tuple, isa_str_list, isa_tuple_int, isa_tuple_bool, isa_tuple_str, isa_tuple_tuple, isa_tuple_list, isa_list_int, isa_list_bool, isa_list_str, isa_list_tuple, isa_list_list, itT, itF, itNT, itNF, id, dFld, dFldI, dNoPart, dPart, dSl, dRevL, dNeg, dCall, dMake, isOw, dApp, dPop0, dPopAt, vNil, vCons, vConsF, srcE, srcR1, srcR2, srcEnum, dYes, lcTurn, cNm, cTp, setAllD, wipeD, startD, dChain, SV.data, enumD, List.map_cons, List.map_nil, List.length_cons, List.length_nil, List.getElem?_cons_zero, List.getElem?_cons_succ, List.set_cons_zero, List.set_cons_succ, List.replicate_zero, List.replicate_succ, List.cons_append, List.nil_append, Nat.reduceAdd, Nat.reduceSub, Nat.zero_add, Option.isSome_some, Option.isSome_none, Bool.not_true, Bool.not_false, Option.bind_some, c_is_integer, isIntB]
        refine ⟨rfl, rfl, ?_⟩
        by_cases h1 : 0 ≤ i
        · simp only [reduceIte, Bool.false_eq_true, if_false, if_true, true_and, and_true, List.append_nil, Bool.not_true, Bool.not_false, decide_true, decide_false, Option.isSome_some, Option.isSome_none, h1]
          refine bl_eq h ?_
          simp only [isNumB, h1, decide_true]
        · simp only [reduceIte, Bool.false_eq_true, if_false, if_true, true_and, and_true, List.append_nil, Bool.not_true, Bool.not_false, decide_true, decide_false, Option.isSome_some, Option.isSome_none, h1]
          refine bl_eq h ?_
          simp only [isNumB, h1, decide_false]
      | _ => first | exact ⟨rfl, rfl, h⟩ | cases h0
    | _ => exact False.elim h
theorem b_is_number (T : Txt K mg A) : Binds K A.d_is_number ["value", "most"] [] := bindsAll T.f_is_number.fn (ps := ["value", "most"]) (n := 2) (j := 1) (by decide) rfl rfl fun _ _ _ _ _ _ _ us its hl hi => match us, its, hl, hi with | [_, _], [_], _, _ => ⟨_, rfl, rfl⟩
theorem b1_is_number (T : Txt K mg A) : ∃ ds, Vals ([V.non] : List V) ds ∧ Binds K A.d_is_number ["value", "most"] ds := T.f_is_number.fn.binds1 (ps := ["value", "most"]) 1 0 (by decide) rfl fun _ _ _ _ _ _ _ us its hl hi => match us, its, hl, hi with | [_], [_], _, _ => ⟨_, rfl, rfl⟩


def numF (k s u w1 w2 c h : Int) : List (Str × D) := [("k", .int k), ("s", .int s), ("u", .int u), ("w1", .int w1), ("w2", .int w2), ("c", .int c), ("h", .int h)]
def NumOk (k s u w1 w2 c h : Int) : Prop := 2 ≤ k ∧ k ≤ 12 ∧ 0 ≤ s ∧ s < k ∧ 0 ≤ u ∧ u < k ∧ 1 ≤ w1 ∧ w1 ≤ k ∧ 1 ≤ w2 ∧ w2 ≤ k ∧ 1 ≤ c ∧ c ≤ k ∧ 1 ≤ h ∧ h ≤ k
def c_Numbers : DMk := fun xs Q => match xs with
  | [.int k, .int s, .int u, .int w1, .int w2, .int c, .int h] => NumOk k s u w1 w2 c h ∧ Q (numF k s u w1 w2 c h)
  | _ => False
theorem sc_Numbers : FnScope ["self", "k", "s", "u", "w1", "w2", "c", "h", "at", "many"] ["self", "k", "s", "u", "w1", "w2", "c", "h"] (defScope s_Numbers___init__) := ⟨rfl, rfl, rfl, by decide +kernel, rfl, by decide +kernel, by decide +kernel⟩
set_option maxHeartbeats 16000000 in
theorem ok_Numbers (T : Txt K mg A) : DCl tk P w K mg base "Numbers" 3 7 ["self", "k", "s", "u", "w1", "w2", "c", "h"] A.C_Numbers A.f_Numbers A.d_Numbers c_Numbers := by
  have sc := sc_Numbers
  refine DCl.of T.c_Numbers sc rfl (fun cdv B outer s H E hr =>
    (dss_cons (ds_if (dt_w (dw_or (dt_not (dt_val (de_fn (ok_is_number T) (b_is_number T) (hr.mono (by decide)) (da_cons (de_nm (pv 1)) (da_cons (de_glob (y := .int 12) (v := .int 12) rfl T.g_MOST_COPIES.choose_spec ⟨_, rfl⟩ rfl) da_nil))))) (dw_or1 (dt_cmpv op_lt opd_lt (pv 1) de_int (nomark _)))))
      (dss_one ds_never)
      dss_nil)
    (dss_cons (ds_if (dt_not (dt_val (de_fn (ok_is_number T) (b_is_number T) (hr.mono (by decide)) (da_cons (de_nm (pv 2)) (da_cons (de_op op_sub opd_sub (de_nm (pv 1)) de_int) da_nil)))))
      (dss_one ds_never)
      dss_nil)
    (dss_cons (ds_if (dt_not (dt_val (de_fn (ok_is_number T) (b_is_number T) (hr.mono (by decide)) (da_cons (de_nm (pv 3)) (da_cons (de_op op_sub opd_sub (de_nm (pv 1)) de_int) da_nil)))))
      (dss_one ds_never)
      dss_nil)
    (dss_cons (ds_for PassesOwn.never rfl (sr_enum rfl T.n_enumerate (de_tup (da_cons (de_nm (pv 4)) (da_cons (de_nm (pv 5)) (da_cons (de_nm (pv 6)) (da_cons (de_nm (pv 7)) da_nil)))))) (dg_tup rfl (dgs_cons (dg_name (i := 8) sc.nd rfl (by first | exact Or.inl rfl | exact Or.inr rfl)) (dgs_cons (dg_name (i := 9) sc.nd rfl (by first | exact Or.inl rfl | exact Or.inr rfl)) dgs_nil)) (GL.len (gl_cons gt_nm (gl_cons gt_nm gl_nil))))
      (dss_one (ds_if (dt_w (dw_or (dt_not (dt_val (de_fn (ok_is_number T) (b_is_number T) (hr.mono (by decide)) (da_cons (de_nm (pv 9)) (da_cons (de_nm (pv 1)) da_nil))))) (dw_or1 (dt_cmpv (op_eqAll hr.units) opd_eq (pv 9) de_int (nomark _)))))
        (dss_one ds_never)
        dss_nil)))
    (dss_cons (ds_fldI K (pv 0) (de_nm (pv 1)))
    (dss_cons (ds_fldI K (pv 0) (de_nm (pv 2)))
    (dss_cons (ds_fldI K (pv 0) (de_nm (pv 3)))
    (dss_cons (ds_fldI K (pv 0) (de_nm (pv 4)))
    (dss_cons (ds_fldI K (pv 0) (de_nm (pv 5)))
    (dss_cons (ds_fldI K (pv 0) (de_nm (pv 6)))
    (dss_one (ds_fldI K (pv 0) (de_nm (pv 7))))))))))))))) ?_

  intro y xs Q hl h
  unfold c_Numbers at h
  split at h
  · rename_i k s u w1 w2 c hh
    obtain ⟨⟨h1, h2, h3, h4, h5, h6, h7, h8, h9, h10, h11, h12, h13, h14⟩, q⟩ := h
    rw [show startD ["self", "k", "s", "u", "w1", "w2", "c", "h", "at", "many"] (SV.ob y A.C_Numbers [] :: List.map SV.sh [.int k, .int s, .int u, .int w1, .int w2, .int c, .int hh]) = ([some (.ob y A.C_Numbers []), some (.sh (.int k)), some (.sh (.int s)), some (.sh (.int u)), some (.sh (.int w1)), some (.sh (.int w2)), some (.sh (.int c)), some (.sh (.int hh)), none, none] : DS) from rfl]
    apply sq
    dsimp only [dLc, sRet, sRetN, sIf, sDrop, sSet, sSetF, sAug, sAsg, sPar, sPar3, sFldI, sSetIx, sBreak, sCont, sNext, gNm, gTp, gsCons, gsNil, fSub, fDiv, fMod, fPow, fLt, fLe, fGt, fGe, fEq, fNe, cAbs, cMax, cMin, dVar, dC, dOp, dOpv, dPk, dTest, dAnd, dOr, dNot, dAndV, dOrV, dNotV, dIf, dIsN, dNotN, isNon, fIsB, fI, fI0, fAdd, fMul, fEqG, fIx, dNil, dCons, dTup, dLst, dLstF, dSh, dCB, dCBv, cI1, cI2, cInt, cLen, cTuple, cList, cAll, cAny, cSum, dIsi, dIsi2, isa, tyn, isa_NoneType_int, isa_NoneType_bool, isa_NoneType_str, isa_NoneType_tuple, isa_NoneType_list, isa_bool_int, isa_bool_bool, isa_bool_str, isa_bool_tuple, isa_bool_list, isa_int_int, isa_int_bool, isa_int_str, isa_int_tuple, isa_int_list, isa_str_int, isa_str_bool, isa_str_str, isa_str_tuple, isa_str_list, isa_tuple_int, isa_tuple_bool, isa_tuple_str, isa_tuple_tuple, isa_tuple_list, isa_list_int, isa_list_bool, isa_list_str, isa_list_tuple, isa_list_list, itT, itF, itNT, itNF, id, dFld, dFldI, dNoPart, dPart, dSl, dRevL, dNeg, dCall, dMake, isOw, dApp, dPop0, dPopAt, vNil, vCons, vConsF, srcE, srcR1, srcR2, srcEnum, dYes, lcTurn, cNm, cTp, setAllD, wipeD, startD, dChain, SV.data, enumD, List.map_cons, List.map_nil, List.length_cons, List.length_nil, List.getElem?_cons_zero, List.getElem?_cons_succ, List.set_cons_zero, List.set_cons_succ, List.replicate_zero, List.replicate_succ, List.cons_append, List.nil_append, Nat.reduceAdd, Nat.reduceSub, Nat.zero_add, Option.isSome_some, Option.isSome_none, Bool.not_true, Bool.not_false, Option.bind_some, c_is_number, isNumB]
    refine ⟨rfl, rfl, ifF (by simp; omega) (ifF (by simp; omega) ?_)⟩
    apply sq
    dsimp only [dLc, sRet, sRetN, sIf, sDrop, sSet, sSetF, sAug, sAsg, sPar, sPar3, sFldI, sSetIx, sBreak, sCont, sNext, gNm, gTp, gsCons, gsNil, fSub, fDiv, fMod, fPow, fLt, fLe, fGt, fGe, fEq, fNe, cAbs, cMax, cMin, dVar, dC, dOp, dOpv, dPk, dTest, dAnd, dOr, dNot, dAndV, dOrV, dNotV, dIf, dIsN, dNotN, isNon, fIsB, fI, fI0, fAdd, fMul, fEqG, fIx, dNil, dCons, dTup, dLst, dLstF, dSh, dCB, dCBv, cI1, cI2, cInt, cLen, cTuple, cList, cAll, cAny, cSum, dIsi, dIsi2, isa, tyn, isa_NoneType_int, isa_NoneType_bool, isa_NoneType_str, isa_NoneType_tuple, isa_NoneType_list, isa_bool_int, isa_bool_bool, isa_bool_str, isa_bool_tuple, isa_bool_list, isa_int_int, isa_int_bool, isa_int_str, isa_int_tuple, isa_int_list, isa_str_int, isa_str_bool, isa_str_str, isa_str_tuple, isa_str_list, isa_tuple_int, isa_tuple_bool, isa_tuple_str, isa_tuple_tuple, isa_tuple_list, isa_list_int, isa_list_bool, isa_list_str, isa_list_tuple, isa_list_list, itT, itF, itNT, itNF, id, dFld, dFldI, dNoPart, dPart, dSl, dRevL, dNeg, dCall, dMake, isOw, dApp, dPop0, dPopAt, vNil, vCons, vConsF, srcE, srcR1, srcR2, srcEnum, dYes, lcTurn, cNm, cTp, setAllD, wipeD, startD, dChain, SV.data, enumD, List.map_cons, List.map_nil, List.length_cons, List.length_nil, List.getElem?_cons_zero, List.getElem?_cons_succ, List.set_cons_zero, List.set_cons_succ, List.replicate_zero, List.replicate_succ, List.cons_append, List.nil_append, Nat.reduceAdd, Nat.reduceSub, Nat.zero_add, Option.isSome_some, Option.isSome_none, Bool.not_true, Bool.not_false, Option.bind_some, c_is_number, isNumB]
    refine ⟨rfl, rfl, ifF (by simp; omega) ?_⟩
    apply sq
    dsimp only [dLc, sRet, sRetN, sIf, sDrop, sSet, sSetF, sAug, sAsg, sPar, sPar3, sFldI, sSetIx, sBreak, sCont, sNext, gNm, gTp, gsCons, gsNil, fSub, fDiv, fMod, fPow, fLt, fLe, fGt, fGe, fEq, fNe, cAbs, cMax, cMin, dVar, dC, dOp, dOpv, dPk, dTest, dAnd, dOr, dNot, dAndV, dOrV, dNotV, dIf, dIsN, dNotN, isNon, fIsB, fI, fI0, fAdd, fMul, fEqG, fIx, dNil, dCons, dTup, dLst, dLstF, dSh, dCB, dCBv, cI1, cI2, cInt, cLen, cTuple, cList, cAll, cAny, cSum, dIsi, dIsi2, isa, tyn, isa_NoneType_int, isa_NoneType_bool, isa_NoneType_str, isa_NoneType_tuple, isa_NoneType_list, isa_bool_int, isa_bool_bool, isa_bool_str, isa_bool_tuple, isa_bool_list, isa_int_int, isa_int_bool, isa_int_str, isa_int_tuple, isa_int_list, isa_str_int, isa_str_bool, isa_str_str, isa_str_tuple, isa_str_list, isa_tuple_int, isa_tuple_bool, isa_tuple_str, isa_tuple_tuple, isa_tuple_list, isa_list_int, isa_list_bool, isa_list_str, isa_list_tuple, isa_list_list, itT, itF, itNT, itNF, id, dFld, dFldI, dNoPart, dPart, dSl, dRevL, dNeg, dCall, dMake, isOw, dApp, dPop0, dPopAt, vNil, vCons, vConsF, srcE, srcR1, srcR2, srcEnum, dYes, lcTurn, cNm, cTp, setAllD, wipeD, startD, dChain, SV.data, enumD, List.map_cons, List.map_nil, List.length_cons, List.length_nil, List.getElem?_cons_zero, List.getElem?_cons_succ, List.set_cons_zero, List.set_cons_succ, List.replicate_zero, List.replicate_succ, List.cons_append, List.nil_append, Nat.reduceAdd, Nat.reduceSub, Nat.zero_add, Option.isSome_some, Option.isSome_none, Bool.not_true, Bool.not_false, Option.bind_some, c_is_number, isNumB]
    refine ⟨rfl, rfl, ifF (by simp; omega) ?_⟩
    apply sq
    unfold sFor
    dsimp only [dLc, sRet, sRetN, sIf, sDrop, sSet, sSetF, sAug, sAsg, sPar, sPar3, sFldI, sSetIx, sBreak, sCont, sNext, gNm, gTp, gsCons, gsNil, fSub, fDiv, fMod, fPow, fLt, fLe, fGt, fGe, fEq, fNe, cAbs, cMax, cMin, dVar, dC, dOp, dOpv, dPk, dTest, dAnd, dOr, dNot, dAndV, dOrV, dNotV, dIf, dIsN, dNotN, isNon, fIsB, fI, fI0, fAdd, fMul, fEqG, fIx, dNil, dCons, dTup, dLst, dLstF, dSh, dCB, dCBv, cI1, cI2, cInt, cLen, cTuple, cList, cAll, cAny, cSum, dIsi, dIsi2, isa, tyn, isa_NoneType_int, isa_NoneType_bool, isa_NoneType_str, isa_NoneType_tuple, isa_NoneType_list, isa_bool_int, isa_bool_bool, isa_bool_str, isa_bool_tuple, isa_bool_list, isa_int_int, isa_int_bool, isa_int_str, isa_int_tuple, isa_int_list, isa_str_int, isa_str_bool, isa_str_str, isa_str_tuple, isa_str_list, isa_tuple_int, isa_tuple_bool, isa_tuple_str, isa_tuple_tuple, isa_tuple_list, isa_list_int, isa_list_bool, isa_list_str, isa_list_tuple, isa_list_list, itT, itF, itNT, itNF, id, dFld, dFldI, dNoPart, dPart, dSl, dRevL, dNeg, dCall, dMake, isOw, dApp, dPop0, dPopAt, vNil, vCons, vConsF, srcE, srcR1, srcR2, srcEnum, dYes, lcTurn, cNm, cTp, setAllD, wipeD, startD, dChain, SV.data, enumD, List.map_cons, List.map_nil, List.length_cons, List.length_nil, List.getElem?_cons_zero, List.getElem?_cons_succ, List.set_cons_zero, List.set_cons_succ, List.replicate_zero, List.replicate_succ, List.cons_append, List.nil_append, Nat.reduceAdd, Nat.reduceSub, Nat.zero_add, Option.isSome_some, Option.isSome_none, Bool.not_true, Bool.not_false, Option.bind_some]
    refine ⟨by decide, fun n d => ∃ x8 x9, d = [some (.ob y A.C_Numbers []), some (.sh (.int k)), some (.sh (.int s)), some (.sh (.int u)), some (.sh (.int w1)), some (.sh (.int w2)), some (.sh (.int c)), some (.sh (.int hh)), x8, x9], ⟨none, none, rfl⟩, ?_, ?_⟩
    · rintro n z d hz ⟨x8, x9, rfl⟩
      have hm : ∃ m : Int, 1 ≤ m ∧ m ≤ k ∧ ∃ a : Int, z = .tup [.int a, .int m] := by
        match n, hz with
        | 0, hz => exact ⟨w1, h7, h8, _, (Option.some.inj hz).symm⟩
        | 1, hz => exact ⟨w2, h9, h10, _, (Option.some.inj hz).symm⟩
        | 2, hz => exact ⟨c, h11, h12, _, (Option.some.inj hz).symm⟩
        | 3, hz => exact ⟨hh, h13, h14, _, (Option.some.inj hz).symm⟩
      obtain ⟨m, m1, m2, a, rfl⟩ := hm
      dsimp only [dLc, sRet, sRetN, sIf, sDrop, sSet, sSetF, sAug, sAsg, sPar, sPar3, sFldI, sSetIx, sBreak, sCont, sNext, gNm, gTp, gsCons, gsNil, fSub, fDiv, fMod, fPow, fLt, fLe, fGt, fGe, fEq, fNe, cAbs, cMax, cMin, dVar, dC, dOp, dOpv, dPk, dTest, dAnd, dOr, dNot, dAndV, dOrV, dNotV, dIf, dIsN, dNotN, isNon, fIsB, fI, fI0, fAdd, fMul, fEqG, fIx, dNil, dCons, dTup, dLst, dLstF, dSh, dCB, dCBv, cI1, cI2, cInt, cLen, cTuple, cList, cAll, cAny, cSum, dIsi, dIsi2, isa, tyn, isa_NoneType_int, isa_NoneType_bool, isa_NoneType_str, isa_NoneType_tuple, isa_NoneType_list, isa_bool_int, isa_bool_bool, isa_bool_str, isa_bool_tuple, isa_bool_list, isa_int_int, isa_int_bool, isa_int_str, isa_int_tuple, isa_int_list, isa_str_int, isa_str_bool, isa_str_str, isa_str_tuple, isa_str_list, isa_tuple_int, isa_tuple_bool, isa_tuple_str, isa_tuple_tuple, isa_tuple_list, isa_list_int, isa_list_bool, isa_list_str, isa_list_tuple, isa_list_list, itT, itF, itNT, itNF, id, dFld, dFldI, dNoPart, dPart, dSl, dRevL, dNeg, dCall, dMake, isOw, dApp, dPop0, dPopAt, vNil, vCons, vConsF, srcE, srcR1, srcR2, srcEnum, dYes, lcTurn, cNm, cTp, setAllD, wipeD, startD, dChain, SV.data, enumD, List.map_cons, List.map_nil, List.length_cons, List.length_nil, List.getElem?_cons_zero, List.getElem?_cons_succ, List.set_cons_zero, List.set_cons_succ, List.replicate_zero, List.replicate_succ, List.cons_append, List.nil_append, Nat.reduceAdd, Nat.reduceSub, Nat.zero_add, Option.isSome_some, Option.isSome_none, Bool.not_true, Bool.not_false, Option.bind_some, c_is_number, isNumB]
      exact ⟨rfl, rfl, ifF (by simp; omega) (ifF (by simp; omega) ⟨_, _, rfl⟩)⟩
    · rintro d ⟨x8, x9, rfl⟩
      apply sq
      dsimp only [dLc, sRet, sRetN, sIf, sDrop, sSet, sSetF, sAug, sAsg, sPar, sPar3, sFldI, sSetIx, sBreak, sCont, sNext, gNm, gTp, gsCons, gsNil, fSub, fDiv, fMod, fPow, fLt, fLe, fGt, fGe, fEq, fNe, cAbs, cMax, cMin, dVar, dC, dOp, dOpv, dPk, dTest, dAnd, dOr, dNot, dAndV, dOrV, dNotV, dIf, dIsN, dNotN, isNon, fIsB, fI, fI0, fAdd, fMul, fEqG, fIx, dNil, dCons, dTup, dLst, dLstF, dSh, dCB, dCBv, cI1, cI2, cInt, cLen, cTuple, cList, cAll, cAny, cSum, dIsi, dIsi2, isa, tyn, isa_NoneType_int, isa_NoneType_bool, isa_NoneType_str, isa_NoneType_tuple, isa_NoneType_list, isa_bool_int, isa_bool_bool, isa_bool_str, isa_bool_tuple, isa_bool_list, isa_int_int, isa_int_bool, isa_int_str, isa_int_tuple, isa_int_list, isa_str_int, isa_str_bool, isa_str_str, isa_str_tuple, isa_str_list, isa_tuple_int, isa_tuple_bool, isa_tuple_str, isa_tuple_tuple, isa_tuple_list, isa_list_int, isa_list_bool, isa_list_str, isa_list_tuple, isa_list_list, itT, itF, itNT, itNF, id, dFld, dFldI, dNoPart, dPart, dSl, dRevL, dNeg, dCall, dMake, isOw, dApp, dPop0, dPopAt, vNil, vCons, vConsF, srcE, srcR1, srcR2, srcEnum, dYes, lcTurn, cNm, cTp, setAllD, wipeD, startD, dChain, SV.data, enumD, List.map_cons, List.map_nil, List.length_cons, List.length_nil, List.getElem?_cons_zero, List.getElem?_cons_succ, List.set_cons_zero, List.set_cons_succ, List.replicate_zero, List.replicate_succ, List.cons_append, List.nil_append, Nat.reduceAdd, Nat.reduceSub, Nat.zero_add, Option.isSome_some, Option.isSome_none, Bool.not_true, Bool.not_false, Option.bind_some]
      refine ⟨⟨T.c_Numbers.cl, T.a_Numbers_k⟩, Nat.le_of_ble_eq_true rfl, ?_⟩
      simp only [putD]; repeat rw [if_neg (by decide +kernel)]
      apply sq
      dsimp only [dLc, sRet, sRetN, sIf, sDrop, sSet, sSetF, sAug, sAsg, sPar, sPar3, sFldI, sSetIx, sBreak, sCont, sNext, gNm, gTp, gsCons, gsNil, fSub, fDiv, fMod, fPow, fLt, fLe, fGt, fGe, fEq, fNe, cAbs, cMax, cMin, dVar, dC, dOp, dOpv, dPk, dTest, dAnd, dOr, dNot, dAndV, dOrV, dNotV, dIf, dIsN, dNotN, isNon, fIsB, fI, fI0, fAdd, fMul, fEqG, fIx, dNil, dCons, dTup, dLst, dLstF, dSh, dCB, dCBv, cI1, cI2, cInt, cLen, cTuple, cList, cAll, cAny, cSum, dIsi, dIsi2, isa, tyn, isa_NoneType_int, isa_NoneType_bool, isa_NoneType_str, isa_NoneType_tuple, isa_NoneType_list, isa_bool_int, isa_bool_bool, isa_bool_str, isa_bool_tuple, isa_bool_list, isa_int_int, isa_int_bool, isa_int_str, isa_int_tuple, isa_int_list, isa_str_int, isa_str_bool, isa_str_str, isa_str_tuple, isa_str_list, isa_tuple_int, isa_tuple_bool, isa_tuple_str, isa_tuple_tuple, isa_tuple_list, isa_list_int, isa_list_bool, isa_list_str, isa_list_tuple, isa_list_list, itT, itF, itNT, itNF, id, dFld, dFldI, dNoPart, dPart, dSl, dRevL, dNeg, dCall, dMake, isOw, dApp, dPop0, dPopAt, vNil, vCons, vConsF, srcE, srcR1, srcR2, srcEnum, dYes, lcTurn, cNm, cTp, setAllD, wipeD, startD, dChain, SV.data, enumD, List.map_cons, List.map_nil, List.length_cons, List.length_nil, List.getElem?_cons_zero, List.getElem?_cons_succ, List.set_cons_zero, List.set_cons_succ, List.replicate_zero, List.replicate_succ, List.cons_append, List.nil_append, Nat.reduceAdd, Nat.reduceSub, Nat.zero_add, Option.isSome_some, Option.isSome_none, Bool.not_true, Bool.not_false, Option.bind_some]
      refine ⟨⟨T.c_Numbers.cl, T.a_Numbers_s⟩, Nat.le_of_ble_eq_true rfl, ?_⟩
      simp only [putD]; repeat rw [if_neg (by decide +kernel)]
      apply sq
      dsimp only [dLc, sRet, sRetN, sIf, sDrop, sSet, sSetF, sAug, sAsg, sPar, sPar3, sFldI, sSetIx, sBreak, sCont, sNext, gNm, gTp, gsCons, gsNil, fSub, fDiv, fMod, fPow, fLt, fLe, fGt, fGe, fEq, fNe, cAbs, cMax, cMin, dVar, dC, dOp, dOpv, dPk, dTest, dAnd, dOr, dNot, dAndV, dOrV, dNotV, dIf, dIsN, dNotN, isNon, fIsB, fI, fI0, fAdd, fMul, fEqG, fIx, dNil, dCons, dTup, dLst, dLstF, dSh, dCB, dCBv, cI1, cI2, cInt, cLen, cTuple, cList, cAll, cAny, cSum, dIsi, dIsi2, isa, tyn, isa_NoneType_int, isa_NoneType_bool, isa_NoneType_str, isa_NoneType_tuple, isa_NoneType_list, isa_bool_int, isa_bool_bool, isa_bool_str, isa_bool_tuple, isa_bool_list, isa_int_int, isa_int_bool, isa_int_str, isa_int_tuple, isa_int_list, isa_str_int, isa_str_bool, isa_str_str, isa_str_tuple, isa_str_list, isa_tuple_int, isa_tuple_bool, isa_tuple_str, isa_tuple_tuple, isa_tuple_list, isa_list_int, isa_list_bool, isa_list_str, isa_list_tuple, isa_list_list, itT, itF, itNT, itNF, id, dFld, dFldI, dNoPart, dPart, dSl, dRevL, dNeg, dCall, dMake, isOw, dApp, dPop0, dPopAt, vNil, vCons, vConsF, srcE, srcR1, srcR2, srcEnum, dYes, lcTurn, cNm, cTp, setAllD, wipeD, startD, dChain, SV.data, enumD, List.map_cons, List.map_nil, List.length_cons, List.length_nil, List.getElem?_cons_zero, List.getElem?_cons_succ, List.set_cons_zero, List.set_cons_succ, List.replicate_zero, List.replicate_succ, List.cons_append, List.nil_append, Nat.reduceAdd, Nat.reduceSub, Nat.zero_add, Option.isSome_some, Option.isSome_none, Bool.not_true, Bool.not_false, Option.bind_some]
      refine ⟨⟨T.c_Numbers.cl, T.a_Numbers_u⟩, Nat.le_of_ble_eq_true rfl, ?_⟩
      simp only [putD]; repeat rw [if_neg (by decide +kernel)]
      apply sq
      dsimp only [dLc, sRet, sRetN, sIf, sDrop, sSet, sSetF, sAug, sAsg, sPar, sPar3, sFldI, sSetIx, sBreak, sCont, sNext, gNm, gTp, gsCons, gsNil, fSub, fDiv, fMod, fPow, fLt, fLe, fGt, fGe, fEq, fNe, cAbs, cMax, cMin, dVar, dC, dOp, dOpv, dPk, dTest, dAnd, dOr, dNot, dAndV, dOrV, dNotV, dIf, dIsN, dNotN, isNon, fIsB, fI, fI0, fAdd, fMul, fEqG, fIx, dNil, dCons, dTup, dLst, dLstF, dSh, dCB, dCBv, cI1, cI2, cInt, cLen, cTuple, cList, cAll, cAny, cSum, dIsi, dIsi2, isa, tyn, isa_NoneType_int, isa_NoneType_bool, isa_NoneType_str, isa_NoneType_tuple, isa_NoneType_list, isa_bool_int, isa_bool_bool, isa_bool_str, isa_bool_tuple, isa_bool_list, isa_int_int, isa_int_bool, isa_int_str, isa_int_tuple, isa_int_list, isa_str_int, isa_str_bool, isa_str_str, isa_str_tuple, isa_str_list, isa_tuple_int, isa_tuple_bool, isa_tuple_str, isa_tuple_tuple, isa_tuple_list, isa_list_int, isa_list_bool, isa_list_str, isa_list_tuple, isa_list_list, itT, itF, itNT, itNF, id, dFld, dFldI, dNoPart, dPart, dSl, dRevL, dNeg, dCall, dMake, isOw, dApp, dPop0, dPopAt, vNil, vCons, vConsF, srcE, srcR1, srcR2, srcEnum, dYes, lcTurn, cNm, cTp, setAllD, wipeD, startD, dChain, SV.data, enumD, List.map_cons, List.map_nil, List.length_cons, List.length_nil, List.getElem?_cons_zero, List.getElem?_cons_succ, List.set_cons_zero, List.set_cons_succ, List.replicate_zero, List.replicate_succ, List.cons_append, List.nil_append, Nat.reduceAdd, Nat.reduceSub, Nat.zero_add, Option.isSome_some, Option.isSome_none, Bool.not_true, Bool.not_false, Option.bind_some]
      refine ⟨⟨T.c_Numbers.cl, T.a_Numbers_w1⟩, Nat.le_of_ble_eq_true rfl, ?_⟩
      simp only [putD]; repeat rw [if_neg (by decide +kernel)]
      apply sq
      dsimp only [dLc, sRet, sRetN, sIf, sDrop, sSet, sSetF, sAug, sAsg, sPar, sPar3, sFldI, sSetIx, sBreak, sCont, sNext, gNm, gTp, gsCons, gsNil, fSub, fDiv, fMod, fPow, fLt, fLe, fGt, fGe, fEq, fNe, cAbs, cMax, cMin, dVar, dC, dOp, dOpv, dPk, dTest, dAnd, dOr, dNot, dAndV, dOrV, dNotV, dIf, dIsN, dNotN, isNon, fIsB, fI, fI0, fAdd, fMul, fEqG, fIx, dNil, dCons, dTup, dLst, dLstF, dSh, dCB, dCBv, cI1, cI2, cInt, cLen, cTuple, cList, cAll, cAny, cSum, dIsi, dIsi2, isa, tyn, isa_NoneType_int, isa_NoneType_bool, isa_NoneType_str, isa_NoneType_tuple, isa_NoneType_list, isa_bool_int, isa_bool_bool, isa_bool_str, isa_bool_tuple, isa_bool_list, isa_int_int, isa_int_bool, isa_int_str, isa_int_tuple, isa_int_list, isa_str_int, isa_str_bool, isa_str_str, isa_str_tuple, isa_str_list, isa_tuple_int, isa_tuple_bool, isa_tuple_str, isa_tuple_tuple, isa_tuple_list, isa_list_int, isa_list_bool, isa_list_str, isa_list_tuple, isa_list_list, itT, itF, itNT, itNF, id, dFld, dFldI, dNoPart, dPart, dSl, dRevL, dNeg, dCall, dMake, isOw, dApp, dPop0, dPopAt, vNil, vCons, vConsF, srcE, srcR1, srcR2, srcEnum, dYes, lcTurn, cNm, cTp, setAllD, wipeD, startD, dChain, SV.data, enumD, List.map_cons, List.map_nil, List.length_cons, List.length_nil, List.getElem?_cons_zero, List.getElem?_cons_succ, List.set_cons_zero, List.set_cons_succ, List.replicate_zero, List.replicate_succ, List.cons_append, List.nil_append, Nat.reduceAdd, Nat.reduceSub, Nat.zero_add, Option.isSome_some, Option.isSome_none, Bool.not_true, Bool.not_false, Option.bind_some]
      refine ⟨⟨T.c_Numbers.cl, T.a_Numbers_w2⟩, Nat.le_of_ble_eq_true rfl, ?_⟩
      simp only [putD]; repeat rw [if_neg (by decide +kernel)]
      apply sq
      dsimp only [dLc, sRet, sRetN, sIf, sDrop, sSet, sSetF, sAug, sAsg, sPar, sPar3, sFldI, sSetIx, sBreak, sCont, sNext, gNm, gTp, gsCons, gsNil, fSub, fDiv, fMod, fPow, fLt, fLe, fGt, fGe, fEq, fNe, cAbs, cMax, cMin, dVar, dC, dOp, dOpv, dPk, dTest, dAnd, dOr, dNot, dAndV, dOrV, dNotV, dIf, dIsN, dNotN, isNon, fIsB, fI, fI0, fAdd, fMul, fEqG, fIx, dNil, dCons, dTup, dLst, dLstF, dSh, dCB, dCBv, cI1, cI2, cInt, cLen, cTuple, cList, cAll, cAny, cSum, dIsi, dIsi2, isa, tyn, isa_NoneType_int, isa_NoneType_bool, isa_NoneType_str, isa_NoneType_tuple, isa_NoneType_list, isa_bool_int, isa_bool_bool, isa_bool_str, isa_bool_tuple, isa_bool_list, isa_int_int, isa_int_bool, isa_int_str, isa_int_tuple, isa_int_list, isa_str_int, isa_str_bool, isa_str_str, isa_str_tuple, isa_str_list, isa_tuple_int, isa_tuple_bool, isa_tuple_str, isa_tuple_tuple, isa_tuple_list, isa_list_int, isa_list_bool, isa_list_str, isa_list_tuple, isa_list_list, itT, itF, itNT, itNF, id, dFld, dFldI, dNoPart, dPart, dSl, dRevL, dNeg, dCall, dMake, isOw, dApp, dPop0, dPopAt, vNil, vCons, vConsF, srcE, srcR1, srcR2, srcEnum, dYes, lcTurn, cNm, cTp, setAllD, wipeD, startD, dChain, SV.data, enumD, List.map_cons, List.map_nil, List.length_cons, List.length_nil, List.getElem?_cons_zero, List.getElem?_cons_succ, List.set_cons_zero, List.set_cons_succ, List.replicate_zero, List.replicate_succ, List.cons_append, List.nil_append, Nat.reduceAdd, Nat.reduceSub, Nat.zero_add, Option.isSome_some, Option.isSome_none, Bool.not_true, Bool.not_false, Option.bind_some]
      refine ⟨⟨T.c_Numbers.cl, T.a_Numbers_c⟩, Nat.le_of_ble_eq_true rfl, ?_⟩
      simp only [putD]; repeat rw [if_neg (by decide +kernel)]
      dsimp only [dLc, sRet, sRetN, sIf, sDrop, sSet, sSetF, sAug, sAsg, sPar, sPar3, sFldI, sSetIx, sBreak, sCont, sNext, gNm, gTp, gsCons, gsNil, fSub, fDiv, fMod, fPow, fLt, fLe, fGt, fGe, fEq, fNe, cAbs, cMax, cMin, dVar, dC, dOp, dOpv, dPk, dTest, dAnd, dOr, dNot, dAndV, dOrV, dNotV, dIf, dIsN, dNotN, isNon, fIsB, fI, fI0, fAdd, fMul, fEqG, fIx, dNil, dCons, dTup, dLst, dLstF, dSh, dCB, dCBv, cI1, cI2, cInt, cLen, cTuple, cList, cAll, cAny, cSum, dIsi, dIsi2, isa, tyn, isa_NoneType_int, isa_NoneType_bool, isa_NoneType_str, isa_NoneType_tuple, isa_NoneType_list, isa_bool_int, isa_bool_bool, isa_bool_str, isa_bool_tuple, isa_bool_list, isa_int_int, isa_int_bool, isa_int_str, isa_int_tuple, isa_int_list, isa_str_int, isa_str_bool, isa_str_str, isa_str_tuple, isa_str_list, isa_tuple_int, isa_tuple_bool, isa_tuple_str, isa_tuple_tuple, isa_tuple_list, isa_list_int, isa_list_bool, isa_list_str, isa_list_tuple, isa_list_list, itT, itF, itNT, itNF, id, dFld, dFldI, dNoPart, dPart, dSl, dRevL, dNeg, dCall, dMake, isOw, dApp, dPop0, dPopAt, vNil, vCons, vConsF, srcE, srcR1, srcR2, srcEnum, dYes, lcTurn, cNm, cTp, setAllD, wipeD, startD, dChain, SV.data, enumD, List.map_cons, List.map_nil, List.length_cons, List.length_nil, List.getElem?_cons_zero, List.getElem?_cons_succ, List.set_cons_zero, List.set_cons_succ, List.replicate_zero, List.replicate_succ, List.cons_append, List.nil_append, Nat.reduceAdd, Nat.reduceSub, Nat.zero_add, Option.isSome_some, Option.isSome_none, Bool.not_true, Bool.not_false, Option.bind_some]
      refine ⟨⟨T.c_Numbers.cl, T.a_Numbers_h⟩, Nat.le_of_ble_eq_true rfl, ?_⟩
      simp only [putD]; repeat rw [if_neg (by decide +kernel)]
      exact ⟨_, rfl, q⟩
  · exact h.elim
theorem b_Numbers (T : Txt K mg A) : Binds K A.d_Numbers ["self", "k", "s", "u", "w1", "w2", "c", "h"] [] := T.c_Numbers.fn.bindsN (ps := ["self", "k", "s", "u", "w1", "w2", "c", "h"]) fun _ _ _ _ _ _ us hl => match us, hl with | [_, _, _, _, _, _, _, _], _ => rfl


def c__law_heap : DSp := fun xs Q => ∃ ns : List Int, xs = [.frz (ns.map D.int)] ∧ ns.length ≤ 63 ∧ ∀ a b, Q (.tok a b)
theorem sc__law_heap : FnScope ["script", "cells", "stir", "cell"] ["script"] (defScope s__law_heap) := ⟨rfl, rfl, rfl, by decide +kernel, rfl, by decide +kernel, by decide +kernel⟩
set_option maxHeartbeats 16000000 in
theorem ok__law_heap (T : Txt K mg A) : DFn tk P w K mg base "_law_heap" 1 1 ["script"] A.f__law_heap A.d__law_heap c__law_heap := by
  have sc := sc__law_heap
  refine DFn.of T.f__law_heap sc rfl (fun cdv B outer s H E hr =>
    (dss_cons (ds_par (i := 1) (j := 2) rfl sc.nd rfl rfl (by decide) rfl rfl (dv_consF (df_lc (own := [("cell", 3)]) (vs := [3]) rfl rfl sc.nd (sr_e (de_slice (de_nm (pv 0)) do_none (do_some de_int))) (blkOk_by (own := [("cell", 3)]) (N := ["script", "cells", "stir", "cell"]) (sc := defScope s__law_heap) (by decide +kernel)) (gok_nm (i := 3) (by decide)) (fun _ _ _ _ _ => pg_name (i := 3) sc.nd rfl (Or.inl rfl)) (fun _ _ _ _ _ => dts_nil) (fun _ _ _ _ _ => (de_op op_mod opd_mod (de_callTy call_int1 calld_int rfl T.n_int (by decide +kernel) (da_cons (de_op op_addAll opd_add (de_op op_mulAll opd_mul de_int (de_callB call_abs calld_abs rfl T.n_abs (by decide +kernel) (da_cons (de_nm (pv 3)) da_nil))) (de_callTy call_int1 calld_int rfl T.n_int (by decide +kernel) (da_cons (de_cmpv op_lt opd_lt (pv 3) de_int (nomark _)) da_nil))) da_nil)) (de_op op_pow opd_pow de_int de_int)))) (dv_cons de_int dv_nil)) (by rfl))
    (dss_cons (ds_for PassesOwn.never rfl (sr_e (de_nm (pv 1))) (dg_name (i := 3) sc.nd rfl (by first | exact Or.inl rfl | exact Or.inr rfl))
      (dss_one (ds_set (i := 2) sc.nd rfl (by first | exact Or.inl rfl | exact Or.inr rfl) (de_op op_mod opd_mod (de_callTy call_int1 calld_int rfl T.n_int (by decide +kernel) (da_cons (de_op op_addAll opd_add (de_op op_addAll opd_add (de_op op_mulAll opd_mul (de_nm (pv 2)) de_int) (de_op op_mod opd_mod (de_callTy call_int1 calld_int rfl T.n_int (by decide +kernel) (da_cons (de_nm (pv 3)) da_nil)) de_int)) de_int) da_nil)) de_int))))
    (dss_one (ds_ret (de_tokA (df_revL (de_fr (df_lc (own := [("cell", 3)]) (vs := [3]) rfl rfl sc.nd (sr_e (de_nm (pv 1))) (blkOk_by (own := [("cell", 3)]) (N := ["script", "cells", "stir", "cell"]) (sc := defScope s__law_heap) (by decide +kernel)) (gok_nm (i := 3) (by decide)) (fun _ _ _ _ _ => pg_name (i := 3) sc.nd rfl (Or.inl rfl)) (fun _ _ _ _ _ => dts_one (dt_cmpv op_ge opd_ge (pv 3) (de_op op_pow opd_pow de_int de_int) (nomark _))) (fun _ _ _ _ _ => (de_nm (pv 3)))))) (de_nm (pv 2)) de_int)))))) ?_

  rintro xs Q hl ⟨ns, rfl, hn, h⟩
  rw [show startD ["script", "cells", "stir", "cell"] (List.map SV.sh [.frz (ns.map D.int)]) = ([some (.sh (.frz (ns.map D.int))), none, none, none] : DS) from rfl]
  obtain ⟨ms, em, lm⟩ := int_of_cut (ns := ns) (lo := none) (hi := some 60)
  apply sq
  dsimp only [dLc, sRet, sRetN, sIf, sDrop, sSet, sSetF, sAug, sAsg, sPar, sPar3, sFldI, sSetIx, sBreak, sCont, sNext, gNm, gTp, gsCons, gsNil, fSub, fDiv, fMod, fPow, fLt, fLe, fGt, fGe, fEq, fNe, cAbs, cMax, cMin, dVar, dC, dOp, dOpv, dPk, dTest, dAnd, dOr, dNot, dAndV, dOrV, dNotV, dIf, dIsN, dNotN, isNon, fIsB, fI, fI0, fAdd, fMul, fEqG, fIx, dNil, dCons, dTup, dLst, dLstF, dSh, dCB, dCBv, cI1, cI2, cInt, cLen, cTuple, cList, cAll, cAny, cSum, dIsi, dIsi2, isa, tyn, isa_NoneType_int, isa_NoneType_bool, isa_NoneType_str, isa_NoneType_tuple, isa_NoneType_list, isa_bool_int, isa_bool_bool, isa_bool_str, isa_bool_tuple, isa_bool_list, isa_int_int, isa_int_bool, isa_int_str, isa_int_tuple, isa_int_list, isa_str_int, isa_str_bool, isa_str_str, isa_str_tuple, isa_str_list, isa_tuple_int, isa_tuple_bool, isa_tuple_str, isa_tuple_tuple, isa_tuple_list, isa_list_int, isa_list_bool, isa_list_str, isa_list_tuple, isa_list_list, itT, itF, itNT, itNF, id, dFld, dFldI, dNoPart, dPart, dSl, dRevL, dNeg, dCall, dMake, isOw, dApp, dPop0, dPopAt, vNil, vCons, vConsF, srcE, srcR1, srcR2, srcEnum, dYes, lcTurn, cNm, cTp, setAllD, wipeD, startD, dChain, SV.data, enumD, List.map_cons, List.map_nil, List.length_cons, List.length_nil, List.getElem?_cons_zero, List.getElem?_cons_succ, List.set_cons_zero, List.set_cons_succ, List.replicate_zero, List.replicate_succ, List.cons_append, List.nil_append, Nat.reduceAdd, Nat.reduceSub, Nat.zero_add, Option.isSome_some, Option.isSome_none, Bool.not_true, Bool.not_false, Option.bind_some]
  rw [em]
  refine ⟨fun i acc => ∃ zs : List Int, acc = zs.map D.int ∧ zs.length = i, ⟨[], rfl, rfl⟩, ?_, ?_⟩
  · rintro i y acc hy ⟨zs, rfl, rfl⟩
    rw [List.getElem?_map] at hy
    obtain ⟨c, hc, rfl⟩ := Option.map_eq_some_iff.mp hy
    have hi : zs.length < ms.length := (List.getElem?_eq_some_iff.mp hc).1
    dsimp only [dLc, sRet, sRetN, sIf, sDrop, sSet, sSetF, sAug, sAsg, sPar, sPar3, sFldI, sSetIx, sBreak, sCont, sNext, gNm, gTp, gsCons, gsNil, fSub, fDiv, fMod, fPow, fLt, fLe, fGt, fGe, fEq, fNe, cAbs, cMax, cMin, dVar, dC, dOp, dOpv, dPk, dTest, dAnd, dOr, dNot, dAndV, dOrV, dNotV, dIf, dIsN, dNotN, isNon, fIsB, fI, fI0, fAdd, fMul, fEqG, fIx, dNil, dCons, dTup, dLst, dLstF, dSh, dCB, dCBv, cI1, cI2, cInt, cLen, cTuple, cList, cAll, cAny, cSum, dIsi, dIsi2, isa, tyn, isa_NoneType_int, isa_NoneType_bool, isa_NoneType_str, isa_NoneType_tuple, isa_NoneType_list, isa_bool_int, isa_bool_bool, isa_bool_str, isa_bool_tuple, isa_bool_list, isa_int_int, isa_int_bool, isa_int_str, isa_int_tuple, isa_int_list, isa_str_int, isa_str_bool, isa_str_str, isa_str_tuple, isa_str_list, isa_tuple_int, isa_tuple_bool, isa_tuple_str, isa_tuple_tuple, isa_tuple_list, isa_list_int, isa_list_bool, isa_list_str, isa_list_tuple, isa_list_list, itT, itF, itNT, itNF, id, dFld, dFldI, dNoPart, dPart, dSl, dRevL, dNeg, dCall, dMake, isOw, dApp, dPop0, dPopAt, vNil, vCons, vConsF, srcE, srcR1, srcR2, srcEnum, dYes, lcTurn, cNm, cTp, setAllD, wipeD, startD, dChain, SV.data, enumD, List.map_cons, List.map_nil, List.length_cons, List.length_nil, List.getElem?_cons_zero, List.getElem?_cons_succ, List.set_cons_zero, List.set_cons_succ, List.replicate_zero, List.replicate_succ, List.cons_append, List.nil_append, Nat.reduceAdd, Nat.reduceSub, Nat.zero_add, Option.isSome_some, Option.isSome_none, Bool.not_true, Bool.not_false, Option.bind_some, wipeD]
    refine ⟨.inl (.inl ⟨by decide, by decide⟩), ⟨by decide, by decide, by decide⟩, by decide, rfl, ?_, zs ++ [_], (by rw [List.map_append]; rfl), by rw [List.length_append]; rfl⟩
    rw [List.length_map]
    exact Nat.lt_of_lt_of_le hi (Nat.le_trans lm (Nat.le_trans hn (by decide)))
  · rintro acc ⟨zs, rfl, hz⟩
    rw [List.length_map] at hz
    apply sq
    dsimp only [sFor]
    dsimp only [dLc, sRet, sRetN, sIf, sDrop, sSet, sSetF, sAug, sAsg, sPar, sPar3, sFldI, sSetIx, sBreak, sCont, sNext, gNm, gTp, gsCons, gsNil, fSub, fDiv, fMod, fPow, fLt, fLe, fGt, fGe, fEq, fNe, cAbs, cMax, cMin, dVar, dC, dOp, dOpv, dPk, dTest, dAnd, dOr, dNot, dAndV, dOrV, dNotV, dIf, dIsN, dNotN, isNon, fIsB, fI, fI0, fAdd, fMul, fEqG, fIx, dNil, dCons, dTup, dLst, dLstF, dSh, dCB, dCBv, cI1, cI2, cInt, cLen, cTuple, cList, cAll, cAny, cSum, dIsi, dIsi2, isa, tyn, isa_NoneType_int, isa_NoneType_bool, isa_NoneType_str, isa_NoneType_tuple, isa_NoneType_list, isa_bool_int, isa_bool_bool, isa_bool_str, isa_bool_tuple, isa_bool_list, isa_int_int, isa_int_bool, isa_int_str, isa_int_tuple, isa_int_list, isa_str_int, isa_str_bool, isa_str_str, isa_str_tuple, isa_str_list, isa_tuple_int, isa_tuple_bool, isa_tuple_str, isa_tuple_tuple, isa_tuple_list, isa_list_int, isa_list_bool, isa_list_str, isa_list_tuple, isa_list_list, itT, itF, itNT, itNF, id, dFld, dFldI, dNoPart, dPart, dSl, dRevL, dNeg, dCall, dMake, isOw, dApp, dPop0, dPopAt, vNil, vCons, vConsF, srcE, srcR1, srcR2, srcEnum, dYes, lcTurn, cNm, cTp, setAllD, wipeD, startD, dChain, SV.data, enumD, List.map_cons, List.map_nil, List.length_cons, List.length_nil, List.getElem?_cons_zero, List.getElem?_cons_succ, List.set_cons_zero, List.set_cons_succ, List.replicate_zero, List.replicate_succ, List.cons_append, List.nil_append, Nat.reduceAdd, Nat.reduceSub, Nat.zero_add, Option.isSome_some, Option.isSome_none, Bool.not_true, Bool.not_false, Option.bind_some]
    refine ⟨fun n d => ∃ s x3, d = [some (.sh (.frz (ns.map D.int))), some (.sh (.lst (zs.map D.int))), some (.sh (.int s)), x3], ⟨_, _, rfl⟩, ?_, ?_⟩
    · rintro n y d hy ⟨s, x3, rfl⟩
      rw [List.getElem?_map] at hy
      obtain ⟨c, hc, rfl⟩ := Option.map_eq_some_iff.mp hy
      dsimp only [dLc, sRet, sRetN, sIf, sDrop, sSet, sSetF, sAug, sAsg, sPar, sPar3, sFldI, sSetIx, sBreak, sCont, sNext, gNm, gTp, gsCons, gsNil, fSub, fDiv, fMod, fPow, fLt, fLe, fGt, fGe, fEq, fNe, cAbs, cMax, cMin, dVar, dC, dOp, dOpv, dPk, dTest, dAnd, dOr, dNot, dAndV, dOrV, dNotV, dIf, dIsN, dNotN, isNon, fIsB, fI, fI0, fAdd, fMul, fEqG, fIx, dNil, dCons, dTup, dLst, dLstF, dSh, dCB, dCBv, cI1, cI2, cInt, cLen, cTuple, cList, cAll, cAny, cSum, dIsi, dIsi2, isa, tyn, isa_NoneType_int, isa_NoneType_bool, isa_NoneType_str, isa_NoneType_tuple, isa_NoneType_list, isa_bool_int, isa_bool_bool, isa_bool_str, isa_bool_tuple, isa_bool_list, isa_int_int, isa_int_bool, isa_int_str, isa_int_tuple, isa_int_list, isa_str_int, isa_str_bool, isa_str_str, isa_str_tuple, isa_str_list, isa_tuple_int, isa_tuple_bool, isa_tuple_str, isa_tuple_tuple, isa_tuple_list, isa_list_int, isa_list_bool, isa_list_str, isa_list_tuple, isa_list_list, itT, itF, itNT, itNF, id, dFld, dFldI, dNoPart, dPart, dSl, dRevL, dNeg, dCall, dMake, isOw, dApp, dPop0, dPopAt, vNil, vCons, vConsF, srcE, srcR1, srcR2, srcEnum, dYes, lcTurn, cNm, cTp, setAllD, wipeD, startD, dChain, SV.data, enumD, List.map_cons, List.map_nil, List.length_cons, List.length_nil, List.getElem?_cons_zero, List.getElem?_cons_succ, List.set_cons_zero, List.set_cons_succ, List.replicate_zero, List.replicate_succ, List.cons_append, List.nil_append, Nat.reduceAdd, Nat.reduceSub, Nat.zero_add, Option.isSome_some, Option.isSome_none, Bool.not_true, Bool.not_false, Option.bind_some]
      exact ⟨.inl (.inr ⟨by decide, by decide⟩), by decide, by decide, _, _, rfl⟩
    · rintro d ⟨s, x3, rfl⟩
      dsimp only [dLc, sRet, sRetN, sIf, sDrop, sSet, sSetF, sAug, sAsg, sPar, sPar3, sFldI, sSetIx, sBreak, sCont, sNext, gNm, gTp, gsCons, gsNil, fSub, fDiv, fMod, fPow, fLt, fLe, fGt, fGe, fEq, fNe, cAbs, cMax, cMin, dVar, dC, dOp, dOpv, dPk, dTest, dAnd, dOr, dNot, dAndV, dOrV, dNotV, dIf, dIsN, dNotN, isNon, fIsB, fI, fI0, fAdd, fMul, fEqG, fIx, dNil, dCons, dTup, dLst, dLstF, dSh, dCB, dCBv, cI1, cI2, cInt, cLen, cTuple, cList, cAll, cAny, cSum, dIsi, dIsi2, isa, tyn, isa_NoneType_int, isa_NoneType_bool, isa_NoneType_str, isa_NoneType_tuple, isa_NoneType_list, isa_bool_int, isa_bool_bool, isa_bool_str, isa_bool_tuple, isa_bool_list, isa_int_int, isa_int_bool, isa_int_str, isa_int_tuple, isa_int_list, isa_str_int, isa_str_bool, isa_str_str, isa_str_tuple, isa_str_list, isa_tuple_int, isa_tuple_bool, isa_tuple_str, isa_tuple_tuple, isa_tuple_list, isa_list_int, isa_list_bool, isa_list_str, isa_list_tuple, isa_list_list, itT, itF, itNT, itNF, id, dFld, dFldI, dNoPart, dPart, dSl, dRevL, dNeg, dCall, dMake, isOw, dApp, dPop0, dPopAt, vNil, vCons, vConsF, srcE, srcR1, srcR2, srcEnum, dYes, lcTurn, cNm, cTp, setAllD, wipeD, startD, dChain, SV.data, enumD, List.map_cons, List.map_nil, List.length_cons, List.length_nil, List.getElem?_cons_zero, List.getElem?_cons_succ, List.set_cons_zero, List.set_cons_succ, List.replicate_zero, List.replicate_succ, List.cons_append, List.nil_append, Nat.reduceAdd, Nat.reduceSub, Nat.zero_add, Option.isSome_some, Option.isSome_none, Bool.not_true, Bool.not_false, Option.bind_some, dTokA]
      refine ⟨fun i acc => ∃ ws : List Int, acc = ws.map D.int ∧ ws.length ≤ i, ⟨[], rfl, Nat.le_refl _⟩, ?_, ?_⟩
      · rintro i y acc hy ⟨ws, rfl, hw⟩
        rw [List.getElem?_map] at hy
        obtain ⟨c, hc, rfl⟩ := Option.map_eq_some_iff.mp hy
        have hi : i < zs.length := (List.getElem?_eq_some_iff.mp hc).1
        dsimp only [dLc, sRet, sRetN, sIf, sDrop, sSet, sSetF, sAug, sAsg, sPar, sPar3, sFldI, sSetIx, sBreak, sCont, sNext, gNm, gTp, gsCons, gsNil, fSub, fDiv, fMod, fPow, fLt, fLe, fGt, fGe, fEq, fNe, cAbs, cMax, cMin, dVar, dC, dOp, dOpv, dPk, dTest, dAnd, dOr, dNot, dAndV, dOrV, dNotV, dIf, dIsN, dNotN, isNon, fIsB, fI, fI0, fAdd, fMul, fEqG, fIx, dNil, dCons, dTup, dLst, dLstF, dSh, dCB, dCBv, cI1, cI2, cInt, cLen, cTuple, cList, cAll, cAny, cSum, dIsi, dIsi2, isa, tyn, isa_NoneType_int, isa_NoneType_bool, isa_NoneType_str, isa_NoneType_tuple, isa_NoneType_list, isa_bool_int, isa_bool_bool, isa_bool_str, isa_bool_tuple, isa_bool_list, isa_int_int, isa_int_bool, isa_int_str, isa_int_tuple, isa_int_list, isa_str_int, isa_str_bool, isa_str_str, isa_str_tuple, isa_str_list, isa_tuple_int, isa_tuple_bool, isa_tuple_str, isa_tuple_tuple, isa_tuple_list, isa_list_int, isa_list_bool, isa_list_str, isa_list_tuple, isa_list_list, itT, itF, itNT, itNF, id, dFld, dFldI, dNoPart, dPart, dSl, dRevL, dNeg, dCall, dMake, isOw, dApp, dPop0, dPopAt, vNil, vCons, vConsF, srcE, srcR1, srcR2, srcEnum, dYes, lcTurn, cNm, cTp, setAllD, wipeD, startD, dChain, SV.data, enumD, List.map_cons, List.map_nil, List.length_cons, List.length_nil, List.getElem?_cons_zero, List.getElem?_cons_succ, List.set_cons_zero, List.set_cons_succ, List.replicate_zero, List.replicate_succ, List.cons_append, List.nil_append, Nat.reduceAdd, Nat.reduceSub, Nat.zero_add, Option.isSome_some, Option.isSome_none, Bool.not_true, Bool.not_false, Option.bind_some, wipeD]
        refine ⟨⟨by decide, by decide, by decide⟩, ifB (fun _ => ⟨rfl, ?_, ws ++ [c], (by rw [List.map_append]; rfl), by rw [List.length_append]; exact Nat.succ_le_succ hw⟩) (fun _ => ⟨rfl, ws, rfl, Nat.le_succ_of_le hw⟩)⟩
        rw [List.length_map]
        refine Nat.lt_of_le_of_lt hw (Nat.lt_of_lt_of_le hi ?_)
        rw [hz]
        exact Nat.le_trans lm (Nat.le_trans hn (by decide))
      · rintro acc ⟨ws, rfl, hw⟩
        refine ⟨⟨ws.reverse, (List.map_reverse).symm, ?_⟩, h⟩
        rw [List.length_map, hz] at hw
        rw [List.length_reverse]
        omega
theorem b__law_heap (T : Txt K mg A) : Binds K A.d__law_heap ["script"] [] := T.f__law_heap.fn.bindsN (ps := ["script"]) fun _ _ _ _ _ _ us hl => match us, hl with | [_], _ => rfl

theorem sc__law_draw : FnScope ["heap", "many", "rest"] ["heap", "many"] (defScope s__law_draw) := ⟨rfl, rfl, rfl, by decide +kernel, rfl, by decide +kernel, by decide +kernel⟩

set_option maxHeartbeats 16000000 in
theorem ok__law_draw (T : Txt K mg A) : DFn tk P w K mg base "_law_draw" 1 2 ["heap", "many"] A.f__law_draw A.d__law_draw cDraw := by
  have sc := sc__law_draw
  refine ⟨T.f__law_draw.at_, T.f__law_draw.fn.kp, T.f__law_draw.fn.ok sc (fun vs H Q E h => h.1) fun cdv B outer s H vs Q E hr h => ⟨_, PSs.nox ?_, drawA_sp h⟩, rfl⟩
  exact pss_cons (ps_while PassesOwn.never (PW.pt (pw_and (pt_cmpR (op_neAll hr.units) (pe_ix ix_seq (pv 0) pe_int (by intro _ _; rfl)) (pe_lst pa_nil) (nomark _)) (pw_and1 (pt_cmpR (op_eqAll hr.units) (pe_ix ix_seq (pe_ix ix_seq (pv 0) pe_int (by intro _ _; rfl)) (pe_un un_neg pe_int) (by intro _ _; rfl)) pe_int (nomark _))))) (pss_one (ps_expr (pe_bm0 PySem.F.plainAttrs_list PySem.F.slot_list_pop PySem.F.type_list_pop mt_pop (pe_ix ix_seq (pv 0) pe_int (by intro _ _; rfl))))))
    (pss_cons (ps_if (pt_cmpR (op_neAll hr.units) (pe_ix ix_seq (pv 0) pe_int (by intro _ _; rfl)) (pe_lst pa_nil) (nomark _))
      (pss_cons (ps_asg (pe_bm0 PySem.F.plainAttrs_list PySem.F.slot_list_pop PySem.F.type_list_pop mt_pop (pe_ix ix_seq (pv 0) pe_int (by intro _ _; rfl))) (pg_name (i := 2) sc.nd rfl (Or.inl rfl)))
      (pss_cons (ps_expr (pe_bm PySem.F.plainAttrs_list PySem.F.slot_list_append PySem.F.type_list_append mt_append (pe_ix ix_seq (pv 0) pe_int (by intro _ _; rfl)) (pa_cons (pe_op op_fdivW (pv 2) (pv 1)) pa_nil)))
        (pss_one (ps_ret (pe_op op_mod (pe_callTy call_int1 rfl T.n_int (by decide +kernel) (pa_cons (pv 2) pa_nil)) (pv 1)))))) pss_nil)
    (pss_cons (ps_augS (pv 0) pe_int get_lst pe_int ip_add set_list)
    (pss_cons (ps_asg (pe_op op_mod (pe_callTy call_int1 rfl T.n_int (by decide +kernel) (pa_cons (pe_op op_add (pe_op op_add (pe_op op_mul (pe_ix ix_seq (pv 0) pe_int (by intro _ _; rfl)) pe_int) pe_int) (pe_ix ix_seq (pv 0) pe_int (by intro _ _; rfl))) pa_nil)) pe_int) (pg_sub (pv 0) pe_int set_list))
      (pss_one (ps_ret (pe_op op_mod (pe_callTy call_int1 rfl T.n_int (by decide +kernel) (pa_cons (pe_op op_fdivW (pe_ix ix_seq (pv 0) pe_int (by intro _ _; rfl)) pe_int) pa_nil)) (pv 1)))))))
theorem b__law_draw (T : Txt K mg A) : Binds K A.d__law_draw ["heap", "many"] [] := T.f__law_draw.fn.bindsN (ps := ["heap", "many"]) fun _ _ _ _ _ _ us hl => match us, hl with | [_, _], _ => rfl


def c__law_pick : DSp := cPick
theorem sc__law_pick : FnScope ["heap", "some"] ["heap", "some"] (defScope s__law_pick) := ⟨rfl, rfl, rfl, by decide +kernel, rfl, by decide +kernel, by decide +kernel⟩
set_option maxHeartbeats 16000000 in
theorem ok__law_pick (T : Txt K mg A) : DFn tk P w K mg base "_law_pick" 2 2 ["heap", "some"] A.f__law_pick A.d__law_pick c__law_pick := by
  have sc := sc__law_pick
  refine DFn.of T.f__law_pick sc rfl (fun cdv B outer s H E hr =>
    (dss_one (ds_ret (de_ixv ix_seq opd_ix (pv 1) (de_fn (ok__law_draw T) (b__law_draw T) (hr.mono (by decide)) (da_cons (de_nm (pv 0)) (da_cons (de_callBv call_lenAll calld_len rfl T.n_len (by decide +kernel) (pv 1)) da_nil))))))) ?_

  intro xs Q hl h
  unfold c__law_pick cPick at h
  split at h
  · rename_i a b ys
    obtain ⟨⟨h1, h2⟩, h⟩ := h
    rw [show startD ["heap", "some"] (List.map SV.sh [.tok a b, .tup ys]) = ([some (.sh (.tok a b)), some (.sh (.tup ys))] : DS) from rfl]
    dsimp only [dLc, sRet, sRetN, sIf, sDrop, sSet, sSetF, sAug, sAsg, sPar, sPar3, sFldI, sSetIx, sBreak, sCont, sNext, gNm, gTp, gsCons, gsNil, fSub, fDiv, fMod, fPow, fLt, fLe, fGt, fGe, fEq, fNe, cAbs, cMax, cMin, dVar, dC, dOp, dOpv, dPk, dTest, dAnd, dOr, dNot, dAndV, dOrV, dNotV, dIf, dIsN, dNotN, isNon, fIsB, fI, fI0, fAdd, fMul, fEqG, fIx, dNil, dCons, dTup, dLst, dLstF, dSh, dCB, dCBv, cI1, cI2, cInt, cLen, cTuple, cList, cAll, cAny, cSum, dIsi, dIsi2, isa, tyn, isa_NoneType_int, isa_NoneType_bool, isa_NoneType_str, isa_NoneType_tuple, isa_NoneType_list, isa_bool_int, isa_bool_bool, isa_bool_str, isa_bool_tuple, isa_bool_list, isa_int_int, isa_int_bool, isa_int_str, isa_int_tuple, isa_int_list, isa_str_int, isa_str_bool, isa_str_str, isa_str_tuple, isa_str_list, isa_tuple_int, isa_tuple_bool, isa_tuple_str, isa_tuple_tuple, isa_tuple_list, isa_list_int, isa_list_bool, isa_list_str, isa_list_tuple, isa_list_list, itT, itF, itNT, itNF, id, dFld, dFldI, dNoPart, dPart, dSl, dRevL, dNeg, dCall, dMake, isOw, dApp, dPop0, dPopAt, vNil, vCons, vConsF, srcE, srcR1, srcR2, srcEnum, dYes, lcTurn, cNm, cTp, setAllD, wipeD, startD, dChain, SV.data, enumD, List.map_cons, List.map_nil, List.length_cons, List.length_nil, List.getElem?_cons_zero, List.getElem?_cons_succ, List.set_cons_zero, List.set_cons_succ, List.replicate_zero, List.replicate_succ, List.cons_append, List.nil_append, Nat.reduceAdd, Nat.reduceSub, Nat.zero_add, Option.isSome_some, Option.isSome_none, Bool.not_true, Bool.not_false, Option.bind_some, cDraw]
    refine ⟨rfl, ⟨by omega, by omega⟩, fun r r0 r1 => ?_⟩
    obtain ⟨y, hy, e⟩ := atI_draw r0 r1
    rw [e]
    exact h y hy
  · rename_i a b ys
    obtain ⟨⟨h1, h2⟩, h⟩ := h
    rw [show startD ["heap", "some"] (List.map SV.sh [.tok a b, .lst ys]) = ([some (.sh (.tok a b)), some (.sh (.lst ys))] : DS) from rfl]
    dsimp only [dLc, sRet, sRetN, sIf, sDrop, sSet, sSetF, sAug, sAsg, sPar, sPar3, sFldI, sSetIx, sBreak, sCont, sNext, gNm, gTp, gsCons, gsNil, fSub, fDiv, fMod, fPow, fLt, fLe, fGt, fGe, fEq, fNe, cAbs, cMax, cMin, dVar, dC, dOp, dOpv, dPk, dTest, dAnd, dOr, dNot, dAndV, dOrV, dNotV, dIf, dIsN, dNotN, isNon, fIsB, fI, fI0, fAdd, fMul, fEqG, fIx, dNil, dCons, dTup, dLst, dLstF, dSh, dCB, dCBv, cI1, cI2, cInt, cLen, cTuple, cList, cAll, cAny, cSum, dIsi, dIsi2, isa, tyn, isa_NoneType_int, isa_NoneType_bool, isa_NoneType_str, isa_NoneType_tuple, isa_NoneType_list, isa_bool_int, isa_bool_bool, isa_bool_str, isa_bool_tuple, isa_bool_list, isa_int_int, isa_int_bool, isa_int_str, isa_int_tuple, isa_int_list, isa_str_int, isa_str_bool, isa_str_str, isa_str_tuple, isa_str_list, isa_tuple_int, isa_tuple_bool, isa_tuple_str, isa_tuple_tuple, isa_tuple_list, isa_list_int, isa_list_bool, isa_list_str, isa_list_tuple, isa_list_list, itT, itF, itNT, itNF, id, dFld, dFldI, dNoPart, dPart, dSl, dRevL, dNeg, dCall, dMake, isOw, dApp, dPop0, dPopAt, vNil, vCons, vConsF, srcE, srcR1, srcR2, srcEnum, dYes, lcTurn, cNm, cTp, setAllD, wipeD, startD, dChain, SV.data, enumD, List.map_cons, List.map_nil, List.length_cons, List.length_nil, List.getElem?_cons_zero, List.getElem?_cons_succ, List.set_cons_zero, List.set_cons_succ, List.replicate_zero, List.replicate_succ, List.cons_append, List.nil_append, Nat.reduceAdd, Nat.reduceSub, Nat.zero_add, Option.isSome_some, Option.isSome_none, Bool.not_true, Bool.not_false, Option.bind_some, cDraw]
    refine ⟨rfl, ⟨by omega, by omega⟩, fun r r0 r1 => ?_⟩
    obtain ⟨y, hy, e⟩ := atI_draw r0 r1
    rw [e]
    exact h y hy
  · exact h.elim
theorem b__law_pick (T : Txt K mg A) : Binds K A.d__law_pick ["heap", "some"] [] := T.f__law_pick.fn.bindsN (ps := ["heap", "some"]) fun _ _ _ _ _ _ us hl => match us, hl with | [_, _], _ => rfl


abbrev c__law_like : Nat → DSp := c_like
theorem sc__law_like : FnScope ["told", "due", "at"] ["told", "due"] (defScope s__law_like) := ⟨rfl, rfl, rfl, by decide +kernel, rfl, by decide +kernel, by decide +kernel⟩
theorem b__law_like (T : Txt K mg A) : Binds K A.d__law_like ["told", "due"] [] := T.f__law_like.fn.bindsN (ps := ["told", "due"]) fun _ _ _ _ _ _ us hl => match us, hl with | [_, _], _ => rfl
theorem ok0__law_like (T : Txt K mg A) : DFn tk P w K mg base "_law_like" 0 2 ["told", "due"] A.f__law_like A.d__law_like (c__law_like 0) := DFn.never T.f__law_like rfl fun _ _ h => h
set_option maxHeartbeats 16000000 in
theorem okS__law_like (T : Txt K mg A) {j : Nat} (G : DFn tk P w K mg base "_law_like" j 2 ["told", "due"] A.f__law_like A.d__law_like (c__law_like j)) : DFn tk P w K mg base "_law_like" (j + 1) 2 ["told", "due"] A.f__law_like A.d__law_like (c__law_like (j + 1)) := by
  have sc := sc__law_like
  refine DFn.of T.f__law_like sc rfl (fun cdv B outer s H E hr =>
    (dss_cons (ds_if (dt_val (de_isi (ty := "tuple") rfl T.n_isinstance (de_nm (pv 1)) rfl T.n_tuple (by decide +kernel)))
      (dss_one (ds_ret (de_and (de_isi (ty := "tuple") rfl T.n_isinstance (de_nm (pv 0)) rfl T.n_tuple (by decide +kernel)) (de_and (de_cmp (op_eqAll hr.units) opd_eq (de_callBv call_lenAll calld_len rfl T.n_len (by decide +kernel) (pv 0)) (de_callBv call_lenAll calld_len rfl T.n_len (by decide +kernel) (pv 1)) (nomark _)) (de_one (de_callB (cr_all rfl) calld_all rfl T.n_all (by decide +kernel) (da_cons (de_fr (df_lc (own := [("at", 2)]) (vs := [2]) rfl rfl sc.nd (sr_r1 rfl T.n_range (da_cons (de_callBv call_lenAll calld_len rfl T.n_len (by decide +kernel) (pv 1)) da_nil)) (blkOk_by (own := [("at", 2)]) (N := ["told", "due", "at"]) (sc := defScope s__law_like) (by decide +kernel)) (gok_nm (i := 2) (by decide)) (fun _ _ _ _ _ => pg_name (i := 2) sc.nd rfl (Or.inl rfl)) (fun _ _ _ _ _ => dts_nil) (fun _ _ _ _ _ => (de_fn G (b__law_like T) hr (da_cons (de_ixv ix_seq opd_ix (pv 0) (de_nm (pv 2))) (da_cons (de_ixv ix_seq opd_ix (pv 1) (de_nm (pv 2))) da_nil)))))) da_nil)))))))
      dss_nil)
    (dss_cons (ds_if (dt_isN (de_nm (pv 1)))
      (dss_one (ds_ret (de_isN (de_nm (pv 0)))))
      dss_nil)
    (dss_cons (ds_if (dt_val (de_isi (ty := "bool") rfl T.n_isinstance (de_nm (pv 1)) rfl T.n_bool (by decide +kernel)))
      (dss_one (ds_ret (de_ifExp (dt_val (de_nm (pv 1))) (de_cmp op_isBl opd_isB (de_nm (pv 0)) de_bl (nomark _)) (de_cmp op_isBl opd_isB (de_nm (pv 0)) de_bl (nomark _)))))
      dss_nil)
    (dss_cons (ds_if (dt_val (de_isi (ty := "int") rfl T.n_isinstance (de_nm (pv 1)) rfl T.n_int (by decide +kernel)))
      (dss_one (ds_ret (de_and (de_isi (ty := "int") rfl T.n_isinstance (de_nm (pv 0)) rfl T.n_int (by decide +kernel)) (de_and (de_not (de_isi (ty := "bool") rfl T.n_isinstance (de_nm (pv 0)) rfl T.n_bool (by decide +kernel))) (de_one (de_cmpv (op_eqAll hr.units) opd_eq (pv 0) (de_nm (pv 1)) (nomark _)))))))
      dss_nil)
    (dss_one (ds_ret (de_and (de_isi (ty := "str") rfl T.n_isinstance (de_nm (pv 0)) rfl T.n_str (by decide +kernel)) (de_one (de_cmpv (op_eqAll hr.units) opd_eq (pv 0) (de_nm (pv 1)) (nomark _))))))))))) ?_

  rintro xs Q hl ⟨x, rfl, hp, h⟩
  cases x with
  | tup ys =>
    unfold plainD at hp
    obtain ⟨h1, h2⟩ := Bool.and_eq_true_iff.mp hp
    have h1' := of_decide_eq_true h1
    rw [show startD ["told", "due", "at"] (List.map SV.sh [.tup ys, .tup ys]) = ([some (.sh (.tup ys)), some (.sh (.tup ys)), none] : DS) from rfl]
    apply sq
    dsimp only [dLc, sRet, sRetN, sIf, sDrop, sSet, sSetF, sAug, sAsg, sPar, sPar3, sFldI, sSetIx, sBreak, sCont, sNext, gNm, gTp, gsCons, gsNil, fSub, fDiv, fMod, fPow, fLt, fLe, fGt, fGe, fEq, fNe, cAbs, cMax, cMin, dVar, dC, dOp, dOpv, dPk, dTest, dAnd, dOr, dNot, dAndV, dOrV, dNotV, dIf, dIsN, dNotN, isNon, fIsB, fI, fI0, fAdd, fMul, fEqG, fIx, dNil, dCons, dTup, dLst, dLstF, dSh, dCB, dCBv, cI1, cI2, cInt, cLen, cTuple, cList, cAll, cAny, cSum, dIsi, dIsi2, isa, tyn, isa_NoneType_int, isa_NoneType_bool, isa_NoneType_str, isa_NoneType_tuple, isa_NoneType_list, isa_bool_int, isa_bool_bool, isa_bool_str, isa_bool_tuple, isa_bool_list, isa_int_int, isa_int_bool, isa_int_str, isa_int_tuple, isa_int_list, isa_str_int, isa_str_bool, isa_str_str, isa_str_tuple, isa_str_list, isa_tuple_int, isa_tuple_bool, isa_tuple_str, isa_tuple_tuple, isa_tuple_list, isa_list_int, isa_list_bool, isa_list_str, isa_list_tuple, isa_list_list, itT, itF, itNT, itNF, id, dFld, dFldI, dNoPart, dPart, dSl, dRevL, dNeg, dCall, dMake, isOw, dApp, dPop0, dPopAt, vNil, vCons, vConsF, srcE, srcR1, srcR2, srcEnum, dYes, lcTurn, cNm, cTp, setAllD, wipeD, startD, dChain, SV.data, enumD, List.map_cons, List.map_nil, List.length_cons, List.length_nil, List.getElem?_cons_zero, List.getElem?_cons_succ, List.set_cons_zero, List.set_cons_succ, List.replicate_zero, List.replicate_succ, List.cons_append, List.nil_append, Nat.reduceAdd, Nat.reduceSub, Nat.zero_add, Option.isSome_some, Option.isSome_none, Bool.not_true, Bool.not_false, Option.bind_some]
    refine ifT (by simp) ⟨⟨by omega, by omega⟩, fun i acc => acc = List.replicate i (.bl true), rfl, ?_, ?_⟩
    · rintro i y acc hy rfl
      obtain ⟨hi, rfl⟩ := rngD_at hy
      have hi' : i < ys.length := by simpa using hi
      have e : atI ys (0 + (i : Int)) = some ys[i] := by rw [Int.zero_add]; exact atI_nat (List.getElem?_eq_getElem hi')
      dsimp only [dLc, sRet, sRetN, sIf, sDrop, sSet, sSetF, sAug, sAsg, sPar, sPar3, sFldI, sSetIx, sBreak, sCont, sNext, gNm, gTp, gsCons, gsNil, fSub, fDiv, fMod, fPow, fLt, fLe, fGt, fGe, fEq, fNe, cAbs, cMax, cMin, dVar, dC, dOp, dOpv, dPk, dTest, dAnd, dOr, dNot, dAndV, dOrV, dNotV, dIf, dIsN, dNotN, isNon, fIsB, fI, fI0, fAdd, fMul, fEqG, fIx, dNil, dCons, dTup, dLst, dLstF, dSh, dCB, dCBv, cI1, cI2, cInt, cLen, cTuple, cList, cAll, cAny, cSum, dIsi, dIsi2, isa, tyn, isa_NoneType_int, isa_NoneType_bool, isa_NoneType_str, isa_NoneType_tuple, isa_NoneType_list, isa_bool_int, isa_bool_bool, isa_bool_str, isa_bool_tuple, isa_bool_list, isa_int_int, isa_int_bool, isa_int_str, isa_int_tuple, isa_int_list, isa_str_int, isa_str_bool, isa_str_str, isa_str_tuple, isa_str_list, isa_tuple_int, isa_tuple_bool, isa_tuple_str, isa_tuple_tuple, isa_tuple_list, isa_list_int, isa_list_bool, isa_list_str, isa_list_tuple, isa_list_list, itT, itF, itNT, itNF, id, dFld, dFldI, dNoPart, dPart, dSl, dRevL, dNeg, dCall, dMake, isOw, dApp, dPop0, dPopAt, vNil, vCons, vConsF, srcE, srcR1, srcR2, srcEnum, dYes, lcTurn, cNm, cTp, setAllD, wipeD, startD, dChain, SV.data, enumD, List.map_cons, List.map_nil, List.length_cons, List.length_nil, List.getElem?_cons_zero, List.getElem?_cons_succ, List.set_cons_zero, List.set_cons_succ, List.replicate_zero, List.replicate_succ, List.cons_append, List.nil_append, Nat.reduceAdd, Nat.reduceSub, Nat.zero_add, Option.isSome_some, Option.isSome_none, Bool.not_true, Bool.not_false, Option.bind_some, wipeD]
      rw [e]
      refine ⟨rfl, ?_⟩
      have hz := List.all_eq_true.mp h2 ys[i] (List.getElem_mem hi')
      cases j with
      | zero => cases hz
      | succ j => exact ⟨_, rfl, hz, rfl, by rw [List.length_replicate]; exact Nat.lt_of_lt_of_le (Nat.lt_trans hi' h1') (by decide), List.replicate_succ'.symm⟩
    · rintro acc rfl
      refine ⟨List.replicate _ true, by rw [List.map_replicate], bl_eq h ?_⟩
      symm
      rw [List.all_eq_true]
      intro b hb
      exact List.eq_of_mem_replicate hb
  | non =>
    rw [show startD ["told", "due", "at"] (List.map SV.sh [.non, .non]) = ([some (.sh (.non)), some (.sh (.non)), none] : DS) from rfl]
    dsimp only [sSeq, dLc, sRet, sRetN, sIf, sDrop, sSet, sSetF, sAug, sAsg, sPar, sPar3, sFldI, sSetIx, sBreak, sCont, sNext, gNm, gTp, gsCons, gsNil, fSub, fDiv, fMod, fPow, fLt, fLe, fGt, fGe, fEq, fNe, cAbs, cMax, cMin, dVar, dC, dOp, dOpv, dPk, dTest, dAnd, dOr, dNot, dAndV, dOrV, dNotV, dIf, dIsN, dNotN, isNon, fIsB, fI, fI0, fAdd, fMul, fEqG, fIx, dNil, dCons, dTup, dLst, dLstF, dSh, dCB, dCBv, cI1, cI2, cInt, cLen, cTuple, cList, cAll, cAny, cSum, dIsi, dIsi2, isa, tyn, isa_NoneType_int, isa_NoneType_bool, isa_NoneType_str, isa_NoneType_tuple, isa_NoneType_list, isa_bool_int, isa_bool_bool, isa_bool_str, isa_bool_tuple, isa_bool_list, isa_int_int, isa_int_bool, isa_int_str, isa_int_tuple, isa_int_list, isa_str_int, isa_str_bool, isa_str_str, isa_str_tuple, isa_str_list, isa_tuple_int, isa_tuple_bool, isa_tuple_str, isa_tuple_tuple, isa_tuple_list, isa_list_int, isa_list_bool, isa_list_str, isa_list_tuple, isa_list_list, itT, itF, itNT, itNF, id, dFld, dFldI, dNoPart, dPart, dSl, dRevL, dNeg, dCall, dMake, isOw, dApp, dPop0, dPopAt, vNil, vCons, vConsF, srcE, srcR1, srcR2, srcEnum, dYes, lcTurn, cNm, cTp, setAllD, wipeD, startD, dChain, SV.data, enumD, List.map_cons, List.map_nil, List.length_cons, List.length_nil, List.getElem?_cons_zero, List.getElem?_cons_succ, List.set_cons_zero, List.set_cons_succ, List.replicate_zero, List.replicate_succ, List.cons_append, List.nil_append, Nat.reduceAdd, Nat.reduceSub, Nat.zero_add, Option.isSome_some, Option.isSome_none, Bool.not_true, Bool.not_false, Option.bind_some]
    exact h
  | bl v =>
    rw [show startD ["told", "due", "at"] (List.map SV.sh [.bl v, .bl v]) = ([some (.sh (.bl v)), some (.sh (.bl v)), none] : DS) from rfl]
    dsimp only [sSeq, dLc, sRet, sRetN, sIf, sDrop, sSet, sSetF, sAug, sAsg, sPar, sPar3, sFldI, sSetIx, sBreak, sCont, sNext, gNm, gTp, gsCons, gsNil, fSub, fDiv, fMod, fPow, fLt, fLe, fGt, fGe, fEq, fNe, cAbs, cMax, cMin, dVar, dC, dOp, dOpv, dPk, dTest, dAnd, dOr, dNot, dAndV, dOrV, dNotV, dIf, dIsN, dNotN, isNon, fIsB, fI, fI0, fAdd, fMul, fEqG, fIx, dNil, dCons, dTup, dLst, dLstF, dSh, dCB, dCBv, cI1, cI2, cInt, cLen, cTuple, cList, cAll, cAny, cSum, dIsi, dIsi2, isa, tyn, isa_NoneType_int, isa_NoneType_bool, isa_NoneType_str, isa_NoneType_tuple, isa_NoneType_list, isa_bool_int, isa_bool_bool, isa_bool_str, isa_bool_tuple, isa_bool_list, isa_int_int, isa_int_bool, isa_int_str, isa_int_tuple, isa_int_list, isa_str_int, isa_str_bool, isa_str_str, isa_str_tuple, isa_str_list, isa_tuple_int, isa_tuple_bool, isa_tuple_str, isa_tuple_tuple, isa_tuple_list, isa_list_int, isa_list_bool, isa_list_str, isa_list_tuple, isa_list_list, itT, itF, itNT, itNF, id, dFld, dFldI, dNoPart, dPart, dSl, dRevL, dNeg, dCall, dMake, isOw, dApp, dPop0, dPopAt, vNil, vCons, vConsF, srcE, srcR1, srcR2, srcEnum, dYes, lcTurn, cNm, cTp, setAllD, wipeD, startD, dChain, SV.data, enumD, List.map_cons, List.map_nil, List.length_cons, List.length_nil, List.getElem?_cons_zero, List.getElem?_cons_succ, List.set_cons_zero, List.set_cons_succ, List.replicate_zero, List.replicate_succ, List.cons_append, List.nil_append, Nat.reduceAdd, Nat.reduceSub, Nat.zero_add, Option.isSome_some, Option.isSome_none, Bool.not_true, Bool.not_false, Option.bind_some]
    cases v <;> exact h
  | int v =>
    rw [show startD ["told", "due", "at"] (List.map SV.sh [.int v, .int v]) = ([some (.sh (.int v)), some (.sh (.int v)), none] : DS) from rfl]
    dsimp only [sSeq, dLc, sRet, sRetN, sIf, sDrop, sSet, sSetF, sAug, sAsg, sPar, sPar3, sFldI, sSetIx, sBreak, sCont, sNext, gNm, gTp, gsCons, gsNil, fSub, fDiv, fMod, fPow, fLt, fLe, fGt, fGe, fEq, fNe, cAbs, cMax, cMin, dVar, dC, dOp, dOpv, dPk, dTest, dAnd, dOr, dNot, dAndV, dOrV, dNotV, dIf, dIsN, dNotN, isNon, fIsB, fI, fI0, fAdd, fMul, fEqG, fIx, dNil, dCons, dTup, dLst, dLstF, dSh, dCB, dCBv, cI1, cI2, cInt, cLen, cTuple, cList, cAll, cAny, cSum, dIsi, dIsi2, isa, tyn, isa_NoneType_int, isa_NoneType_bool, isa_NoneType_str, isa_NoneType_tuple, isa_NoneType_list, isa_bool_int, isa_bool_bool, isa_bool_str, isa_bool_tuple, isa_bool_list, isa_int_int, isa_int_bool, isa_int_str, isa_int_tuple, isa_int_list, isa_str_int, isa_str_bool, isa_str_str, isa_str_tuple, isa_str_list, isa_tuple_int, isa_tuple_bool, isa_tuple_str, isa_tuple_tuple, isa_tuple_list, isa_list_int, isa_list_bool, isa_list_str, isa_list_tuple, isa_list_list, itT, itF, itNT, itNF, id, dFld, dFldI, dNoPart, dPart, dSl, dRevL, dNeg, dCall, dMake, isOw, dApp, dPop0, dPopAt, vNil, vCons, vConsF, srcE, srcR1, srcR2, srcEnum, dYes, lcTurn, cNm, cTp, setAllD, wipeD, startD, dChain, SV.data, enumD, List.map_cons, List.map_nil, List.length_cons, List.length_nil, List.getElem?_cons_zero, List.getElem?_cons_succ, List.set_cons_zero, List.set_cons_succ, List.replicate_zero, List.replicate_succ, List.cons_append, List.nil_append, Nat.reduceAdd, Nat.reduceSub, Nat.zero_add, Option.isSome_some, Option.isSome_none, Bool.not_true, Bool.not_false, Option.bind_some]
    exact bl_eq h (by simp)
  | str v =>
    rw [show startD ["told", "due", "at"] (List.map SV.sh [.str v, .str v]) = ([some (.sh (.str v)), some (.sh (.str v)), none] : DS) from rfl]
    dsimp only [sSeq, dLc, sRet, sRetN, sIf, sDrop, sSet, sSetF, sAug, sAsg, sPar, sPar3, sFldI, sSetIx, sBreak, sCont, sNext, gNm, gTp, gsCons, gsNil, fSub, fDiv, fMod, fPow, fLt, fLe, fGt, fGe, fEq, fNe, cAbs, cMax, cMin, dVar, dC, dOp, dOpv, dPk, dTest, dAnd, dOr, dNot, dAndV, dOrV, dNotV, dIf, dIsN, dNotN, isNon, fIsB, fI, fI0, fAdd, fMul, fEqG, fIx, dNil, dCons, dTup, dLst, dLstF, dSh, dCB, dCBv, cI1, cI2, cInt, cLen, cTuple, cList, cAll, cAny, cSum, dIsi, dIsi2, isa, tyn, isa_NoneType_int, isa_NoneType_bool, isa_NoneType_str, isa_NoneType_tuple, isa_NoneType_list, isa_bool_int, isa_bool_bool, isa_bool_str, isa_bool_tuple, isa_bool_list, isa_int_int, isa_int_bool, isa_int_str, isa_int_tuple, isa_int_list, isa_str_int, isa_str_bool, isa_str_str, isa_str_tuple, isa_str_list, isa_tuple_int, isa_tuple_bool, isa_tuple_str, isa_tuple_tuple, isa_tuple_list, isa_list_int, isa_list_bool, isa_list_str, isa_list_tuple, isa_list_list, itT, itF, itNT, itNF, id, dFld, dFldI, dNoPart, dPart, dSl, dRevL, dNeg, dCall, dMake, isOw, dApp, dPop0, dPopAt, vNil, vCons, vConsF, srcE, srcR1, srcR2, srcEnum, dYes, lcTurn, cNm, cTp, setAllD, wipeD, startD, dChain, SV.data, enumD, List.map_cons, List.map_nil, List.length_cons, List.length_nil, List.getElem?_cons_zero, List.getElem?_cons_succ, List.set_cons_zero, List.set_cons_succ, List.replicate_zero, List.replicate_succ, List.cons_append, List.nil_append, Nat.reduceAdd, Nat.reduceSub, Nat.zero_add, Option.isSome_some, Option.isSome_none, Bool.not_true, Bool.not_false, Option.bind_some]
    exact bl_eq h (by simp)
  | _ => cases hp
theorem ok__law_like (T : Txt K mg A) : ∀ j, DFn tk P w K mg base "_law_like" j 2 ["told", "due"] A.f__law_like A.d__law_like (c__law_like j)
  | 0 => ok0__law_like T
  | j + 1 => okS__law_like T (ok__law_like T j)

/-- how many of the first one numbers lie from k - other on -/
def both (k a b : Int) : Int := max 0 (a + b - k)
def kindsD (p q : Bool) : List D := (if p then [.str "papers"] else []) ++ (if q then [.str "unseen"] else [])
def pB (k u w1 : Int) : Bool := decide (0 < u ∧ 2 * w1 - k ≤ u)
def qB (k u w2 c : Int) : Bool := decide (c + w2 - k ≤ u)
theorem lk_k {k s u w1 w2 c h : Int} : List.lookup ("k" : Str) (numF k s u w1 w2 c h) = some (D.int k) := rfl
theorem lk_u {k s u w1 w2 c h : Int} : List.lookup ("u" : Str) (numF k s u w1 w2 c h) = some (D.int u) := rfl
theorem lk_w1 {k s u w1 w2 c h : Int} : List.lookup ("w1" : Str) (numF k s u w1 w2 c h) = some (D.int w1) := rfl
theorem lk_w2 {k s u w1 w2 c h : Int} : List.lookup ("w2" : Str) (numF k s u w1 w2 c h) = some (D.int w2) := rfl
theorem lk_c {k s u w1 w2 c h : Int} : List.lookup ("c" : Str) (numF k s u w1 w2 c h) = some (D.int c) := rfl
def NumB (k u w1 w2 c : Int) : Prop := k ≤ 12 ∧ 0 ≤ u ∧ 1 ≤ w1 ∧ w1 ≤ k ∧ 1 ≤ w2 ∧ w2 ≤ k ∧ 1 ≤ c ∧ c ≤ k
theorem mul2 {z : Int} : MulOk 2 z := .inl (.inl ⟨by decide, by decide⟩)
def OfNum (A : Adr) (f : Int → Int → Int → Int → Int → D) : DSp := fun xs Q => ∃ k s u w1 w2 c h, xs = [.obj A.C_Numbers (numF k s u w1 w2 c h)] ∧ NumB k u w1 w2 c ∧ Q (f k u w1 w2 c)

def c_taken_slack (A : Adr) : DSp := OfNum A fun k u w1 w2 c => .int (2 * w1 - k - u)
theorem sc_taken_slack : FnScope ["numbers"] ["numbers"] (defScope s_taken_slack) := ⟨rfl, rfl, rfl, by decide +kernel, rfl, by decide +kernel, by decide +kernel⟩
set_option maxHeartbeats 16000000 in
theorem ok_taken_slack (T : Txt K mg A) : DFn tk P w K mg base "taken_slack" 1 1 ["numbers"] A.f_taken_slack A.d_taken_slack (c_taken_slack A) := by
  have sc := sc_taken_slack
  refine DFn.of T.f_taken_slack sc rfl (fun cdv B outer s H E hr =>
    (dss_one (ds_ret (de_op op_sub opd_sub (de_op op_sub opd_sub (de_op op_mulAll opd_mul de_int (de_fld K (de_nm (pv 0)) rfl)) (de_fld K (de_nm (pv 0)) rfl)) (de_fld K (de_nm (pv 0)) rfl))))) ?_

  rintro xs Q hl ⟨k, s, u, w1, w2, c, h, rfl, hb, q⟩
  rw [show startD ["numbers"] (List.map SV.sh [.obj A.C_Numbers (numF k s u w1 w2 c h)]) = ([some (.sh (.obj A.C_Numbers (numF k s u w1 w2 c h)))] : DS) from rfl]
  dsimp only [dLc, sRet, sRetN, sIf, sDrop, sSet, sSetF, sAug, sAsg, sPar, sPar3, sFldI, sSetIx, sBreak, sCont, sNext, gNm, gTp, gsCons, gsNil, fSub, fDiv, fMod, fPow, fLt, fLe, fGt, fGe, fEq, fNe, cAbs, cMax, cMin, dVar, dC, dOp, dOpv, dPk, dTest, dAnd, dOr, dNot, dAndV, dOrV, dNotV, dIf, dIsN, dNotN, isNon, fIsB, fI, fI0, fAdd, fMul, fEqG, fIx, dNil, dCons, dTup, dLst, dLstF, dSh, dCB, dCBv, cI1, cI2, cInt, cLen, cTuple, cList, cAll, cAny, cSum, dIsi, dIsi2, isa, tyn, isa_NoneType_int, isa_NoneType_bool, isa_NoneType_str, isa_NoneType_tuple, isa_NoneType_list, isa_bool_int, isa_bool_bool, isa_bool_str, isa_bool_tuple, isa_bool_list, isa_int_int, isa_int_bool, isa_int_str, isa_int_tuple, isa_int_list, isa_str_int, isa_str_bool, isa_str_str, isa_str_tuple, isa_str_list, isa_tuple_int, isa_tuple_bool, isa_tuple_str, isa_tuple_tuple, isa_tuple_list, isa_list_int, isa_list_bool, isa_list_str, isa_list_tuple, isa_list_list, itT, itF, itNT, itNF, id, dFld, dFldI, dNoPart, dPart, dSl, dRevL, dNeg, dCall, dMake, isOw, dApp, dPop0, dPopAt, vNil, vCons, vConsF, srcE, srcR1, srcR2, srcEnum, dYes, lcTurn, cNm, cTp, setAllD, wipeD, startD, dChain, SV.data, enumD, List.map_cons, List.map_nil, List.length_cons, List.length_nil, List.getElem?_cons_zero, List.getElem?_cons_succ, List.set_cons_zero, List.set_cons_succ, List.replicate_zero, List.replicate_succ, List.cons_append, List.nil_append, Nat.reduceAdd, Nat.reduceSub, Nat.zero_add, Option.isSome_some, Option.isSome_none, Bool.not_true, Bool.not_false, Option.bind_some, lk_k, lk_u, lk_w1, lk_w2, lk_c]
  exact ⟨⟨T.c_Numbers.cl, T.a_Numbers_w1⟩, mul2, ⟨T.c_Numbers.cl, T.a_Numbers_k⟩, ⟨T.c_Numbers.cl, T.a_Numbers_u⟩, q⟩
theorem b_taken_slack (T : Txt K mg A) : Binds K A.d_taken_slack ["numbers"] [] := T.f_taken_slack.fn.bindsN (ps := ["numbers"]) fun _ _ _ _ _ _ us hl => match us, hl with | [_], _ => rfl


def c_shown_slack (A : Adr) : DSp := OfNum A fun k u w1 w2 c => .int (c + w2 - k - u)
theorem sc_shown_slack : FnScope ["numbers"] ["numbers"] (defScope s_shown_slack) := ⟨rfl, rfl, rfl, by decide +kernel, rfl, by decide +kernel, by decide +kernel⟩
set_option maxHeartbeats 16000000 in
theorem ok_shown_slack (T : Txt K mg A) : DFn tk P w K mg base "shown_slack" 1 1 ["numbers"] A.f_shown_slack A.d_shown_slack (c_shown_slack A) := by
  have sc := sc_shown_slack
  refine DFn.of T.f_shown_slack sc rfl (fun cdv B outer s H E hr =>
    (dss_one (ds_ret (de_op op_sub opd_sub (de_op op_sub opd_sub (de_op op_addAll opd_add (de_fld K (de_nm (pv 0)) rfl) (de_fld K (de_nm (pv 0)) rfl)) (de_fld K (de_nm (pv 0)) rfl)) (de_fld K (de_nm (pv 0)) rfl))))) ?_

  rintro xs Q hl ⟨k, s, u, w1, w2, c, h, rfl, hb, q⟩
  rw [show startD ["numbers"] (List.map SV.sh [.obj A.C_Numbers (numF k s u w1 w2 c h)]) = ([some (.sh (.obj A.C_Numbers (numF k s u w1 w2 c h)))] : DS) from rfl]
  dsimp only [dLc, sRet, sRetN, sIf, sDrop, sSet, sSetF, sAug, sAsg, sPar, sPar3, sFldI, sSetIx, sBreak, sCont, sNext, gNm, gTp, gsCons, gsNil, fSub, fDiv, fMod, fPow, fLt, fLe, fGt, fGe, fEq, fNe, cAbs, cMax, cMin, dVar, dC, dOp, dOpv, dPk, dTest, dAnd, dOr, dNot, dAndV, dOrV, dNotV, dIf, dIsN, dNotN, isNon, fIsB, fI, fI0, fAdd, fMul, fEqG, fIx, dNil, dCons, dTup, dLst, dLstF, dSh, dCB, dCBv, cI1, cI2, cInt, cLen, cTuple, cList, cAll, cAny, cSum, dIsi, dIsi2, isa, tyn, isa_NoneType_int, isa_NoneType_bool, isa_NoneType_str, isa_NoneType_tuple, isa_NoneType_list, isa_bool_int, isa_bool_bool, isa_bool_str, isa_bool_tuple, isa_bool_list, isa_int_int, isa_int_bool, isa_int_str, isa_int_tuple, isa_int_list, isa_str_int, isa_str_bool, isa_str_str, isa_str_tuple, isa_str_list, isa_tuple_int, isa_tuple_bool, isa_tuple_str, isa_tuple_tuple, isa_tuple_list, isa_list_int, isa_list_bool, isa_list_str, isa_list_tuple, isa_list_list, itT, itF, itNT, itNF, id, dFld, dFldI, dNoPart, dPart, dSl, dRevL, dNeg, dCall, dMake, isOw, dApp, dPop0, dPopAt, vNil, vCons, vConsF, srcE, srcR1, srcR2, srcEnum, dYes, lcTurn, cNm, cTp, setAllD, wipeD, startD, dChain, SV.data, enumD, List.map_cons, List.map_nil, List.length_cons, List.length_nil, List.getElem?_cons_zero, List.getElem?_cons_succ, List.set_cons_zero, List.set_cons_succ, List.replicate_zero, List.replicate_succ, List.cons_append, List.nil_append, Nat.reduceAdd, Nat.reduceSub, Nat.zero_add, Option.isSome_some, Option.isSome_none, Bool.not_true, Bool.not_false, Option.bind_some, lk_k, lk_u, lk_w1, lk_w2, lk_c]
  exact ⟨⟨T.c_Numbers.cl, T.a_Numbers_c⟩, ⟨T.c_Numbers.cl, T.a_Numbers_w2⟩, ⟨T.c_Numbers.cl, T.a_Numbers_k⟩, ⟨T.c_Numbers.cl, T.a_Numbers_u⟩, q⟩
theorem b_shown_slack (T : Txt K mg A) : Binds K A.d_shown_slack ["numbers"] [] := T.f_shown_slack.fn.bindsN (ps := ["numbers"]) fun _ _ _ _ _ _ us hl => match us, hl with | [_], _ => rfl


def c_kinds_of (A : Adr) : DSp := OfNum A fun k u w1 w2 c => .tup (kindsD (pB k u w1) (qB k u w2 c))
theorem sc_kinds_of : FnScope ["numbers", "found"] ["numbers"] (defScope s_kinds_of) := ⟨rfl, rfl, rfl, by decide +kernel, rfl, by decide +kernel, by decide +kernel⟩
set_option maxHeartbeats 16000000 in
theorem ok_kinds_of (T : Txt K mg A) : DFn tk P w K mg base "kinds_of" 2 1 ["numbers"] A.f_kinds_of A.d_kinds_of (c_kinds_of A) := by
  have sc := sc_kinds_of
  refine DFn.of T.f_kinds_of sc rfl (fun cdv B outer s H E hr =>
    (dss_cons (ds_setF (i := 1) sc.nd rfl (by first | exact Or.inl rfl | exact Or.inr rfl) (df_lst da_nil))
    (dss_cons (ds_if (dt_w (dw_and (dt_cmp op_gt opd_gt (de_fld K (de_nm (pv 0)) rfl) de_int (nomark _)) (dw_and1 (dt_cmp op_le opd_le (de_fn (ok_taken_slack T) (b_taken_slack T) (hr.mono (by decide)) (da_cons (de_nm (pv 0)) da_nil)) de_int (nomark _)))))
      (dss_one (ds_expr (de_append (pv 1) (de_glob (y := .str "papers") (v := .str "papers") rfl T.g_PAPERS.choose_spec ⟨_, rfl⟩ rfl))))
      dss_nil)
    (dss_cons (ds_if (dt_cmp op_le opd_le (de_fn (ok_shown_slack T) (b_shown_slack T) (hr.mono (by decide)) (da_cons (de_nm (pv 0)) da_nil)) de_int (nomark _))
      (dss_one (ds_expr (de_append (pv 1) (de_glob (y := .str "unseen") (v := .str "unseen") rfl T.g_UNSEEN.choose_spec ⟨_, rfl⟩ rfl))))
      dss_nil)
    (dss_one (ds_ret (de_callTyv call_tuple_of calld_tuple rfl T.n_tuple (by decide +kernel) (pv 1)))))))) ?_

  rintro xs Q hl ⟨k, s, u, w1, w2, c, h, rfl, hb, q⟩
  replace q : Q (.tup (kindsD (pB k u w1) (qB k u w2 c))) := q
  rw [show startD ["numbers", "found"] (List.map SV.sh [.obj A.C_Numbers (numF k s u w1 w2 c h)]) = ([some (.sh (.obj A.C_Numbers (numF k s u w1 w2 c h))), none] : DS) from rfl]
  apply sq
  dsimp only [dLc, sRet, sRetN, sIf, sDrop, sSet, sSetF, sAug, sAsg, sPar, sPar3, sFldI, sSetIx, sBreak, sCont, sNext, gNm, gTp, gsCons, gsNil, fSub, fDiv, fMod, fPow, fLt, fLe, fGt, fGe, fEq, fNe, cAbs, cMax, cMin, dVar, dC, dOp, dOpv, dPk, dTest, dAnd, dOr, dNot, dAndV, dOrV, dNotV, dIf, dIsN, dNotN, isNon, fIsB, fI, fI0, fAdd, fMul, fEqG, fIx, dNil, dCons, dTup, dLst, dLstF, dSh, dCB, dCBv, cI1, cI2, cInt, cLen, cTuple, cList, cAll, cAny, cSum, dIsi, dIsi2, isa, tyn, isa_NoneType_int, isa_NoneType_bool, isa_NoneType_str, isa_NoneType_tuple, isa_NoneType_list, isa_bool_int, isa_bool_bool, isa_bool_str, isa_bool_tuple, isa_bool_list, isa_int_int, isa_int_bool, isa_int_str, isa_int_tuple, isa_int_list, isa_str_int, isa_str_bool, isa_str_str, isa_str_tuple, isa_str_list, isa_tuple_int, isa_tuple_bool, isa_tuple_str, isa_tuple_tuple, isa_tuple_list, isa_list_int, isa_list_bool, isa_list_str, isa_list_tuple, isa_list_list, itT, itF, itNT, itNF, id, dFld, dFldI, dNoPart, dPart, dSl, dRevL, dNeg, dCall, dMake, isOw, dApp, dPop0, dPopAt, vNil, vCons, vConsF, srcE, srcR1, srcR2, srcEnum, dYes, lcTurn, cNm, cTp, setAllD, wipeD, startD, dChain, SV.data, enumD, List.map_cons, List.map_nil, List.length_cons, List.length_nil, List.getElem?_cons_zero, List.getElem?_cons_succ, List.set_cons_zero, List.set_cons_succ, List.replicate_zero, List.replicate_succ, List.cons_append, List.nil_append, Nat.reduceAdd, Nat.reduceSub, Nat.zero_add, Option.isSome_some, Option.isSome_none, Bool.not_true, Bool.not_false, Option.bind_some]
  refine ⟨Nat.zero_le _, ?_⟩
  apply sq
  dsimp only [dLc, sRet, sRetN, sIf, sDrop, sSet, sSetF, sAug, sAsg, sPar, sPar3, sFldI, sSetIx, sBreak, sCont, sNext, gNm, gTp, gsCons, gsNil, fSub, fDiv, fMod, fPow, fLt, fLe, fGt, fGe, fEq, fNe, cAbs, cMax, cMin, dVar, dC, dOp, dOpv, dPk, dTest, dAnd, dOr, dNot, dAndV, dOrV, dNotV, dIf, dIsN, dNotN, isNon, fIsB, fI, fI0, fAdd, fMul, fEqG, fIx, dNil, dCons, dTup, dLst, dLstF, dSh, dCB, dCBv, cI1, cI2, cInt, cLen, cTuple, cList, cAll, cAny, cSum, dIsi, dIsi2, isa, tyn, isa_NoneType_int, isa_NoneType_bool, isa_NoneType_str, isa_NoneType_tuple, isa_NoneType_list, isa_bool_int, isa_bool_bool, isa_bool_str, isa_bool_tuple, isa_bool_list, isa_int_int, isa_int_bool, isa_int_str, isa_int_tuple, isa_int_list, isa_str_int, isa_str_bool, isa_str_str, isa_str_tuple, isa_str_list, isa_tuple_int, isa_tuple_bool, isa_tuple_str, isa_tuple_tuple, isa_tuple_list, isa_list_int, isa_list_bool, isa_list_str, isa_list_tuple, isa_list_list, itT, itF, itNT, itNF, id, dFld, dFldI, dNoPart, dPart, dSl, dRevL, dNeg, dCall, dMake, isOw, dApp, dPop0, dPopAt, vNil, vCons, vConsF, srcE, srcR1, srcR2, srcEnum, dYes, lcTurn, cNm, cTp, setAllD, wipeD, startD, dChain, SV.data, enumD, List.map_cons, List.map_nil, List.length_cons, List.length_nil, List.getElem?_cons_zero, List.getElem?_cons_succ, List.set_cons_zero, List.set_cons_succ, List.replicate_zero, List.replicate_succ, List.cons_append, List.nil_append, Nat.reduceAdd, Nat.reduceSub, Nat.zero_add, Option.isSome_some, Option.isSome_none, Bool.not_true, Bool.not_false, Option.bind_some, lk_k, lk_u, lk_w1, lk_w2, lk_c, c_taken_slack]
  refine ⟨⟨T.c_Numbers.cl, T.a_Numbers_u⟩, ?_⟩
  by_cases hp : 0 < u ∧ 2 * w1 - k ≤ u
  case pos =>
    rw [show pB k u w1 = true from decide_eq_true hp] at q
    refine ifT (decide_eq_true hp.1) ⟨rfl, k, s, u, w1, w2, c, h, rfl, hb, ifT (decide_eq_true (by omega)) ⟨by decide, ?_⟩⟩
    apply sq
    dsimp only [dLc, sRet, sRetN, sIf, sDrop, sSet, sSetF, sAug, sAsg, sPar, sPar3, sFldI, sSetIx, sBreak, sCont, sNext, gNm, gTp, gsCons, gsNil, fSub, fDiv, fMod, fPow, fLt, fLe, fGt, fGe, fEq, fNe, cAbs, cMax, cMin, dVar, dC, dOp, dOpv, dPk, dTest, dAnd, dOr, dNot, dAndV, dOrV, dNotV, dIf, dIsN, dNotN, isNon, fIsB, fI, fI0, fAdd, fMul, fEqG, fIx, dNil, dCons, dTup, dLst, dLstF, dSh, dCB, dCBv, cI1, cI2, cInt, cLen, cTuple, cList, cAll, cAny, cSum, dIsi, dIsi2, isa, tyn, isa_NoneType_int, isa_NoneType_bool, isa_NoneType_str, isa_NoneType_tuple, isa_NoneType_list, isa_bool_int, isa_bool_bool, isa_bool_str, isa_bool_tuple, isa_bool_list, isa_int_int, isa_int_bool, isa_int_str, isa_int_tuple, isa_int_list, isa_str_int, isa_str_bool, isa_str_str, isa_str_tuple, isa_str_list, isa_tuple_int, isa_tuple_bool, isa_tuple_str, isa_tuple_tuple, isa_tuple_list, isa_list_int, isa_list_bool, isa_list_str, isa_list_tuple, isa_list_list, itT, itF, itNT, itNF, id, dFld, dFldI, dNoPart, dPart, dSl, dRevL, dNeg, dCall, dMake, isOw, dApp, dPop0, dPopAt, vNil, vCons, vConsF, srcE, srcR1, srcR2, srcEnum, dYes, lcTurn, cNm, cTp, setAllD, wipeD, startD, dChain, SV.data, enumD, List.map_cons, List.map_nil, List.length_cons, List.length_nil, List.getElem?_cons_zero, List.getElem?_cons_succ, List.set_cons_zero, List.set_cons_succ, List.replicate_zero, List.replicate_succ, List.cons_append, List.nil_append, Nat.reduceAdd, Nat.reduceSub, Nat.zero_add, Option.isSome_some, Option.isSome_none, Bool.not_true, Bool.not_false, Option.bind_some, lk_k, lk_u, lk_w1, lk_w2, lk_c, c_shown_slack]
    refine ⟨rfl, k, s, u, w1, w2, c, h, rfl, hb, ?_⟩
    by_cases hq : c + w2 - k ≤ u
    · rw [show qB k u w2 c = true from decide_eq_true hq] at q
      exact ifT (decide_eq_true (by omega)) ⟨by decide, q⟩
    · rw [show qB k u w2 c = false from decide_eq_false hq] at q
      exact ifF (decide_eq_false (by omega)) q
  case neg =>
    rw [show pB k u w1 = false from decide_eq_false hp] at q
    refine ifB (fun e => ⟨rfl, k, s, u, w1, w2, c, h, rfl, hb, ifF (decide_eq_false (by have := of_decide_eq_true e; omega)) ?_⟩) (fun e => ?_)
    all_goals
      apply sq
      dsimp only [dLc, sRet, sRetN, sIf, sDrop, sSet, sSetF, sAug, sAsg, sPar, sPar3, sFldI, sSetIx, sBreak, sCont, sNext, gNm, gTp, gsCons, gsNil, fSub, fDiv, fMod, fPow, fLt, fLe, fGt, fGe, fEq, fNe, cAbs, cMax, cMin, dVar, dC, dOp, dOpv, dPk, dTest, dAnd, dOr, dNot, dAndV, dOrV, dNotV, dIf, dIsN, dNotN, isNon, fIsB, fI, fI0, fAdd, fMul, fEqG, fIx, dNil, dCons, dTup, dLst, dLstF, dSh, dCB, dCBv, cI1, cI2, cInt, cLen, cTuple, cList, cAll, cAny, cSum, dIsi, dIsi2, isa, tyn, isa_NoneType_int, isa_NoneType_bool, isa_NoneType_str, isa_NoneType_tuple, isa_NoneType_list, isa_bool_int, isa_bool_bool, isa_bool_str, isa_bool_tuple, isa_bool_list, isa_int_int, isa_int_bool, isa_int_str, isa_int_tuple, isa_int_list, isa_str_int, isa_str_bool, isa_str_str, isa_str_tuple, isa_str_list, isa_tuple_int, isa_tuple_bool, isa_tuple_str, isa_tuple_tuple, isa_tuple_list, isa_list_int, isa_list_bool, isa_list_str, isa_list_tuple, isa_list_list, itT, itF, itNT, itNF, id, dFld, dFldI, dNoPart, dPart, dSl, dRevL, dNeg, dCall, dMake, isOw, dApp, dPop0, dPopAt, vNil, vCons, vConsF, srcE, srcR1, srcR2, srcEnum, dYes, lcTurn, cNm, cTp, setAllD, wipeD, startD, dChain, SV.data, enumD, List.map_cons, List.map_nil, List.length_cons, List.length_nil, List.getElem?_cons_zero, List.getElem?_cons_succ, List.set_cons_zero, List.set_cons_succ, List.replicate_zero, List.replicate_succ, List.cons_append, List.nil_append, Nat.reduceAdd, Nat.reduceSub, Nat.zero_add, Option.isSome_some, Option.isSome_none, Bool.not_true, Bool.not_false, Option.bind_some, lk_k, lk_u, lk_w1, lk_w2, lk_c, c_shown_slack]
      refine ⟨rfl, k, s, u, w1, w2, c, h, rfl, hb, ?_⟩
      by_cases hq : c + w2 - k ≤ u
      · rw [show qB k u w2 c = true from decide_eq_true hq] at q
        exact ifT (decide_eq_true (by omega)) ⟨by decide, q⟩
      · rw [show qB k u w2 c = false from decide_eq_false hq] at q
        exact ifF (decide_eq_false (by omega)) q
theorem b_kinds_of (T : Txt K mg A) : Binds K A.d_kinds_of ["numbers"] [] := T.f_kinds_of.fn.bindsN (ps := ["numbers"]) fun _ _ _ _ _ _ us hl => match us, hl with | [_], _ => rfl


def c_least_shown (A : Adr) : DSp := OfNum A fun k u w1 w2 c => .int (max 0 (min (2 * w1) (c + w2) - k))
theorem sc_least_shown : FnScope ["numbers"] ["numbers"] (defScope s_least_shown) := ⟨rfl, rfl, rfl, by decide +kernel, rfl, by decide +kernel, by decide +kernel⟩
set_option maxHeartbeats 16000000 in
theorem ok_least_shown (T : Txt K mg A) : DFn tk P w K mg base "least_shown" 1 1 ["numbers"] A.f_least_shown A.d_least_shown (c_least_shown A) := by
  have sc := sc_least_shown
  refine DFn.of T.f_least_shown sc rfl (fun cdv B outer s H E hr =>
    (dss_one (ds_ret (de_callB (call_max2 rfl) calld_max rfl T.n_max (by decide +kernel) (da_cons de_int (da_cons (de_op op_sub opd_sub (de_callB (call_min2 rfl) calld_min rfl T.n_min (by decide +kernel) (da_cons (de_op op_mulAll opd_mul de_int (de_fld K (de_nm (pv 0)) rfl)) (da_cons (de_op op_addAll opd_add (de_fld K (de_nm (pv 0)) rfl) (de_fld K (de_nm (pv 0)) rfl)) da_nil))) (de_fld K (de_nm (pv 0)) rfl)) da_nil)))))) ?_

  rintro xs Q hl ⟨k, s, u, w1, w2, c, h, rfl, hb, q⟩
  rw [show startD ["numbers"] (List.map SV.sh [.obj A.C_Numbers (numF k s u w1 w2 c h)]) = ([some (.sh (.obj A.C_Numbers (numF k s u w1 w2 c h)))] : DS) from rfl]
  dsimp only [dLc, sRet, sRetN, sIf, sDrop, sSet, sSetF, sAug, sAsg, sPar, sPar3, sFldI, sSetIx, sBreak, sCont, sNext, gNm, gTp, gsCons, gsNil, fSub, fDiv, fMod, fPow, fLt, fLe, fGt, fGe, fEq, fNe, cAbs, cMax, cMin, dVar, dC, dOp, dOpv, dPk, dTest, dAnd, dOr, dNot, dAndV, dOrV, dNotV, dIf, dIsN, dNotN, isNon, fIsB, fI, fI0, fAdd, fMul, fEqG, fIx, dNil, dCons, dTup, dLst, dLstF, dSh, dCB, dCBv, cI1, cI2, cInt, cLen, cTuple, cList, cAll, cAny, cSum, dIsi, dIsi2, isa, tyn, isa_NoneType_int, isa_NoneType_bool, isa_NoneType_str, isa_NoneType_tuple, isa_NoneType_list, isa_bool_int, isa_bool_bool, isa_bool_str, isa_bool_tuple, isa_bool_list, isa_int_int, isa_int_bool, isa_int_str, isa_int_tuple, isa_int_list, isa_str_int, isa_str_bool, isa_str_str, isa_str_tuple, isa_str_list, isa_tuple_int, isa_tuple_bool, isa_tuple_str, isa_tuple_tuple, isa_tuple_list, isa_list_int, isa_list_bool, isa_list_str, isa_list_tuple, isa_list_list, itT, itF, itNT, itNF, id, dFld, dFldI, dNoPart, dPart, dSl, dRevL, dNeg, dCall, dMake, isOw, dApp, dPop0, dPopAt, vNil, vCons, vConsF, srcE, srcR1, srcR2, srcEnum, dYes, lcTurn, cNm, cTp, setAllD, wipeD, startD, dChain, SV.data, enumD, List.map_cons, List.map_nil, List.length_cons, List.length_nil, List.getElem?_cons_zero, List.getElem?_cons_succ, List.set_cons_zero, List.set_cons_succ, List.replicate_zero, List.replicate_succ, List.cons_append, List.nil_append, Nat.reduceAdd, Nat.reduceSub, Nat.zero_add, Option.isSome_some, Option.isSome_none, Bool.not_true, Bool.not_false, Option.bind_some, lk_k, lk_u, lk_w1, lk_w2, lk_c]
  refine ⟨⟨T.c_Numbers.cl, T.a_Numbers_w1⟩, mul2, ⟨T.c_Numbers.cl, T.a_Numbers_c⟩, ⟨T.c_Numbers.cl, T.a_Numbers_w2⟩, ⟨T.c_Numbers.cl, T.a_Numbers_k⟩, int_eq q ?_⟩
  omega
theorem b_least_shown (T : Txt K mg A) : Binds K A.d_least_shown ["numbers"] [] := T.f_least_shown.fn.bindsN (ps := ["numbers"]) fun _ _ _ _ _ _ us hl => match us, hl with | [_], _ => rfl


def c_least_untrue (A : Adr) : DSp := OfNum A fun k u w1 w2 c => .int (max 0 (min (max 1 (2 * w1 - k)) (c + w2 - k)))
theorem sc_least_untrue : FnScope ["numbers"] ["numbers"] (defScope s_least_untrue) := ⟨rfl, rfl, rfl, by decide +kernel, rfl, by decide +kernel, by decide +kernel⟩
set_option maxHeartbeats 16000000 in
theorem ok_least_untrue (T : Txt K mg A) : DFn tk P w K mg base "least_untrue" 1 1 ["numbers"] A.f_least_untrue A.d_least_untrue (c_least_untrue A) := by
  have sc := sc_least_untrue
  refine DFn.of T.f_least_untrue sc rfl (fun cdv B outer s H E hr =>
    (dss_one (ds_ret (de_callB (call_max2 rfl) calld_max rfl T.n_max (by decide +kernel) (da_cons de_int (da_cons (de_callB (call_min2 rfl) calld_min rfl T.n_min (by decide +kernel) (da_cons (de_callB (call_max2 rfl) calld_max rfl T.n_max (by decide +kernel) (da_cons de_int (da_cons (de_op op_sub opd_sub (de_op op_mulAll opd_mul de_int (de_fld K (de_nm (pv 0)) rfl)) (de_fld K (de_nm (pv 0)) rfl)) da_nil))) (da_cons (de_op op_sub opd_sub (de_op op_addAll opd_add (de_fld K (de_nm (pv 0)) rfl) (de_fld K (de_nm (pv 0)) rfl)) (de_fld K (de_nm (pv 0)) rfl)) da_nil))) da_nil)))))) ?_

  rintro xs Q hl ⟨k, s, u, w1, w2, c, h, rfl, hb, q⟩
  rw [show startD ["numbers"] (List.map SV.sh [.obj A.C_Numbers (numF k s u w1 w2 c h)]) = ([some (.sh (.obj A.C_Numbers (numF k s u w1 w2 c h)))] : DS) from rfl]
  dsimp only [dLc, sRet, sRetN, sIf, sDrop, sSet, sSetF, sAug, sAsg, sPar, sPar3, sFldI, sSetIx, sBreak, sCont, sNext, gNm, gTp, gsCons, gsNil, fSub, fDiv, fMod, fPow, fLt, fLe, fGt, fGe, fEq, fNe, cAbs, cMax, cMin, dVar, dC, dOp, dOpv, dPk, dTest, dAnd, dOr, dNot, dAndV, dOrV, dNotV, dIf, dIsN, dNotN, isNon, fIsB, fI, fI0, fAdd, fMul, fEqG, fIx, dNil, dCons, dTup, dLst, dLstF, dSh, dCB, dCBv, cI1, cI2, cInt, cLen, cTuple, cList, cAll, cAny, cSum, dIsi, dIsi2, isa, tyn, isa_NoneType_int, isa_NoneType_bool, isa_NoneType_str, isa_NoneType_tuple, isa_NoneType_list, isa_bool_int, isa_bool_bool, isa_bool_str, isa_bool_tuple, isa_bool_list, isa_int_int, isa_int_bool, isa_int_str, isa_int_tuple, isa_int_list, isa_str_int, isa_str_bool, isa_str_str, isa_str_tuple, isa_str_list, isa_tuple_int, isa_tuple_bool, isa_tuple_str, isa_tuple_tuple, isa_tuple_list, isa_list_int, isa_list_bool, isa_list_str, isa_list_tuple, isa_list_list, itT, itF, itNT, itNF, id, dFld, dFldI, dNoPart, dPart, dSl, dRevL, dNeg, dCall, dMake, isOw, dApp, dPop0, dPopAt, vNil, vCons, vConsF, srcE, srcR1, srcR2, srcEnum, dYes, lcTurn, cNm, cTp, setAllD, wipeD, startD, dChain, SV.data, enumD, List.map_cons, List.map_nil, List.length_cons, List.length_nil, List.getElem?_cons_zero, List.getElem?_cons_succ, List.set_cons_zero, List.set_cons_succ, List.replicate_zero, List.replicate_succ, List.cons_append, List.nil_append, Nat.reduceAdd, Nat.reduceSub, Nat.zero_add, Option.isSome_some, Option.isSome_none, Bool.not_true, Bool.not_false, Option.bind_some, lk_k, lk_u, lk_w1, lk_w2, lk_c]
  refine ⟨⟨T.c_Numbers.cl, T.a_Numbers_w1⟩, mul2, ⟨T.c_Numbers.cl, T.a_Numbers_k⟩, ⟨T.c_Numbers.cl, T.a_Numbers_c⟩, ⟨T.c_Numbers.cl, T.a_Numbers_w2⟩, ⟨T.c_Numbers.cl, T.a_Numbers_k⟩, int_eq q ?_⟩
  omega
theorem b_least_untrue (T : Txt K mg A) : Binds K A.d_least_untrue ["numbers"] [] := T.f_least_untrue.fn.bindsN (ps := ["numbers"]) fun _ _ _ _ _ _ us hl => match us, hl with | [_], _ => rfl


def c__law_both : DSp := fun xs Q => ∃ k a b : Int, xs = [.int k, .int a, .int b] ∧ (0 ≤ a ∧ a ≤ 100 ∧ 0 ≤ b ∧ b ≤ k) ∧ Q (.int (both k a b))
theorem sc__law_both : FnScope ["k", "one", "other", "x"] ["k", "one", "other"] (defScope s__law_both) := ⟨rfl, rfl, rfl, by decide +kernel, rfl, by decide +kernel, by decide +kernel⟩
set_option maxHeartbeats 16000000 in
theorem ok__law_both (T : Txt K mg A) : DFn tk P w K mg base "_law_both" 1 3 ["k", "one", "other"] A.f__law_both A.d__law_both c__law_both := by
  have sc := sc__law_both
  refine DFn.of T.f__law_both sc rfl (fun cdv B outer s H E hr =>
    (dss_one (ds_ret (de_callB call_lenAll calld_len rfl T.n_len (by decide +kernel) (da_cons (de_fr (df_lc (own := [("x", 3)]) (vs := [3]) rfl rfl sc.nd (sr_r1 rfl T.n_range (da_cons (de_nm (pv 1)) da_nil)) (blkOk_by (own := [("x", 3)]) (N := ["k", "one", "other", "x"]) (sc := defScope s__law_both) (by decide +kernel)) (gok_nm (i := 3) (by decide)) (fun _ _ _ _ _ => pg_name (i := 3) sc.nd rfl (Or.inl rfl)) (fun _ _ _ _ _ => dts_one (dt_cmpv op_ge opd_ge (pv 3) (de_op op_sub opd_sub (de_nm (pv 0)) (de_nm (pv 2))) (nomark _))) (fun _ _ _ _ _ => (de_nm (pv 3))))) da_nil))))) ?_

  rintro xs Q hl ⟨k, a, b, rfl, ⟨h1, h2, h3, h4⟩, q⟩
  rw [show startD ["k", "one", "other", "x"] (List.map SV.sh [.int k, .int a, .int b]) = ([some (.sh (.int k)), some (.sh (.int a)), some (.sh (.int b)), none] : DS) from rfl]
  dsimp only [dLc, sRet, sRetN, sIf, sDrop, sSet, sSetF, sAug, sAsg, sPar, sPar3, sFldI, sSetIx, sBreak, sCont, sNext, gNm, gTp, gsCons, gsNil, fSub, fDiv, fMod, fPow, fLt, fLe, fGt, fGe, fEq, fNe, cAbs, cMax, cMin, dVar, dC, dOp, dOpv, dPk, dTest, dAnd, dOr, dNot, dAndV, dOrV, dNotV, dIf, dIsN, dNotN, isNon, fIsB, fI, fI0, fAdd, fMul, fEqG, fIx, dNil, dCons, dTup, dLst, dLstF, dSh, dCB, dCBv, cI1, cI2, cInt, cLen, cTuple, cList, cAll, cAny, cSum, dIsi, dIsi2, isa, tyn, isa_NoneType_int, isa_NoneType_bool, isa_NoneType_str, isa_NoneType_tuple, isa_NoneType_list, isa_bool_int, isa_bool_bool, isa_bool_str, isa_bool_tuple, isa_bool_list, isa_int_int, isa_int_bool, isa_int_str, isa_int_tuple, isa_int_list, isa_str_int, isa_str_bool, isa_str_str, isa_str_tuple, isa_str_list, isa_tuple_int, isa_tuple_bool, isa_tuple_str, isa_tuple_tuple, isa_tuple_list, isa_list_int, isa_list_bool, isa_list_str, isa_list_tuple, isa_list_list, itT, itF, itNT, itNF, id, dFld, dFldI, dNoPart, dPart, dSl, dRevL, dNeg, dCall, dMake, isOw, dApp, dPop0, dPopAt, vNil, vCons, vConsF, srcE, srcR1, srcR2, srcEnum, dYes, lcTurn, cNm, cTp, setAllD, wipeD, startD, dChain, SV.data, enumD, List.map_cons, List.map_nil, List.length_cons, List.length_nil, List.getElem?_cons_zero, List.getElem?_cons_succ, List.set_cons_zero, List.set_cons_succ, List.replicate_zero, List.replicate_succ, List.cons_append, List.nil_append, Nat.reduceAdd, Nat.reduceSub, Nat.zero_add, Option.isSome_some, Option.isSome_none, Bool.not_true, Bool.not_false, Option.bind_some]
  refine ⟨⟨by omega, by omega⟩, fun i acc => acc.length ≤ i ∧ (acc.length : Int) = max 0 (i + b - k), ⟨Nat.le_refl _, by simp; omega⟩, ?_, ?_⟩
  · rintro i y acc hy ⟨g1, g2⟩
    obtain ⟨hi, rfl⟩ := rngD_at hy
    dsimp only [dLc, sRet, sRetN, sIf, sDrop, sSet, sSetF, sAug, sAsg, sPar, sPar3, sFldI, sSetIx, sBreak, sCont, sNext, gNm, gTp, gsCons, gsNil, fSub, fDiv, fMod, fPow, fLt, fLe, fGt, fGe, fEq, fNe, cAbs, cMax, cMin, dVar, dC, dOp, dOpv, dPk, dTest, dAnd, dOr, dNot, dAndV, dOrV, dNotV, dIf, dIsN, dNotN, isNon, fIsB, fI, fI0, fAdd, fMul, fEqG, fIx, dNil, dCons, dTup, dLst, dLstF, dSh, dCB, dCBv, cI1, cI2, cInt, cLen, cTuple, cList, cAll, cAny, cSum, dIsi, dIsi2, isa, tyn, isa_NoneType_int, isa_NoneType_bool, isa_NoneType_str, isa_NoneType_tuple, isa_NoneType_list, isa_bool_int, isa_bool_bool, isa_bool_str, isa_bool_tuple, isa_bool_list, isa_int_int, isa_int_bool, isa_int_str, isa_int_tuple, isa_int_list, isa_str_int, isa_str_bool, isa_str_str, isa_str_tuple, isa_str_list, isa_tuple_int, isa_tuple_bool, isa_tuple_str, isa_tuple_tuple, isa_tuple_list, isa_list_int, isa_list_bool, isa_list_str, isa_list_tuple, isa_list_list, itT, itF, itNT, itNF, id, dFld, dFldI, dNoPart, dPart, dSl, dRevL, dNeg, dCall, dMake, isOw, dApp, dPop0, dPopAt, vNil, vCons, vConsF, srcE, srcR1, srcR2, srcEnum, dYes, lcTurn, cNm, cTp, setAllD, wipeD, startD, dChain, SV.data, enumD, List.map_cons, List.map_nil, List.length_cons, List.length_nil, List.getElem?_cons_zero, List.getElem?_cons_succ, List.set_cons_zero, List.set_cons_succ, List.replicate_zero, List.replicate_succ, List.cons_append, List.nil_append, Nat.reduceAdd, Nat.reduceSub, Nat.zero_add, Option.isSome_some, Option.isSome_none, Bool.not_true, Bool.not_false, Option.bind_some, wipeD]
    refine ifB (fun e => ⟨rfl, ?_, ?_⟩) (fun e => ⟨rfl, ?_⟩)
    · exact Nat.lt_of_le_of_lt g1 (Nat.lt_of_lt_of_le (show i < 100 by omega) (by decide))
    · have e' := of_decide_eq_true e
      rw [List.length_append]
      simp only [List.length_cons, List.length_nil]
      omega
    · have e' := of_decide_eq_false e
      omega
  · rintro acc ⟨g1, g2⟩
    refine int_eq q ?_
    rw [rngD_len] at g2
    unfold both
    rw [g2]
    omega
theorem b__law_both (T : Txt K mg A) : Binds K A.d__law_both ["k", "one", "other"] [] := T.f__law_both.fn.bindsN (ps := ["k", "one", "other"]) fun _ _ _ _ _ _ us hl => match us, hl with | [_, _, _], _ => rfl


def c__law_kinds : DSp := fun xs Q => ∃ k u w1 w2 c : Int, xs = [.int k, .int u, .int w1, .int w2, .int c] ∧ NumB k u w1 w2 c ∧ Q (.tup (kindsD (pB k u w1) (qB k u w2 c)))
theorem sc__law_kinds : FnScope ["k", "u", "w1", "w2", "c", "found"] ["k", "u", "w1", "w2", "c"] (defScope s__law_kinds) := ⟨rfl, rfl, rfl, by decide +kernel, rfl, by decide +kernel, by decide +kernel⟩
set_option maxHeartbeats 16000000 in
theorem ok__law_kinds (T : Txt K mg A) : DFn tk P w K mg base "_law_kinds" 2 5 ["k", "u", "w1", "w2", "c"] A.f__law_kinds A.d__law_kinds c__law_kinds := by
  have sc := sc__law_kinds
  refine DFn.of T.f__law_kinds sc rfl (fun cdv B outer s H E hr =>
    (dss_cons (ds_setF (i := 5) sc.nd rfl (by first | exact Or.inl rfl | exact Or.inr rfl) (df_lst da_nil))
    (dss_cons (ds_if (dt_w (dw_and (dt_cmpv op_gt opd_gt (pv 1) de_int (nomark _)) (dw_and (dt_cmp op_le opd_le (de_fn (ok__law_both T) (b__law_both T) (hr.mono (by decide)) (da_cons (de_nm (pv 0)) (da_cons (de_nm (pv 2)) (da_cons (de_nm (pv 2)) da_nil)))) (de_nm (pv 1)) (nomark _)) (dw_and1 (dt_cmp op_le opd_le (de_op op_sub opd_sub (de_op op_mulAll opd_mul de_int (de_nm (pv 2))) (de_nm (pv 0))) (de_nm (pv 1)) (nomark _))))))
      (dss_one (ds_expr (de_append (pv 5) de_str)))
      dss_nil)
    (dss_cons (ds_if (dt_w (dw_and (dt_cmp op_le opd_le (de_fn (ok__law_both T) (b__law_both T) (hr.mono (by decide)) (da_cons (de_nm (pv 0)) (da_cons (de_nm (pv 4)) (da_cons (de_nm (pv 3)) da_nil)))) (de_nm (pv 1)) (nomark _)) (dw_and1 (dt_cmp op_le opd_le (de_op op_sub opd_sub (de_op op_addAll opd_add (de_nm (pv 4)) (de_nm (pv 3))) (de_nm (pv 0))) (de_nm (pv 1)) (nomark _)))))
      (dss_one (ds_expr (de_append (pv 5) de_str)))
      dss_nil)
    (dss_one (ds_ret (de_callTyv call_tuple_of calld_tuple rfl T.n_tuple (by decide +kernel) (pv 5)))))))) ?_

  rintro xs Q hl ⟨k, u, w1, w2, c, rfl, ⟨h1, h2, h3, h4, h5, h6, h7, h8⟩, q⟩
  rw [show startD ["k", "u", "w1", "w2", "c", "found"] (List.map SV.sh [.int k, .int u, .int w1, .int w2, .int c]) = ([some (.sh (.int k)), some (.sh (.int u)), some (.sh (.int w1)), some (.sh (.int w2)), some (.sh (.int c)), none] : DS) from rfl]
  apply sq
  dsimp only [dLc, sRet, sRetN, sIf, sDrop, sSet, sSetF, sAug, sAsg, sPar, sPar3, sFldI, sSetIx, sBreak, sCont, sNext, gNm, gTp, gsCons, gsNil, fSub, fDiv, fMod, fPow, fLt, fLe, fGt, fGe, fEq, fNe, cAbs, cMax, cMin, dVar, dC, dOp, dOpv, dPk, dTest, dAnd, dOr, dNot, dAndV, dOrV, dNotV, dIf, dIsN, dNotN, isNon, fIsB, fI, fI0, fAdd, fMul, fEqG, fIx, dNil, dCons, dTup, dLst, dLstF, dSh, dCB, dCBv, cI1, cI2, cInt, cLen, cTuple, cList, cAll, cAny, cSum, dIsi, dIsi2, isa, tyn, isa_NoneType_int, isa_NoneType_bool, isa_NoneType_str, isa_NoneType_tuple, isa_NoneType_list, isa_bool_int, isa_bool_bool, isa_bool_str, isa_bool_tuple, isa_bool_list, isa_int_int, isa_int_bool, isa_int_str, isa_int_tuple, isa_int_list, isa_str_int, isa_str_bool, isa_str_str, isa_str_tuple, isa_str_list, isa_tuple_int, isa_tuple_bool, isa_tuple_str, isa_tuple_tuple, isa_tuple_list, isa_list_int, isa_list_bool, isa_list_str, isa_list_tuple, isa_list_list, itT, itF, itNT, itNF, id, dFld, dFldI, dNoPart, dPart, dSl, dRevL, dNeg, dCall, dMake, isOw, dApp, dPop0, dPopAt, vNil, vCons, vConsF, srcE, srcR1, srcR2, srcEnum, dYes, lcTurn, cNm, cTp, setAllD, wipeD, startD, dChain, SV.data, enumD, List.map_cons, List.map_nil, List.length_cons, List.length_nil, List.getElem?_cons_zero, List.getElem?_cons_succ, List.set_cons_zero, List.set_cons_succ, List.replicate_zero, List.replicate_succ, List.cons_append, List.nil_append, Nat.reduceAdd, Nat.reduceSub, Nat.zero_add, Option.isSome_some, Option.isSome_none, Bool.not_true, Bool.not_false, Option.bind_some]
  refine ⟨Nat.zero_le _, ?_⟩
  apply sq
  dsimp only [dLc, sRet, sRetN, sIf, sDrop, sSet, sSetF, sAug, sAsg, sPar, sPar3, sFldI, sSetIx, sBreak, sCont, sNext, gNm, gTp, gsCons, gsNil, fSub, fDiv, fMod, fPow, fLt, fLe, fGt, fGe, fEq, fNe, cAbs, cMax, cMin, dVar, dC, dOp, dOpv, dPk, dTest, dAnd, dOr, dNot, dAndV, dOrV, dNotV, dIf, dIsN, dNotN, isNon, fIsB, fI, fI0, fAdd, fMul, fEqG, fIx, dNil, dCons, dTup, dLst, dLstF, dSh, dCB, dCBv, cI1, cI2, cInt, cLen, cTuple, cList, cAll, cAny, cSum, dIsi, dIsi2, isa, tyn, isa_NoneType_int, isa_NoneType_bool, isa_NoneType_str, isa_NoneType_tuple, isa_NoneType_list, isa_bool_int, isa_bool_bool, isa_bool_str, isa_bool_tuple, isa_bool_list, isa_int_int, isa_int_bool, isa_int_str, isa_int_tuple, isa_int_list, isa_str_int, isa_str_bool, isa_str_str, isa_str_tuple, isa_str_list, isa_tuple_int, isa_tuple_bool, isa_tuple_str, isa_tuple_tuple, isa_tuple_list, isa_list_int, isa_list_bool, isa_list_str, isa_list_tuple, isa_list_list, itT, itF, itNT, itNF, id, dFld, dFldI, dNoPart, dPart, dSl, dRevL, dNeg, dCall, dMake, isOw, dApp, dPop0, dPopAt, vNil, vCons, vConsF, srcE, srcR1, srcR2, srcEnum, dYes, lcTurn, cNm, cTp, setAllD, wipeD, startD, dChain, SV.data, enumD, List.map_cons, List.map_nil, List.length_cons, List.length_nil, List.getElem?_cons_zero, List.getElem?_cons_succ, List.set_cons_zero, List.set_cons_succ, List.replicate_zero, List.replicate_succ, List.cons_append, List.nil_append, Nat.reduceAdd, Nat.reduceSub, Nat.zero_add, Option.isSome_some, Option.isSome_none, Bool.not_true, Bool.not_false, Option.bind_some, c__law_both]
  by_cases hp : 0 < u ∧ 2 * w1 - k ≤ u
  case pos =>
    rw [show pB k u w1 = true from decide_eq_true hp] at q
    refine ifT (decide_eq_true hp.1) ⟨rfl, k, w1, w1, rfl, ⟨by omega, by omega, by omega, h4⟩, ifT (decide_eq_true (by unfold both; omega)) ⟨mul2, ifT (decide_eq_true hp.2) ⟨by decide, ?_⟩⟩⟩
    apply sq
    dsimp only [dLc, sRet, sRetN, sIf, sDrop, sSet, sSetF, sAug, sAsg, sPar, sPar3, sFldI, sSetIx, sBreak, sCont, sNext, gNm, gTp, gsCons, gsNil, fSub, fDiv, fMod, fPow, fLt, fLe, fGt, fGe, fEq, fNe, cAbs, cMax, cMin, dVar, dC, dOp, dOpv, dPk, dTest, dAnd, dOr, dNot, dAndV, dOrV, dNotV, dIf, dIsN, dNotN, isNon, fIsB, fI, fI0, fAdd, fMul, fEqG, fIx, dNil, dCons, dTup, dLst, dLstF, dSh, dCB, dCBv, cI1, cI2, cInt, cLen, cTuple, cList, cAll, cAny, cSum, dIsi, dIsi2, isa, tyn, isa_NoneType_int, isa_NoneType_bool, isa_NoneType_str, isa_NoneType_tuple, isa_NoneType_list, isa_bool_int, isa_bool_bool, isa_bool_str, isa_bool_tuple, isa_bool_list, isa_int_int, isa_int_bool, isa_int_str, isa_int_tuple, isa_int_list, isa_str_int, isa_str_bool, isa_str_str, isa_str_tuple, isa_str_list, isa_tuple_int, isa_tuple_bool, isa_tuple_str, isa_tuple_tuple, isa_tuple_list, isa_list_int, isa_list_bool, isa_list_str, isa_list_tuple, isa_list_list, itT, itF, itNT, itNF, id, dFld, dFldI, dNoPart, dPart, dSl, dRevL, dNeg, dCall, dMake, isOw, dApp, dPop0, dPopAt, vNil, vCons, vConsF, srcE, srcR1, srcR2, srcEnum, dYes, lcTurn, cNm, cTp, setAllD, wipeD, startD, dChain, SV.data, enumD, List.map_cons, List.map_nil, List.length_cons, List.length_nil, List.getElem?_cons_zero, List.getElem?_cons_succ, List.set_cons_zero, List.set_cons_succ, List.replicate_zero, List.replicate_succ, List.cons_append, List.nil_append, Nat.reduceAdd, Nat.reduceSub, Nat.zero_add, Option.isSome_some, Option.isSome_none, Bool.not_true, Bool.not_false, Option.bind_some, c__law_both]
    refine ⟨rfl, k, c, w2, rfl, ⟨by omega, by omega, by omega, h6⟩, ?_⟩
    by_cases hq : c + w2 - k ≤ u
    · rw [show qB k u w2 c = true from decide_eq_true hq] at q
      exact ifT (decide_eq_true (by unfold both; omega)) (ifT (decide_eq_true hq) ⟨by decide, q⟩)
    · rw [show qB k u w2 c = false from decide_eq_false hq] at q
      exact ifF (decide_eq_false (by unfold both; omega)) q
  case neg =>
    rw [show pB k u w1 = false from decide_eq_false hp] at q
    refine ifB (fun e => ⟨rfl, k, w1, w1, rfl, ⟨by omega, by omega, by omega, h4⟩, ifF (decide_eq_false (by have := of_decide_eq_true e; unfold both; omega)) ?_⟩) (fun e => ?_)
    all_goals
      apply sq
      dsimp only [dLc, sRet, sRetN, sIf, sDrop, sSet, sSetF, sAug, sAsg, sPar, sPar3, sFldI, sSetIx, sBreak, sCont, sNext, gNm, gTp, gsCons, gsNil, fSub, fDiv, fMod, fPow, fLt, fLe, fGt, fGe, fEq, fNe, cAbs, cMax, cMin, dVar, dC, dOp, dOpv, dPk, dTest, dAnd, dOr, dNot, dAndV, dOrV, dNotV, dIf, dIsN, dNotN, isNon, fIsB, fI, fI0, fAdd, fMul, fEqG, fIx, dNil, dCons, dTup, dLst, dLstF, dSh, dCB, dCBv, cI1, cI2, cInt, cLen, cTuple, cList, cAll, cAny, cSum, dIsi, dIsi2, isa, tyn, isa_NoneType_int, isa_NoneType_bool, isa_NoneType_str, isa_NoneType_tuple, isa_NoneType_list, isa_bool_int, isa_bool_bool, isa_bool_str, isa_bool_tuple, isa_bool_list, isa_int_int, isa_int_bool, isa_int_str, isa_int_tuple, isa_int_list, isa_str_int, isa_str_bool, isa_str_str, isa_str_tuple, isa_str_list, isa_tuple_int, isa_tuple_bool, isa_tuple_str, isa_tuple_tuple, isa_tuple_list, isa_list_int, isa_list_bool, isa_list_str, isa_list_tuple, isa_list_list, itT, itF, itNT, itNF, id, dFld, dFldI, dNoPart, dPart, dSl, dRevL, dNeg, dCall, dMake, isOw, dApp, dPop0, dPopAt, vNil, vCons, vConsF, srcE, srcR1, srcR2, srcEnum, dYes, lcTurn, cNm, cTp, setAllD, wipeD, startD, dChain, SV.data, enumD, List.map_cons, List.map_nil, List.length_cons, List.length_nil, List.getElem?_cons_zero, List.getElem?_cons_succ, List.set_cons_zero, List.set_cons_succ, List.replicate_zero, List.replicate_succ, List.cons_append, List.nil_append, Nat.reduceAdd, Nat.reduceSub, Nat.zero_add, Option.isSome_some, Option.isSome_none, Bool.not_true, Bool.not_false, Option.bind_some, c__law_both]
      refine ⟨rfl, k, c, w2, rfl, ⟨by omega, by omega, by omega, h6⟩, ?_⟩
      by_cases hq : c + w2 - k ≤ u
      · rw [show qB k u w2 c = true from decide_eq_true hq] at q
        exact ifT (decide_eq_true (by unfold both; omega)) (ifT (decide_eq_true hq) ⟨by decide, q⟩)
      · rw [show qB k u w2 c = false from decide_eq_false hq] at q
        exact ifF (decide_eq_false (by unfold both; omega)) q
theorem b__law_kinds (T : Txt K mg A) : Binds K A.d__law_kinds ["k", "u", "w1", "w2", "c"] [] := T.f__law_kinds.fn.bindsN (ps := ["k", "u", "w1", "w2", "c"]) fun _ _ _ _ _ _ us hl => match us, hl with | [_, _, _, _, _], _ => rfl

theorem clampB {k m : Int} (h : 1 ≤ k) : ∃ w, (if (if m < k then m else k) > 1 then (if m < k then m else k) else 1) = w ∧ 1 ≤ w ∧ w ≤ k := by
  refine ⟨_, rfl, ?_, ?_⟩
  · split <;> omega
  · split
    · split <;> omega
    · omega
theorem cd2 {x : Int} : CDivW x 2 := ⟨by decide, by decide +kernel⟩
def needM (k w1 w2 c : Int) : Int := min (max 1 (2 * w1 - k)) (max 0 (c + w2 - k))
theorem hit {k w1 w2 c i : Int} (h : 0 ≤ i) : (pB k i w1 || qB k i w2 c) = decide (needM k w1 w2 c ≤ i) := by
  rw [Bool.eq_iff_iff]
  unfold pB qB
  rw [Bool.or_eq_true, decide_eq_true_eq, decide_eq_true_eq, decide_eq_true_eq]
  unfold needM
  constructor
  · rintro (⟨h1, h2⟩ | h1) <;> omega
  · intro h1
    by_cases h2 : c + w2 - k ≤ i
    · exact .inr h2
    · exact .inl ⟨by omega, by omega⟩
theorem plain_kinds {p q : Bool} : plainD 3 (.tup (kindsD p q)) = true := by
  cases p <;> cases q <;> rfl
theorem kinds_ne {p q : Bool} : ∃ a b, toP (.tup (kindsD p q)) = some a ∧ toP (.tup []) = some b ∧ SeqAt.shaped a = true ∧ SeqAt.shaped b = true ∧ (!PyData.eqv a b) = (p || q) := by
  cases p <;> cases q <;> exact ⟨_, _, rfl, rfl, by decide +kernel, by decide +kernel, rfl⟩

def c_law : DSp := cLaw
theorem sc_law : FnScope ["script", "heap", "turn", "k", "u", "s", "w1", "w2", "c", "numbers", "kinds", "needed", "some"] ["script"] (defScope s_law) := ⟨rfl, rfl, rfl, by decide +kernel, rfl, by decide +kernel, by decide +kernel⟩
set_option maxHeartbeats 16000000 in
theorem ok_law (T : Txt K mg A) : DFn tk P w K mg base "law" 5 1 ["script"] A.f_law A.d_law c_law := by
  have sc := sc_law
  refine DFn.of T.f_law sc rfl (fun cdv B outer s H E hr =>
    (dss_cons (ds_set (i := 1) sc.nd rfl (by first | exact Or.inl rfl | exact Or.inr rfl) (de_fn (ok__law_heap T) (b__law_heap T) (hr.mono (by decide)) (da_cons (de_nm (pv 0)) da_nil)))
    (dss_cons (ds_for PassesOwn.never rfl (sr_r1 rfl T.n_range (da_cons de_int da_nil)) (dg_name (i := 2) sc.nd rfl (by first | exact Or.inl rfl | exact Or.inr rfl))
      (dss_cons (ds_set (i := 3) sc.nd rfl (by first | exact Or.inl rfl | exact Or.inr rfl) (de_op op_addAll opd_add de_int (de_fn (ok__law_draw T) (b__law_draw T) (hr.mono (by decide)) (da_cons (de_nm (pv 1)) (da_cons de_int da_nil)))))
      (dss_cons (ds_par (i := 4) (j := 5) rfl sc.nd rfl rfl (by decide) rfl rfl (dv_cons (de_fn (ok__law_draw T) (b__law_draw T) (hr.mono (by decide)) (da_cons (de_nm (pv 1)) (da_cons (de_nm (pv 3)) da_nil))) (dv_cons (de_fn (ok__law_draw T) (b__law_draw T) (hr.mono (by decide)) (da_cons (de_nm (pv 1)) (da_cons (de_nm (pv 3)) da_nil))) dv_nil)) (by rfl))
      (dss_cons (ds_set (i := 6) sc.nd rfl (by first | exact Or.inl rfl | exact Or.inr rfl) (de_callB (call_max2 rfl) calld_max rfl T.n_max (by decide +kernel) (da_cons de_int (da_cons (de_callB (call_min2 rfl) calld_min rfl T.n_min (by decide +kernel) (da_cons (de_nm (pv 3)) (da_cons (de_fn (ok__law_pick T) (b__law_pick T) (hr.mono (by decide)) (da_cons (de_nm (pv 1)) (da_cons (de_tup (da_cons (de_op op_fdivW opd_div (de_op op_addAll opd_add (de_nm (pv 3)) (de_nm (pv 4))) de_int) (da_cons (de_op op_addAll opd_add (de_op op_fdivW opd_div (de_op op_addAll opd_add (de_nm (pv 3)) (de_nm (pv 4))) de_int) de_int) (da_cons (de_nm (pv 3)) (da_cons (de_op op_addAll opd_add de_int (de_fn (ok__law_draw T) (b__law_draw T) (hr.mono (by decide)) (da_cons (de_nm (pv 1)) (da_cons (de_nm (pv 3)) da_nil)))) da_nil))))) da_nil))) da_nil))) da_nil))))
      (dss_cons (ds_set (i := 7) sc.nd rfl (by first | exact Or.inl rfl | exact Or.inr rfl) (de_op op_addAll opd_add de_int (de_fn (ok__law_draw T) (b__law_draw T) (hr.mono (by decide)) (da_cons (de_nm (pv 1)) (da_cons (de_nm (pv 3)) da_nil)))))
      (dss_cons (ds_set (i := 8) sc.nd rfl (by first | exact Or.inl rfl | exact Or.inr rfl) (de_callB (call_max2 rfl) calld_max rfl T.n_max (by decide +kernel) (da_cons de_int (da_cons (de_callB (call_min2 rfl) calld_min rfl T.n_min (by decide +kernel) (da_cons (de_nm (pv 3)) (da_cons (de_fn (ok__law_pick T) (b__law_pick T) (hr.mono (by decide)) (da_cons (de_nm (pv 1)) (da_cons (de_tup (da_cons (de_op op_sub opd_sub (de_op op_addAll opd_add (de_nm (pv 3)) (de_nm (pv 4))) (de_nm (pv 7))) (da_cons (de_op op_addAll opd_add (de_op op_sub opd_sub (de_op op_addAll opd_add (de_nm (pv 3)) (de_nm (pv 4))) (de_nm (pv 7))) de_int) (da_cons (de_op op_addAll opd_add de_int (de_fn (ok__law_draw T) (b__law_draw T) (hr.mono (by decide)) (da_cons (de_nm (pv 1)) (da_cons (de_nm (pv 3)) da_nil)))) da_nil)))) da_nil))) da_nil))) da_nil))))
      (dss_cons (ds_set (i := 9) sc.nd rfl (by first | exact Or.inl rfl | exact Or.inr rfl) (de_cl (ok_Numbers T) (b_Numbers T) (hr.mono (by decide)) (da_cons (de_nm (pv 3)) (da_cons (de_nm (pv 5)) (da_cons (de_nm (pv 4)) (da_cons (de_nm (pv 6)) (da_cons (de_nm (pv 7)) (da_cons (de_nm (pv 8)) (da_cons (de_op op_addAll opd_add de_int (de_fn (ok__law_draw T) (b__law_draw T) (hr.mono (by decide)) (da_cons (de_nm (pv 1)) (da_cons (de_nm (pv 3)) da_nil)))) da_nil)))))))))
      (dss_cons (ds_if (dt_w (dw_or (dt_not (dt_val (de_fn (ok__law_like T 3) (b__law_like T) (hr.mono (by decide)) (da_cons (de_fn (ok_taken_slack T) (b_taken_slack T) (hr.mono (by decide)) (da_cons (de_nm (pv 9)) da_nil)) (da_cons (de_op op_sub opd_sub (de_op op_sub opd_sub (de_op op_mulAll opd_mul de_int (de_nm (pv 6))) (de_nm (pv 3))) (de_nm (pv 4))) da_nil))))) (dw_or1 (dt_not (dt_val (de_fn (ok__law_like T 3) (b__law_like T) (hr.mono (by decide)) (da_cons (de_fn (ok_shown_slack T) (b_shown_slack T) (hr.mono (by decide)) (da_cons (de_nm (pv 9)) da_nil)) (da_cons (de_op op_sub opd_sub (de_op op_sub opd_sub (de_op op_addAll opd_add (de_nm (pv 8)) (de_nm (pv 7))) (de_nm (pv 3))) (de_nm (pv 4))) da_nil))))))))
        (dss_one (ds_ret de_bl))
        dss_nil)
      (dss_cons (ds_set (i := 10) sc.nd rfl (by first | exact Or.inl rfl | exact Or.inr rfl) (de_fn (ok__law_kinds T) (b__law_kinds T) (hr.mono (by decide)) (da_cons (de_nm (pv 3)) (da_cons (de_nm (pv 4)) (da_cons (de_nm (pv 6)) (da_cons (de_nm (pv 7)) (da_cons (de_nm (pv 8)) da_nil)))))))
      (dss_cons (ds_if (dt_not (dt_val (de_fn (ok__law_like T 3) (b__law_like T) (hr.mono (by decide)) (da_cons (de_fn (ok_kinds_of T) (b_kinds_of T) (hr.mono (by decide)) (da_cons (de_nm (pv 9)) da_nil)) (da_cons (de_nm (pv 10)) da_nil)))))
        (dss_one (ds_ret de_bl))
        dss_nil)
      (dss_cons (ds_setLc (i := 11) (own := [("some", 12)]) (vs := [12]) rfl rfl sc.nd rfl rfl (sw_true rfl rfl rfl (by decide +kernel)) (sr_r1 rfl T.n_range (da_cons (de_op op_addAll opd_add (de_op op_mulAll opd_mul de_int (de_nm (pv 3))) de_int) da_nil)) (blkOk_by (own := [("some", 12)]) (N := ["script", "heap", "turn", "k", "u", "s", "w1", "w2", "c", "numbers", "kinds", "needed", "some"]) (sc := defScope s_law) (by decide +kernel)) (gok_nm (i := 12) (by decide)) (fun _ _ _ _ _ => pg_name (i := 12) sc.nd rfl (Or.inl rfl)) (fun _ _ _ _ _ => dts_one (dt_cmp (op_neAll hr.units) opd_ne (de_fn (ok__law_kinds T) (b__law_kinds T) (hr.mono (by decide)) (da_cons (de_nm (pv 3)) (da_cons (de_nm (pv 12)) (da_cons (de_nm (pv 6)) (da_cons (de_nm (pv 7)) (da_cons (de_nm (pv 8)) da_nil)))))) (de_tup da_nil) (nomark _))) (fun _ _ _ _ _ => (de_nm (pv 12))))
      (dss_cons (ds_if (dt_w (dw_or (dt_not (dt_val (de_fn (ok__law_like T 3) (b__law_like T) (hr.mono (by decide)) (da_cons (de_fn (ok_least_untrue T) (b_least_untrue T) (hr.mono (by decide)) (da_cons (de_nm (pv 9)) da_nil)) (da_cons (de_ixv ix_seq opd_ix (pv 11) de_int) da_nil))))) (dw_or1 (dt_cmp (op_neAll hr.units) opd_ne (de_cmpv (op_neAll hr.units) opd_ne (pv 10) (de_tup da_nil) (nomark _)) (de_cmpv op_ge opd_ge (pv 4) (de_ixv ix_seq opd_ix (pv 11) de_int) (nomark _)) (nomark _)))))
        (dss_one (ds_ret de_bl))
        dss_nil)
      (dss_one (ds_if (dt_not (dt_val (de_fn (ok__law_like T 3) (b__law_like T) (hr.mono (by decide)) (da_cons (de_fn (ok_least_shown T) (b_least_shown T) (hr.mono (by decide)) (da_cons (de_nm (pv 9)) da_nil)) (da_cons (de_callB (call_min2 rfl) calld_min rfl T.n_min (by decide +kernel) (da_cons (de_fn (ok__law_both T) (b__law_both T) (hr.mono (by decide)) (da_cons (de_nm (pv 3)) (da_cons (de_nm (pv 6)) (da_cons (de_nm (pv 6)) da_nil)))) (da_cons (de_fn (ok__law_both T) (b__law_both T) (hr.mono (by decide)) (da_cons (de_nm (pv 3)) (da_cons (de_nm (pv 8)) (da_cons (de_nm (pv 7)) da_nil)))) da_nil))) da_nil)))))
        (dss_one (ds_ret de_bl))
        dss_nil))))))))))))))
    (dss_one (ds_ret de_bl))))) ?_

  rintro xs Q hl ⟨ns, rfl, hn, q⟩
  rw [show startD ["script", "heap", "turn", "k", "u", "s", "w1", "w2", "c", "numbers", "kinds", "needed", "some"] (List.map SV.sh [.frz (ns.map D.int)]) = ([some (.sh (.frz (ns.map D.int))), none, none, none, none, none, none, none, none, none, none, none, none] : DS) from rfl]
  apply sq
  dsimp only [dLc, sRet, sRetN, sIf, sDrop, sSet, sSetF, sAug, sAsg, sPar, sPar3, sFldI, sSetIx, sBreak, sCont, sNext, gNm, gTp, gsCons, gsNil, fSub, fDiv, fMod, fPow, fLt, fLe, fGt, fGe, fEq, fNe, cAbs, cMax, cMin, dVar, dC, dOp, dOpv, dPk, dTest, dAnd, dOr, dNot, dAndV, dOrV, dNotV, dIf, dIsN, dNotN, isNon, fIsB, fI, fI0, fAdd, fMul, fEqG, fIx, dNil, dCons, dTup, dLst, dLstF, dSh, dCB, dCBv, cI1, cI2, cInt, cLen, cTuple, cList, cAll, cAny, cSum, dIsi, dIsi2, isa, tyn, isa_NoneType_int, isa_NoneType_bool, isa_NoneType_str, isa_NoneType_tuple, isa_NoneType_list, isa_bool_int, isa_bool_bool, isa_bool_str, isa_bool_tuple, isa_bool_list, isa_int_int, isa_int_bool, isa_int_str, isa_int_tuple, isa_int_list, isa_str_int, isa_str_bool, isa_str_str, isa_str_tuple, isa_str_list, isa_tuple_int, isa_tuple_bool, isa_tuple_str, isa_tuple_tuple, isa_tuple_list, isa_list_int, isa_list_bool, isa_list_str, isa_list_tuple, isa_list_list, itT, itF, itNT, itNF, id, dFld, dFldI, dNoPart, dPart, dSl, dRevL, dNeg, dCall, dMake, isOw, dApp, dPop0, dPopAt, vNil, vCons, vConsF, srcE, srcR1, srcR2, srcEnum, dYes, lcTurn, cNm, cTp, setAllD, wipeD, startD, dChain, SV.data, enumD, List.map_cons, List.map_nil, List.length_cons, List.length_nil, List.getElem?_cons_zero, List.getElem?_cons_succ, List.set_cons_zero, List.set_cons_succ, List.replicate_zero, List.replicate_succ, List.cons_append, List.nil_append, Nat.reduceAdd, Nat.reduceSub, Nat.zero_add, Option.isSome_some, Option.isSome_none, Bool.not_true, Bool.not_false, Option.bind_some, c__law_heap]
  refine ⟨rfl, ns, rfl, hn, fun a b => ?_⟩
  apply sq
  dsimp only [sFor]
  dsimp only [dLc, sRet, sRetN, sIf, sDrop, sSet, sSetF, sAug, sAsg, sPar, sPar3, sFldI, sSetIx, sBreak, sCont, sNext, gNm, gTp, gsCons, gsNil, fSub, fDiv, fMod, fPow, fLt, fLe, fGt, fGe, fEq, fNe, cAbs, cMax, cMin, dVar, dC, dOp, dOpv, dPk, dTest, dAnd, dOr, dNot, dAndV, dOrV, dNotV, dIf, dIsN, dNotN, isNon, fIsB, fI, fI0, fAdd, fMul, fEqG, fIx, dNil, dCons, dTup, dLst, dLstF, dSh, dCB, dCBv, cI1, cI2, cInt, cLen, cTuple, cList, cAll, cAny, cSum, dIsi, dIsi2, isa, tyn, isa_NoneType_int, isa_NoneType_bool, isa_NoneType_str, isa_NoneType_tuple, isa_NoneType_list, isa_bool_int, isa_bool_bool, isa_bool_str, isa_bool_tuple, isa_bool_list, isa_int_int, isa_int_bool, isa_int_str, isa_int_tuple, isa_int_list, isa_str_int, isa_str_bool, isa_str_str, isa_str_tuple, isa_str_list, isa_tuple_int, isa_tuple_bool, isa_tuple_str, isa_tuple_tuple, isa_tuple_list, isa_list_int, isa_list_bool, isa_list_str, isa_list_tuple, isa_list_list, itT, itF, itNT, itNF, id, dFld, dFldI, dNoPart, dPart, dSl, dRevL, dNeg, dCall, dMake, isOw, dApp, dPop0, dPopAt, vNil, vCons, vConsF, srcE, srcR1, srcR2, srcEnum, dYes, lcTurn, cNm, cTp, setAllD, wipeD, startD, dChain, SV.data, enumD, List.map_cons, List.map_nil, List.length_cons, List.length_nil, List.getElem?_cons_zero, List.getElem?_cons_succ, List.set_cons_zero, List.set_cons_succ, List.replicate_zero, List.replicate_succ, List.cons_append, List.nil_append, Nat.reduceAdd, Nat.reduceSub, Nat.zero_add, Option.isSome_some, Option.isSome_none, Bool.not_true, Bool.not_false, Option.bind_some]
  refine ⟨⟨by decide, by decide⟩, fun _ d => ∃ x2 x3 x4 x5 x6 x7 x8 x9 x10 x11 x12, d = [some (.sh (.frz (ns.map D.int))), some (.sh (.tok a b)), x2, x3, x4, x5, x6, x7, x8, x9, x10, x11, x12], ⟨_, _, _, _, _, _, _, _, _, _, _, rfl⟩, ?_, ?_⟩
  · rintro i y d hy ⟨x2, x3, x4, x5, x6, x7, x8, x9, x10, x11, x12, rfl⟩
    apply sq
    dsimp only [dLc, sRet, sRetN, sIf, sDrop, sSet, sSetF, sAug, sAsg, sPar, sPar3, sFldI, sSetIx, sBreak, sCont, sNext, gNm, gTp, gsCons, gsNil, fSub, fDiv, fMod, fPow, fLt, fLe, fGt, fGe, fEq, fNe, cAbs, cMax, cMin, dVar, dC, dOp, dOpv, dPk, dTest, dAnd, dOr, dNot, dAndV, dOrV, dNotV, dIf, dIsN, dNotN, isNon, fIsB, fI, fI0, fAdd, fMul, fEqG, fIx, dNil, dCons, dTup, dLst, dLstF, dSh, dCB, dCBv, cI1, cI2, cInt, cLen, cTuple, cList, cAll, cAny, cSum, dIsi, dIsi2, isa, tyn, isa_NoneType_int, isa_NoneType_bool, isa_NoneType_str, isa_NoneType_tuple, isa_NoneType_list, isa_bool_int, isa_bool_bool, isa_bool_str, isa_bool_tuple, isa_bool_list, isa_int_int, isa_int_bool, isa_int_str, isa_int_tuple, isa_int_list, isa_str_int, isa_str_bool, isa_str_str, isa_str_tuple, isa_str_list, isa_tuple_int, isa_tuple_bool, isa_tuple_str, isa_tuple_tuple, isa_tuple_list, isa_list_int, isa_list_bool, isa_list_str, isa_list_tuple, isa_list_list, itT, itF, itNT, itNF, id, dFld, dFldI, dNoPart, dPart, dSl, dRevL, dNeg, dCall, dMake, isOw, dApp, dPop0, dPopAt, vNil, vCons, vConsF, srcE, srcR1, srcR2, srcEnum, dYes, lcTurn, cNm, cTp, setAllD, wipeD, startD, dChain, SV.data, enumD, List.map_cons, List.map_nil, List.length_cons, List.length_nil, List.getElem?_cons_zero, List.getElem?_cons_succ, List.set_cons_zero, List.set_cons_succ, List.replicate_zero, List.replicate_succ, List.cons_append, List.nil_append, Nat.reduceAdd, Nat.reduceSub, Nat.zero_add, Option.isSome_some, Option.isSome_none, Bool.not_true, Bool.not_false, Option.bind_some, cDraw]
    refine ⟨rfl, ⟨by decide, by decide⟩, fun k0 k1 k2 => ?_⟩
    obtain ⟨k, hk, hk2, hk12⟩ : ∃ k, 2 + k0 = k ∧ 2 ≤ k ∧ k ≤ 12 := ⟨_, rfl, by omega, by omega⟩
    rw [hk]
    apply sq
    dsimp only [dLc, sRet, sRetN, sIf, sDrop, sSet, sSetF, sAug, sAsg, sPar, sPar3, sFldI, sSetIx, sBreak, sCont, sNext, gNm, gTp, gsCons, gsNil, fSub, fDiv, fMod, fPow, fLt, fLe, fGt, fGe, fEq, fNe, cAbs, cMax, cMin, dVar, dC, dOp, dOpv, dPk, dTest, dAnd, dOr, dNot, dAndV, dOrV, dNotV, dIf, dIsN, dNotN, isNon, fIsB, fI, fI0, fAdd, fMul, fEqG, fIx, dNil, dCons, dTup, dLst, dLstF, dSh, dCB, dCBv, cI1, cI2, cInt, cLen, cTuple, cList, cAll, cAny, cSum, dIsi, dIsi2, isa, tyn, isa_NoneType_int, isa_NoneType_bool, isa_NoneType_str, isa_NoneType_tuple, isa_NoneType_list, isa_bool_int, isa_bool_bool, isa_bool_str, isa_bool_tuple, isa_bool_list, isa_int_int, isa_int_bool, isa_int_str, isa_int_tuple, isa_int_list, isa_str_int, isa_str_bool, isa_str_str, isa_str_tuple, isa_str_list, isa_tuple_int, isa_tuple_bool, isa_tuple_str, isa_tuple_tuple, isa_tuple_list, isa_list_int, isa_list_bool, isa_list_str, isa_list_tuple, isa_list_list, itT, itF, itNT, itNF, id, dFld, dFldI, dNoPart, dPart, dSl, dRevL, dNeg, dCall, dMake, isOw, dApp, dPop0, dPopAt, vNil, vCons, vConsF, srcE, srcR1, srcR2, srcEnum, dYes, lcTurn, cNm, cTp, setAllD, wipeD, startD, dChain, SV.data, enumD, List.map_cons, List.map_nil, List.length_cons, List.length_nil, List.getElem?_cons_zero, List.getElem?_cons_succ, List.set_cons_zero, List.set_cons_succ, List.replicate_zero, List.replicate_succ, List.cons_append, List.nil_append, Nat.reduceAdd, Nat.reduceSub, Nat.zero_add, Option.isSome_some, Option.isSome_none, Bool.not_true, Bool.not_false, Option.bind_some, cDraw]
    refine ⟨rfl, ⟨by omega, by omega⟩, fun u u0 u1 => ⟨rfl, ⟨by omega, by omega⟩, fun s s0 s1 => ?_⟩⟩
    apply sq
    dsimp only [dLc, sRet, sRetN, sIf, sDrop, sSet, sSetF, sAug, sAsg, sPar, sPar3, sFldI, sSetIx, sBreak, sCont, sNext, gNm, gTp, gsCons, gsNil, fSub, fDiv, fMod, fPow, fLt, fLe, fGt, fGe, fEq, fNe, cAbs, cMax, cMin, dVar, dC, dOp, dOpv, dPk, dTest, dAnd, dOr, dNot, dAndV, dOrV, dNotV, dIf, dIsN, dNotN, isNon, fIsB, fI, fI0, fAdd, fMul, fEqG, fIx, dNil, dCons, dTup, dLst, dLstF, dSh, dCB, dCBv, cI1, cI2, cInt, cLen, cTuple, cList, cAll, cAny, cSum, dIsi, dIsi2, isa, tyn, isa_NoneType_int, isa_NoneType_bool, isa_NoneType_str, isa_NoneType_tuple, isa_NoneType_list, isa_bool_int, isa_bool_bool, isa_bool_str, isa_bool_tuple, isa_bool_list, isa_int_int, isa_int_bool, isa_int_str, isa_int_tuple, isa_int_list, isa_str_int, isa_str_bool, isa_str_str, isa_str_tuple, isa_str_list, isa_tuple_int, isa_tuple_bool, isa_tuple_str, isa_tuple_tuple, isa_tuple_list, isa_list_int, isa_list_bool, isa_list_str, isa_list_tuple, isa_list_list, itT, itF, itNT, itNF, id, dFld, dFldI, dNoPart, dPart, dSl, dRevL, dNeg, dCall, dMake, isOw, dApp, dPop0, dPopAt, vNil, vCons, vConsF, srcE, srcR1, srcR2, srcEnum, dYes, lcTurn, cNm, cTp, setAllD, wipeD, startD, dChain, SV.data, enumD, List.map_cons, List.map_nil, List.length_cons, List.length_nil, List.getElem?_cons_zero, List.getElem?_cons_succ, List.set_cons_zero, List.set_cons_succ, List.replicate_zero, List.replicate_succ, List.cons_append, List.nil_append, Nat.reduceAdd, Nat.reduceSub, Nat.zero_add, Option.isSome_some, Option.isSome_none, Bool.not_true, Bool.not_false, Option.bind_some, cDraw, c__law_pick, cPick]
    refine ⟨cd2, cd2, rfl, ⟨by omega, by omega⟩, fun r1 _ _ => ⟨by decide, rfl, ⟨by decide, by decide⟩, fun z1 hz1 => ?_⟩⟩
    obtain ⟨m1, rfl⟩ : ∃ m, z1 = .int m := by
      simp only [List.mem_cons, List.not_mem_nil, or_false] at hz1
      rcases hz1 with rfl | rfl | rfl | rfl <;> exact ⟨_, rfl⟩
    dsimp only [dLc, sRet, sRetN, sIf, sDrop, sSet, sSetF, sAug, sAsg, sPar, sPar3, sFldI, sSetIx, sBreak, sCont, sNext, gNm, gTp, gsCons, gsNil, fSub, fDiv, fMod, fPow, fLt, fLe, fGt, fGe, fEq, fNe, cAbs, cMax, cMin, dVar, dC, dOp, dOpv, dPk, dTest, dAnd, dOr, dNot, dAndV, dOrV, dNotV, dIf, dIsN, dNotN, isNon, fIsB, fI, fI0, fAdd, fMul, fEqG, fIx, dNil, dCons, dTup, dLst, dLstF, dSh, dCB, dCBv, cI1, cI2, cInt, cLen, cTuple, cList, cAll, cAny, cSum, dIsi, dIsi2, isa, tyn, isa_NoneType_int, isa_NoneType_bool, isa_NoneType_str, isa_NoneType_tuple, isa_NoneType_list, isa_bool_int, isa_bool_bool, isa_bool_str, isa_bool_tuple, isa_bool_list, isa_int_int, isa_int_bool, isa_int_str, isa_int_tuple, isa_int_list, isa_str_int, isa_str_bool, isa_str_str, isa_str_tuple, isa_str_list, isa_tuple_int, isa_tuple_bool, isa_tuple_str, isa_tuple_tuple, isa_tuple_list, isa_list_int, isa_list_bool, isa_list_str, isa_list_tuple, isa_list_list, itT, itF, itNT, itNF, id, dFld, dFldI, dNoPart, dPart, dSl, dRevL, dNeg, dCall, dMake, isOw, dApp, dPop0, dPopAt, vNil, vCons, vConsF, srcE, srcR1, srcR2, srcEnum, dYes, lcTurn, cNm, cTp, setAllD, wipeD, startD, dChain, SV.data, enumD, List.map_cons, List.map_nil, List.length_cons, List.length_nil, List.getElem?_cons_zero, List.getElem?_cons_succ, List.set_cons_zero, List.set_cons_succ, List.replicate_zero, List.replicate_succ, List.cons_append, List.nil_append, Nat.reduceAdd, Nat.reduceSub, Nat.zero_add, Option.isSome_some, Option.isSome_none, Bool.not_true, Bool.not_false, Option.bind_some]
    obtain ⟨w1, hw1, w10, w11⟩ := clampB (m := m1) (k := k) (by omega)
    rw [hw1]
    apply sq
    dsimp only [dLc, sRet, sRetN, sIf, sDrop, sSet, sSetF, sAug, sAsg, sPar, sPar3, sFldI, sSetIx, sBreak, sCont, sNext, gNm, gTp, gsCons, gsNil, fSub, fDiv, fMod, fPow, fLt, fLe, fGt, fGe, fEq, fNe, cAbs, cMax, cMin, dVar, dC, dOp, dOpv, dPk, dTest, dAnd, dOr, dNot, dAndV, dOrV, dNotV, dIf, dIsN, dNotN, isNon, fIsB, fI, fI0, fAdd, fMul, fEqG, fIx, dNil, dCons, dTup, dLst, dLstF, dSh, dCB, dCBv, cI1, cI2, cInt, cLen, cTuple, cList, cAll, cAny, cSum, dIsi, dIsi2, isa, tyn, isa_NoneType_int, isa_NoneType_bool, isa_NoneType_str, isa_NoneType_tuple, isa_NoneType_list, isa_bool_int, isa_bool_bool, isa_bool_str, isa_bool_tuple, isa_bool_list, isa_int_int, isa_int_bool, isa_int_str, isa_int_tuple, isa_int_list, isa_str_int, isa_str_bool, isa_str_str, isa_str_tuple, isa_str_list, isa_tuple_int, isa_tuple_bool, isa_tuple_str, isa_tuple_tuple, isa_tuple_list, isa_list_int, isa_list_bool, isa_list_str, isa_list_tuple, isa_list_list, itT, itF, itNT, itNF, id, dFld, dFldI, dNoPart, dPart, dSl, dRevL, dNeg, dCall, dMake, isOw, dApp, dPop0, dPopAt, vNil, vCons, vConsF, srcE, srcR1, srcR2, srcEnum, dYes, lcTurn, cNm, cTp, setAllD, wipeD, startD, dChain, SV.data, enumD, List.map_cons, List.map_nil, List.length_cons, List.length_nil, List.getElem?_cons_zero, List.getElem?_cons_succ, List.set_cons_zero, List.set_cons_succ, List.replicate_zero, List.replicate_succ, List.cons_append, List.nil_append, Nat.reduceAdd, Nat.reduceSub, Nat.zero_add, Option.isSome_some, Option.isSome_none, Bool.not_true, Bool.not_false, Option.bind_some, cDraw]
    refine ⟨rfl, ⟨by omega, by omega⟩, fun r2 r20 r21 => ?_⟩
    obtain ⟨w2, hw2, w20, w21⟩ : ∃ w2, 1 + r2 = w2 ∧ 1 ≤ w2 ∧ w2 ≤ k := ⟨_, rfl, by omega, by omega⟩
    rw [hw2]
    apply sq
    dsimp only [dLc, sRet, sRetN, sIf, sDrop, sSet, sSetF, sAug, sAsg, sPar, sPar3, sFldI, sSetIx, sBreak, sCont, sNext, gNm, gTp, gsCons, gsNil, fSub, fDiv, fMod, fPow, fLt, fLe, fGt, fGe, fEq, fNe, cAbs, cMax, cMin, dVar, dC, dOp, dOpv, dPk, dTest, dAnd, dOr, dNot, dAndV, dOrV, dNotV, dIf, dIsN, dNotN, isNon, fIsB, fI, fI0, fAdd, fMul, fEqG, fIx, dNil, dCons, dTup, dLst, dLstF, dSh, dCB, dCBv, cI1, cI2, cInt, cLen, cTuple, cList, cAll, cAny, cSum, dIsi, dIsi2, isa, tyn, isa_NoneType_int, isa_NoneType_bool, isa_NoneType_str, isa_NoneType_tuple, isa_NoneType_list, isa_bool_int, isa_bool_bool, isa_bool_str, isa_bool_tuple, isa_bool_list, isa_int_int, isa_int_bool, isa_int_str, isa_int_tuple, isa_int_list, isa_str_int, isa_str_bool, isa_str_str, isa_str_tuple, isa_str_list, isa_tuple_int, isa_tuple_bool, isa_tuple_str, isa_tuple_tuple, isa_tuple_list, isa_list_int, isa_list_bool, isa_list_str, isa_list_tuple, isa_list_list, itT, itF, itNT, itNF, id, dFld, dFldI, dNoPart, dPart, dSl, dRevL, dNeg, dCall, dMake, isOw, dApp, dPop0, dPopAt, vNil, vCons, vConsF, srcE, srcR1, srcR2, srcEnum, dYes, lcTurn, cNm, cTp, setAllD, wipeD, startD, dChain, SV.data, enumD, List.map_cons, List.map_nil, List.length_cons, List.length_nil, List.getElem?_cons_zero, List.getElem?_cons_succ, List.set_cons_zero, List.set_cons_succ, List.replicate_zero, List.replicate_succ, List.cons_append, List.nil_append, Nat.reduceAdd, Nat.reduceSub, Nat.zero_add, Option.isSome_some, Option.isSome_none, Bool.not_true, Bool.not_false, Option.bind_some, cDraw, c__law_pick, cPick]
    refine ⟨rfl, ⟨by omega, by omega⟩, fun r3 _ _ => ⟨by decide, rfl, ⟨by decide, by decide⟩, fun z3 hz3 => ?_⟩⟩
    obtain ⟨m3, rfl⟩ : ∃ m, z3 = .int m := by
      simp only [List.mem_cons, List.not_mem_nil, or_false] at hz3
      rcases hz3 with rfl | rfl | rfl <;> exact ⟨_, rfl⟩
    dsimp only [dLc, sRet, sRetN, sIf, sDrop, sSet, sSetF, sAug, sAsg, sPar, sPar3, sFldI, sSetIx, sBreak, sCont, sNext, gNm, gTp, gsCons, gsNil, fSub, fDiv, fMod, fPow, fLt, fLe, fGt, fGe, fEq, fNe, cAbs, cMax, cMin, dVar, dC, dOp, dOpv, dPk, dTest, dAnd, dOr, dNot, dAndV, dOrV, dNotV, dIf, dIsN, dNotN, isNon, fIsB, fI, fI0, fAdd, fMul, fEqG, fIx, dNil, dCons, dTup, dLst, dLstF, dSh, dCB, dCBv, cI1, cI2, cInt, cLen, cTuple, cList, cAll, cAny, cSum, dIsi, dIsi2, isa, tyn, isa_NoneType_int, isa_NoneType_bool, isa_NoneType_str, isa_NoneType_tuple, isa_NoneType_list, isa_bool_int, isa_bool_bool, isa_bool_str, isa_bool_tuple, isa_bool_list, isa_int_int, isa_int_bool, isa_int_str, isa_int_tuple, isa_int_list, isa_str_int, isa_str_bool, isa_str_str, isa_str_tuple, isa_str_list, isa_tuple_int, isa_tuple_bool, isa_tuple_str, isa_tuple_tuple, isa_tuple_list, isa_list_int, isa_list_bool, isa_list_str, isa_list_tuple, isa_list_list, itT, itF, itNT, itNF, id, dFld, dFldI, dNoPart, dPart, dSl, dRevL, dNeg, dCall, dMake, isOw, dApp, dPop0, dPopAt, vNil, vCons, vConsF, srcE, srcR1, srcR2, srcEnum, dYes, lcTurn, cNm, cTp, setAllD, wipeD, startD, dChain, SV.data, enumD, List.map_cons, List.map_nil, List.length_cons, List.length_nil, List.getElem?_cons_zero, List.getElem?_cons_succ, List.set_cons_zero, List.set_cons_succ, List.replicate_zero, List.replicate_succ, List.cons_append, List.nil_append, Nat.reduceAdd, Nat.reduceSub, Nat.zero_add, Option.isSome_some, Option.isSome_none, Bool.not_true, Bool.not_false, Option.bind_some]
    obtain ⟨c, hc, c0, c1⟩ := clampB (m := m3) (k := k) (by omega)
    rw [hc]
    apply sq
    dsimp only [dLc, sRet, sRetN, sIf, sDrop, sSet, sSetF, sAug, sAsg, sPar, sPar3, sFldI, sSetIx, sBreak, sCont, sNext, gNm, gTp, gsCons, gsNil, fSub, fDiv, fMod, fPow, fLt, fLe, fGt, fGe, fEq, fNe, cAbs, cMax, cMin, dVar, dC, dOp, dOpv, dPk, dTest, dAnd, dOr, dNot, dAndV, dOrV, dNotV, dIf, dIsN, dNotN, isNon, fIsB, fI, fI0, fAdd, fMul, fEqG, fIx, dNil, dCons, dTup, dLst, dLstF, dSh, dCB, dCBv, cI1, cI2, cInt, cLen, cTuple, cList, cAll, cAny, cSum, dIsi, dIsi2, isa, tyn, isa_NoneType_int, isa_NoneType_bool, isa_NoneType_str, isa_NoneType_tuple, isa_NoneType_list, isa_bool_int, isa_bool_bool, isa_bool_str, isa_bool_tuple, isa_bool_list, isa_int_int, isa_int_bool, isa_int_str, isa_int_tuple, isa_int_list, isa_str_int, isa_str_bool, isa_str_str, isa_str_tuple, isa_str_list, isa_tuple_int, isa_tuple_bool, isa_tuple_str, isa_tuple_tuple, isa_tuple_list, isa_list_int, isa_list_bool, isa_list_str, isa_list_tuple, isa_list_list, itT, itF, itNT, itNF, id, dFld, dFldI, dNoPart, dPart, dSl, dRevL, dNeg, dCall, dMake, isOw, dApp, dPop0, dPopAt, vNil, vCons, vConsF, srcE, srcR1, srcR2, srcEnum, dYes, lcTurn, cNm, cTp, setAllD, wipeD, startD, dChain, SV.data, enumD, List.map_cons, List.map_nil, List.length_cons, List.length_nil, List.getElem?_cons_zero, List.getElem?_cons_succ, List.set_cons_zero, List.set_cons_succ, List.replicate_zero, List.replicate_succ, List.cons_append, List.nil_append, Nat.reduceAdd, Nat.reduceSub, Nat.zero_add, Option.isSome_some, Option.isSome_none, Bool.not_true, Bool.not_false, Option.bind_some, cDraw]
    refine ⟨rfl, ⟨by omega, by omega⟩, fun r4 r40 r41 => ?_⟩
    dsimp only [dLc, sRet, sRetN, sIf, sDrop, sSet, sSetF, sAug, sAsg, sPar, sPar3, sFldI, sSetIx, sBreak, sCont, sNext, gNm, gTp, gsCons, gsNil, fSub, fDiv, fMod, fPow, fLt, fLe, fGt, fGe, fEq, fNe, cAbs, cMax, cMin, dVar, dC, dOp, dOpv, dPk, dTest, dAnd, dOr, dNot, dAndV, dOrV, dNotV, dIf, dIsN, dNotN, isNon, fIsB, fI, fI0, fAdd, fMul, fEqG, fIx, dNil, dCons, dTup, dLst, dLstF, dSh, dCB, dCBv, cI1, cI2, cInt, cLen, cTuple, cList, cAll, cAny, cSum, dIsi, dIsi2, isa, tyn, isa_NoneType_int, isa_NoneType_bool, isa_NoneType_str, isa_NoneType_tuple, isa_NoneType_list, isa_bool_int, isa_bool_bool, isa_bool_str, isa_bool_tuple, isa_bool_list, isa_int_int, isa_int_bool, isa_int_str, isa_int_tuple, isa_int_list, isa_str_int, isa_str_bool, isa_str_str, isa_str_tuple, isa_str_list, isa_tuple_int, isa_tuple_bool, isa_tuple_str, isa_tuple_tuple, isa_tuple_list, isa_list_int, isa_list_bool, isa_list_str, isa_list_tuple, isa_list_list, itT, itF, itNT, itNF, id, dFld, dFldI, dNoPart, dPart, dSl, dRevL, dNeg, dCall, dMake, isOw, dApp, dPop0, dPopAt, vNil, vCons, vConsF, srcE, srcR1, srcR2, srcEnum, dYes, lcTurn, cNm, cTp, setAllD, wipeD, startD, dChain, SV.data, enumD, List.map_cons, List.map_nil, List.length_cons, List.length_nil, List.getElem?_cons_zero, List.getElem?_cons_succ, List.set_cons_zero, List.set_cons_succ, List.replicate_zero, List.replicate_succ, List.cons_append, List.nil_append, Nat.reduceAdd, Nat.reduceSub, Nat.zero_add, Option.isSome_some, Option.isSome_none, Bool.not_true, Bool.not_false, Option.bind_some, c_Numbers]
    have hB : NumB k u w1 w2 c := ⟨hk12, u0, w10, w11, w20, w21, c0, c1⟩
    refine ⟨rfl, ⟨hk2, hk12, s0, s1, u0, u1, w10, w11, w20, w21, c0, c1, by omega, by omega⟩, ?_⟩
    apply sq
    dsimp only [dLc, sRet, sRetN, sIf, sDrop, sSet, sSetF, sAug, sAsg, sPar, sPar3, sFldI, sSetIx, sBreak, sCont, sNext, gNm, gTp, gsCons, gsNil, fSub, fDiv, fMod, fPow, fLt, fLe, fGt, fGe, fEq, fNe, cAbs, cMax, cMin, dVar, dC, dOp, dOpv, dPk, dTest, dAnd, dOr, dNot, dAndV, dOrV, dNotV, dIf, dIsN, dNotN, isNon, fIsB, fI, fI0, fAdd, fMul, fEqG, fIx, dNil, dCons, dTup, dLst, dLstF, dSh, dCB, dCBv, cI1, cI2, cInt, cLen, cTuple, cList, cAll, cAny, cSum, dIsi, dIsi2, isa, tyn, isa_NoneType_int, isa_NoneType_bool, isa_NoneType_str, isa_NoneType_tuple, isa_NoneType_list, isa_bool_int, isa_bool_bool, isa_bool_str, isa_bool_tuple, isa_bool_list, isa_int_int, isa_int_bool, isa_int_str, isa_int_tuple, isa_int_list, isa_str_int, isa_str_bool, isa_str_str, isa_str_tuple, isa_str_list, isa_tuple_int, isa_tuple_bool, isa_tuple_str, isa_tuple_tuple, isa_tuple_list, isa_list_int, isa_list_bool, isa_list_str, isa_list_tuple, isa_list_list, itT, itF, itNT, itNF, id, dFld, dFldI, dNoPart, dPart, dSl, dRevL, dNeg, dCall, dMake, isOw, dApp, dPop0, dPopAt, vNil, vCons, vConsF, srcE, srcR1, srcR2, srcEnum, dYes, lcTurn, cNm, cTp, setAllD, wipeD, startD, dChain, SV.data, enumD, List.map_cons, List.map_nil, List.length_cons, List.length_nil, List.getElem?_cons_zero, List.getElem?_cons_succ, List.set_cons_zero, List.set_cons_succ, List.replicate_zero, List.replicate_succ, List.cons_append, List.nil_append, Nat.reduceAdd, Nat.reduceSub, Nat.zero_add, Option.isSome_some, Option.isSome_none, Bool.not_true, Bool.not_false, Option.bind_some, c_taken_slack, c_shown_slack]
    refine ⟨rfl, k, s, u, w1, w2, c, 1 + r4, rfl, hB, ?_⟩
    dsimp only [dLc, sRet, sRetN, sIf, sDrop, sSet, sSetF, sAug, sAsg, sPar, sPar3, sFldI, sSetIx, sBreak, sCont, sNext, gNm, gTp, gsCons, gsNil, fSub, fDiv, fMod, fPow, fLt, fLe, fGt, fGe, fEq, fNe, cAbs, cMax, cMin, dVar, dC, dOp, dOpv, dPk, dTest, dAnd, dOr, dNot, dAndV, dOrV, dNotV, dIf, dIsN, dNotN, isNon, fIsB, fI, fI0, fAdd, fMul, fEqG, fIx, dNil, dCons, dTup, dLst, dLstF, dSh, dCB, dCBv, cI1, cI2, cInt, cLen, cTuple, cList, cAll, cAny, cSum, dIsi, dIsi2, isa, tyn, isa_NoneType_int, isa_NoneType_bool, isa_NoneType_str, isa_NoneType_tuple, isa_NoneType_list, isa_bool_int, isa_bool_bool, isa_bool_str, isa_bool_tuple, isa_bool_list, isa_int_int, isa_int_bool, isa_int_str, isa_int_tuple, isa_int_list, isa_str_int, isa_str_bool, isa_str_str, isa_str_tuple, isa_str_list, isa_tuple_int, isa_tuple_bool, isa_tuple_str, isa_tuple_tuple, isa_tuple_list, isa_list_int, isa_list_bool, isa_list_str, isa_list_tuple, isa_list_list, itT, itF, itNT, itNF, id, dFld, dFldI, dNoPart, dPart, dSl, dRevL, dNeg, dCall, dMake, isOw, dApp, dPop0, dPopAt, vNil, vCons, vConsF, srcE, srcR1, srcR2, srcEnum, dYes, lcTurn, cNm, cTp, setAllD, wipeD, startD, dChain, SV.data, enumD, List.map_cons, List.map_nil, List.length_cons, List.length_nil, List.getElem?_cons_zero, List.getElem?_cons_succ, List.set_cons_zero, List.set_cons_succ, List.replicate_zero, List.replicate_succ, List.cons_append, List.nil_append, Nat.reduceAdd, Nat.reduceSub, Nat.zero_add, Option.isSome_some, Option.isSome_none, Bool.not_true, Bool.not_false, Option.bind_some]
    refine ⟨mul2, rfl, like_ok rfl ?_⟩
    dsimp only [dLc, sRet, sRetN, sIf, sDrop, sSet, sSetF, sAug, sAsg, sPar, sPar3, sFldI, sSetIx, sBreak, sCont, sNext, gNm, gTp, gsCons, gsNil, fSub, fDiv, fMod, fPow, fLt, fLe, fGt, fGe, fEq, fNe, cAbs, cMax, cMin, dVar, dC, dOp, dOpv, dPk, dTest, dAnd, dOr, dNot, dAndV, dOrV, dNotV, dIf, dIsN, dNotN, isNon, fIsB, fI, fI0, fAdd, fMul, fEqG, fIx, dNil, dCons, dTup, dLst, dLstF, dSh, dCB, dCBv, cI1, cI2, cInt, cLen, cTuple, cList, cAll, cAny, cSum, dIsi, dIsi2, isa, tyn, isa_NoneType_int, isa_NoneType_bool, isa_NoneType_str, isa_NoneType_tuple, isa_NoneType_list, isa_bool_int, isa_bool_bool, isa_bool_str, isa_bool_tuple, isa_bool_list, isa_int_int, isa_int_bool, isa_int_str, isa_int_tuple, isa_int_list, isa_str_int, isa_str_bool, isa_str_str, isa_str_tuple, isa_str_list, isa_tuple_int, isa_tuple_bool, isa_tuple_str, isa_tuple_tuple, isa_tuple_list, isa_list_int, isa_list_bool, isa_list_str, isa_list_tuple, isa_list_list, itT, itF, itNT, itNF, id, dFld, dFldI, dNoPart, dPart, dSl, dRevL, dNeg, dCall, dMake, isOw, dApp, dPop0, dPopAt, vNil, vCons, vConsF, srcE, srcR1, srcR2, srcEnum, dYes, lcTurn, cNm, cTp, setAllD, wipeD, startD, dChain, SV.data, enumD, List.map_cons, List.map_nil, List.length_cons, List.length_nil, List.getElem?_cons_zero, List.getElem?_cons_succ, List.set_cons_zero, List.set_cons_succ, List.replicate_zero, List.replicate_succ, List.cons_append, List.nil_append, Nat.reduceAdd, Nat.reduceSub, Nat.zero_add, Option.isSome_some, Option.isSome_none, Bool.not_true, Bool.not_false, Option.bind_some]
    refine ⟨rfl, k, s, u, w1, w2, c, 1 + r4, rfl, hB, ?_⟩
    dsimp only [dLc, sRet, sRetN, sIf, sDrop, sSet, sSetF, sAug, sAsg, sPar, sPar3, sFldI, sSetIx, sBreak, sCont, sNext, gNm, gTp, gsCons, gsNil, fSub, fDiv, fMod, fPow, fLt, fLe, fGt, fGe, fEq, fNe, cAbs, cMax, cMin, dVar, dC, dOp, dOpv, dPk, dTest, dAnd, dOr, dNot, dAndV, dOrV, dNotV, dIf, dIsN, dNotN, isNon, fIsB, fI, fI0, fAdd, fMul, fEqG, fIx, dNil, dCons, dTup, dLst, dLstF, dSh, dCB, dCBv, cI1, cI2, cInt, cLen, cTuple, cList, cAll, cAny, cSum, dIsi, dIsi2, isa, tyn, isa_NoneType_int, isa_NoneType_bool, isa_NoneType_str, isa_NoneType_tuple, isa_NoneType_list, isa_bool_int, isa_bool_bool, isa_bool_str, isa_bool_tuple, isa_bool_list, isa_int_int, isa_int_bool, isa_int_str, isa_int_tuple, isa_int_list, isa_str_int, isa_str_bool, isa_str_str, isa_str_tuple, isa_str_list, isa_tuple_int, isa_tuple_bool, isa_tuple_str, isa_tuple_tuple, isa_tuple_list, isa_list_int, isa_list_bool, isa_list_str, isa_list_tuple, isa_list_list, itT, itF, itNT, itNF, id, dFld, dFldI, dNoPart, dPart, dSl, dRevL, dNeg, dCall, dMake, isOw, dApp, dPop0, dPopAt, vNil, vCons, vConsF, srcE, srcR1, srcR2, srcEnum, dYes, lcTurn, cNm, cTp, setAllD, wipeD, startD, dChain, SV.data, enumD, List.map_cons, List.map_nil, List.length_cons, List.length_nil, List.getElem?_cons_zero, List.getElem?_cons_succ, List.set_cons_zero, List.set_cons_succ, List.replicate_zero, List.replicate_succ, List.cons_append, List.nil_append, Nat.reduceAdd, Nat.reduceSub, Nat.zero_add, Option.isSome_some, Option.isSome_none, Bool.not_true, Bool.not_false, Option.bind_some]
    refine ⟨rfl, like_ok rfl ?_⟩
    dsimp only [dLc, sRet, sRetN, sIf, sDrop, sSet, sSetF, sAug, sAsg, sPar, sPar3, sFldI, sSetIx, sBreak, sCont, sNext, gNm, gTp, gsCons, gsNil, fSub, fDiv, fMod, fPow, fLt, fLe, fGt, fGe, fEq, fNe, cAbs, cMax, cMin, dVar, dC, dOp, dOpv, dPk, dTest, dAnd, dOr, dNot, dAndV, dOrV, dNotV, dIf, dIsN, dNotN, isNon, fIsB, fI, fI0, fAdd, fMul, fEqG, fIx, dNil, dCons, dTup, dLst, dLstF, dSh, dCB, dCBv, cI1, cI2, cInt, cLen, cTuple, cList, cAll, cAny, cSum, dIsi, dIsi2, isa, tyn, isa_NoneType_int, isa_NoneType_bool, isa_NoneType_str, isa_NoneType_tuple, isa_NoneType_list, isa_bool_int, isa_bool_bool, isa_bool_str, isa_bool_tuple, isa_bool_list, isa_int_int, isa_int_bool, isa_int_str, isa_int_tuple, isa_int_list, isa_str_int, isa_str_bool, isa_str_str, isa_str_tuple, isa_str_list, isa_tuple_int, isa_tuple_bool, isa_tuple_str, isa_tuple_tuple, isa_tuple_list, isa_list_int, isa_list_bool, isa_list_str, isa_list_tuple, isa_list_list, itT, itF, itNT, itNF, id, dFld, dFldI, dNoPart, dPart, dSl, dRevL, dNeg, dCall, dMake, isOw, dApp, dPop0, dPopAt, vNil, vCons, vConsF, srcE, srcR1, srcR2, srcEnum, dYes, lcTurn, cNm, cTp, setAllD, wipeD, startD, dChain, SV.data, enumD, List.map_cons, List.map_nil, List.length_cons, List.length_nil, List.getElem?_cons_zero, List.getElem?_cons_succ, List.set_cons_zero, List.set_cons_succ, List.replicate_zero, List.replicate_succ, List.cons_append, List.nil_append, Nat.reduceAdd, Nat.reduceSub, Nat.zero_add, Option.isSome_some, Option.isSome_none, Bool.not_true, Bool.not_false, Option.bind_some]
    apply sq
    dsimp only [dLc, sRet, sRetN, sIf, sDrop, sSet, sSetF, sAug, sAsg, sPar, sPar3, sFldI, sSetIx, sBreak, sCont, sNext, gNm, gTp, gsCons, gsNil, fSub, fDiv, fMod, fPow, fLt, fLe, fGt, fGe, fEq, fNe, cAbs, cMax, cMin, dVar, dC, dOp, dOpv, dPk, dTest, dAnd, dOr, dNot, dAndV, dOrV, dNotV, dIf, dIsN, dNotN, isNon, fIsB, fI, fI0, fAdd, fMul, fEqG, fIx, dNil, dCons, dTup, dLst, dLstF, dSh, dCB, dCBv, cI1, cI2, cInt, cLen, cTuple, cList, cAll, cAny, cSum, dIsi, dIsi2, isa, tyn, isa_NoneType_int, isa_NoneType_bool, isa_NoneType_str, isa_NoneType_tuple, isa_NoneType_list, isa_bool_int, isa_bool_bool, isa_bool_str, isa_bool_tuple, isa_bool_list, isa_int_int, isa_int_bool, isa_int_str, isa_int_tuple, isa_int_list, isa_str_int, isa_str_bool, isa_str_str, isa_str_tuple, isa_str_list, isa_tuple_int, isa_tuple_bool, isa_tuple_str, isa_tuple_tuple, isa_tuple_list, isa_list_int, isa_list_bool, isa_list_str, isa_list_tuple, isa_list_list, itT, itF, itNT, itNF, id, dFld, dFldI, dNoPart, dPart, dSl, dRevL, dNeg, dCall, dMake, isOw, dApp, dPop0, dPopAt, vNil, vCons, vConsF, srcE, srcR1, srcR2, srcEnum, dYes, lcTurn, cNm, cTp, setAllD, wipeD, startD, dChain, SV.data, enumD, List.map_cons, List.map_nil, List.length_cons, List.length_nil, List.getElem?_cons_zero, List.getElem?_cons_succ, List.set_cons_zero, List.set_cons_succ, List.replicate_zero, List.replicate_succ, List.cons_append, List.nil_append, Nat.reduceAdd, Nat.reduceSub, Nat.zero_add, Option.isSome_some, Option.isSome_none, Bool.not_true, Bool.not_false, Option.bind_some, c__law_kinds]
    refine ⟨rfl, k, u, w1, w2, c, rfl, hB, ?_⟩
    apply sq
    dsimp only [dLc, sRet, sRetN, sIf, sDrop, sSet, sSetF, sAug, sAsg, sPar, sPar3, sFldI, sSetIx, sBreak, sCont, sNext, gNm, gTp, gsCons, gsNil, fSub, fDiv, fMod, fPow, fLt, fLe, fGt, fGe, fEq, fNe, cAbs, cMax, cMin, dVar, dC, dOp, dOpv, dPk, dTest, dAnd, dOr, dNot, dAndV, dOrV, dNotV, dIf, dIsN, dNotN, isNon, fIsB, fI, fI0, fAdd, fMul, fEqG, fIx, dNil, dCons, dTup, dLst, dLstF, dSh, dCB, dCBv, cI1, cI2, cInt, cLen, cTuple, cList, cAll, cAny, cSum, dIsi, dIsi2, isa, tyn, isa_NoneType_int, isa_NoneType_bool, isa_NoneType_str, isa_NoneType_tuple, isa_NoneType_list, isa_bool_int, isa_bool_bool, isa_bool_str, isa_bool_tuple, isa_bool_list, isa_int_int, isa_int_bool, isa_int_str, isa_int_tuple, isa_int_list, isa_str_int, isa_str_bool, isa_str_str, isa_str_tuple, isa_str_list, isa_tuple_int, isa_tuple_bool, isa_tuple_str, isa_tuple_tuple, isa_tuple_list, isa_list_int, isa_list_bool, isa_list_str, isa_list_tuple, isa_list_list, itT, itF, itNT, itNF, id, dFld, dFldI, dNoPart, dPart, dSl, dRevL, dNeg, dCall, dMake, isOw, dApp, dPop0, dPopAt, vNil, vCons, vConsF, srcE, srcR1, srcR2, srcEnum, dYes, lcTurn, cNm, cTp, setAllD, wipeD, startD, dChain, SV.data, enumD, List.map_cons, List.map_nil, List.length_cons, List.length_nil, List.getElem?_cons_zero, List.getElem?_cons_succ, List.set_cons_zero, List.set_cons_succ, List.replicate_zero, List.replicate_succ, List.cons_append, List.nil_append, Nat.reduceAdd, Nat.reduceSub, Nat.zero_add, Option.isSome_some, Option.isSome_none, Bool.not_true, Bool.not_false, Option.bind_some, c_kinds_of]
    refine ⟨rfl, k, s, u, w1, w2, c, 1 + r4, rfl, hB, ?_⟩
    dsimp only [dLc, sRet, sRetN, sIf, sDrop, sSet, sSetF, sAug, sAsg, sPar, sPar3, sFldI, sSetIx, sBreak, sCont, sNext, gNm, gTp, gsCons, gsNil, fSub, fDiv, fMod, fPow, fLt, fLe, fGt, fGe, fEq, fNe, cAbs, cMax, cMin, dVar, dC, dOp, dOpv, dPk, dTest, dAnd, dOr, dNot, dAndV, dOrV, dNotV, dIf, dIsN, dNotN, isNon, fIsB, fI, fI0, fAdd, fMul, fEqG, fIx, dNil, dCons, dTup, dLst, dLstF, dSh, dCB, dCBv, cI1, cI2, cInt, cLen, cTuple, cList, cAll, cAny, cSum, dIsi, dIsi2, isa, tyn, isa_NoneType_int, isa_NoneType_bool, isa_NoneType_str, isa_NoneType_tuple, isa_NoneType_list, isa_bool_int, isa_bool_bool, isa_bool_str, isa_bool_tuple, isa_bool_list, isa_int_int, isa_int_bool, isa_int_str, isa_int_tuple, isa_int_list, isa_str_int, isa_str_bool, isa_str_str, isa_str_tuple, isa_str_list, isa_tuple_int, isa_tuple_bool, isa_tuple_str, isa_tuple_tuple, isa_tuple_list, isa_list_int, isa_list_bool, isa_list_str, isa_list_tuple, isa_list_list, itT, itF, itNT, itNF, id, dFld, dFldI, dNoPart, dPart, dSl, dRevL, dNeg, dCall, dMake, isOw, dApp, dPop0, dPopAt, vNil, vCons, vConsF, srcE, srcR1, srcR2, srcEnum, dYes, lcTurn, cNm, cTp, setAllD, wipeD, startD, dChain, SV.data, enumD, List.map_cons, List.map_nil, List.length_cons, List.length_nil, List.getElem?_cons_zero, List.getElem?_cons_succ, List.set_cons_zero, List.set_cons_succ, List.replicate_zero, List.replicate_succ, List.cons_append, List.nil_append, Nat.reduceAdd, Nat.reduceSub, Nat.zero_add, Option.isSome_some, Option.isSome_none, Bool.not_true, Bool.not_false, Option.bind_some]
    refine ⟨rfl, like_ok plain_kinds ?_⟩
    dsimp only [dLc, sRet, sRetN, sIf, sDrop, sSet, sSetF, sAug, sAsg, sPar, sPar3, sFldI, sSetIx, sBreak, sCont, sNext, gNm, gTp, gsCons, gsNil, fSub, fDiv, fMod, fPow, fLt, fLe, fGt, fGe, fEq, fNe, cAbs, cMax, cMin, dVar, dC, dOp, dOpv, dPk, dTest, dAnd, dOr, dNot, dAndV, dOrV, dNotV, dIf, dIsN, dNotN, isNon, fIsB, fI, fI0, fAdd, fMul, fEqG, fIx, dNil, dCons, dTup, dLst, dLstF, dSh, dCB, dCBv, cI1, cI2, cInt, cLen, cTuple, cList, cAll, cAny, cSum, dIsi, dIsi2, isa, tyn, isa_NoneType_int, isa_NoneType_bool, isa_NoneType_str, isa_NoneType_tuple, isa_NoneType_list, isa_bool_int, isa_bool_bool, isa_bool_str, isa_bool_tuple, isa_bool_list, isa_int_int, isa_int_bool, isa_int_str, isa_int_tuple, isa_int_list, isa_str_int, isa_str_bool, isa_str_str, isa_str_tuple, isa_str_list, isa_tuple_int, isa_tuple_bool, isa_tuple_str, isa_tuple_tuple, isa_tuple_list, isa_list_int, isa_list_bool, isa_list_str, isa_list_tuple, isa_list_list, itT, itF, itNT, itNF, id, dFld, dFldI, dNoPart, dPart, dSl, dRevL, dNeg, dCall, dMake, isOw, dApp, dPop0, dPopAt, vNil, vCons, vConsF, srcE, srcR1, srcR2, srcEnum, dYes, lcTurn, cNm, cTp, setAllD, wipeD, startD, dChain, SV.data, enumD, List.map_cons, List.map_nil, List.length_cons, List.length_nil, List.getElem?_cons_zero, List.getElem?_cons_succ, List.set_cons_zero, List.set_cons_succ, List.replicate_zero, List.replicate_succ, List.cons_append, List.nil_append, Nat.reduceAdd, Nat.reduceSub, Nat.zero_add, Option.isSome_some, Option.isSome_none, Bool.not_true, Bool.not_false, Option.bind_some]
    apply sq
    dsimp only [dLc, sRet, sRetN, sIf, sDrop, sSet, sSetF, sAug, sAsg, sPar, sPar3, sFldI, sSetIx, sBreak, sCont, sNext, gNm, gTp, gsCons, gsNil, fSub, fDiv, fMod, fPow, fLt, fLe, fGt, fGe, fEq, fNe, cAbs, cMax, cMin, dVar, dC, dOp, dOpv, dPk, dTest, dAnd, dOr, dNot, dAndV, dOrV, dNotV, dIf, dIsN, dNotN, isNon, fIsB, fI, fI0, fAdd, fMul, fEqG, fIx, dNil, dCons, dTup, dLst, dLstF, dSh, dCB, dCBv, cI1, cI2, cInt, cLen, cTuple, cList, cAll, cAny, cSum, dIsi, dIsi2, isa, tyn, isa_NoneType_int, isa_NoneType_bool, isa_NoneType_str, isa_NoneType_tuple, isa_NoneType_list, isa_bool_int, isa_bool_bool, isa_bool_str, isa_bool_tuple, isa_bool_list, isa_int_int, isa_int_bool, isa_int_str, isa_int_tuple, isa_int_list, isa_str_int, isa_str_bool, isa_str_str, isa_str_tuple, isa_str_list, isa_tuple_int, isa_tuple_bool, isa_tuple_str, isa_tuple_tuple, isa_tuple_list, isa_list_int, isa_list_bool, isa_list_str, isa_list_tuple, isa_list_list, itT, itF, itNT, itNF, id, dFld, dFldI, dNoPart, dPart, dSl, dRevL, dNeg, dCall, dMake, isOw, dApp, dPop0, dPopAt, vNil, vCons, vConsF, srcE, srcR1, srcR2, srcEnum, dYes, lcTurn, cNm, cTp, setAllD, wipeD, startD, dChain, SV.data, enumD, List.map_cons, List.map_nil, List.length_cons, List.length_nil, List.getElem?_cons_zero, List.getElem?_cons_succ, List.set_cons_zero, List.set_cons_succ, List.replicate_zero, List.replicate_succ, List.cons_append, List.nil_append, Nat.reduceAdd, Nat.reduceSub, Nat.zero_add, Option.isSome_some, Option.isSome_none, Bool.not_true, Bool.not_false, Option.bind_some, c__law_kinds]
    refine ⟨mul2, ⟨by omega, by omega⟩, fun i acc => acc.length ≤ i ∧ ((i : Int) ≤ needM k w1 w2 c → acc = []) ∧ (needM k w1 w2 c < (i : Int) → acc[0]? = some (.int (needM k w1 w2 c))), ⟨Nat.le_refl _, fun _ => rfl, fun z => ?_⟩, ?_, ?_⟩
    · unfold needM at z
      omega
    · rintro i y acc hy ⟨g1, g2, g3⟩
      obtain ⟨hi, rfl⟩ := rngD_at hy
      dsimp only [dLc, sRet, sRetN, sIf, sDrop, sSet, sSetF, sAug, sAsg, sPar, sPar3, sFldI, sSetIx, sBreak, sCont, sNext, gNm, gTp, gsCons, gsNil, fSub, fDiv, fMod, fPow, fLt, fLe, fGt, fGe, fEq, fNe, cAbs, cMax, cMin, dVar, dC, dOp, dOpv, dPk, dTest, dAnd, dOr, dNot, dAndV, dOrV, dNotV, dIf, dIsN, dNotN, isNon, fIsB, fI, fI0, fAdd, fMul, fEqG, fIx, dNil, dCons, dTup, dLst, dLstF, dSh, dCB, dCBv, cI1, cI2, cInt, cLen, cTuple, cList, cAll, cAny, cSum, dIsi, dIsi2, isa, tyn, isa_NoneType_int, isa_NoneType_bool, isa_NoneType_str, isa_NoneType_tuple, isa_NoneType_list, isa_bool_int, isa_bool_bool, isa_bool_str, isa_bool_tuple, isa_bool_list, isa_int_int, isa_int_bool, isa_int_str, isa_int_tuple, isa_int_list, isa_str_int, isa_str_bool, isa_str_str, isa_str_tuple, isa_str_list, isa_tuple_int, isa_tuple_bool, isa_tuple_str, isa_tuple_tuple, isa_tuple_list, isa_list_int, isa_list_bool, isa_list_str, isa_list_tuple, isa_list_list, itT, itF, itNT, itNF, id, dFld, dFldI, dNoPart, dPart, dSl, dRevL, dNeg, dCall, dMake, isOw, dApp, dPop0, dPopAt, vNil, vCons, vConsF, srcE, srcR1, srcR2, srcEnum, dYes, lcTurn, cNm, cTp, setAllD, wipeD, startD, dChain, SV.data, enumD, List.map_cons, List.map_nil, List.length_cons, List.length_nil, List.getElem?_cons_zero, List.getElem?_cons_succ, List.set_cons_zero, List.set_cons_succ, List.replicate_zero, List.replicate_succ, List.cons_append, List.nil_append, Nat.reduceAdd, Nat.reduceSub, Nat.zero_add, Option.isSome_some, Option.isSome_none, Bool.not_true, Bool.not_false, Option.bind_some, wipeD]
      refine ⟨rfl, k, 0 + i, w1, w2, c, rfl, ⟨hk12, by omega, w10, w11, w20, w21, c0, c1⟩, ?_⟩
      obtain ⟨p', q', h1, h2, h3, h4, h5⟩ := kinds_ne (p := pB k (0 + i) w1) (q := qB k (0 + i) w2 c)
      refine ⟨Nat.zero_le _, p', q', h1, h2, h3, h4, ?_⟩
      rw [h5, hit (by omega), Int.zero_add]
      refine ifB (fun e => ⟨rfl, ?_, ?_, fun z => ?_, fun z => ?_⟩) (fun e => ⟨rfl, ?_, fun z => ?_, fun z => ?_⟩)
      · exact Nat.lt_of_le_of_lt g1 (Nat.lt_of_lt_of_le (show i < 100 by omega) (by decide))
      · rw [List.length_append]; exact Nat.succ_le_succ g1
      · have := of_decide_eq_true e
        omega
      · have := of_decide_eq_true e
        by_cases h6 : (i : Int) = needM k w1 w2 c
        · rw [g2 (by omega), h6]; rfl
        · have := g3 (by omega)
          rw [List.getElem?_append_left (by
            cases acc with
            | nil => cases this
            | cons z r => exact Nat.zero_lt_succ _)]
          exact this
      · exact Nat.le_succ_of_le g1
      · exact g2 (by omega)
      · have := of_decide_eq_false e
        omega
    · rintro acc ⟨g1, g2, g3⟩
      rw [rngD_len] at g1 g2 g3
      have g4 := g3 (by unfold needM; omega)
      have hm := hit (k := k) (w1 := w1) (w2 := w2) (c := c) u0
      obtain ⟨m, hM⟩ : ∃ m, needM k w1 w2 c = m := ⟨_, rfl⟩
      rw [hM] at hm g4
      clear g1 g2 g3
      obtain ⟨r, rfl⟩ : ∃ r, acc = .int m :: r := by
        cases acc with
        | nil => cases g4
        | cons z r => exact ⟨r, by rw [Option.some.inj g4]⟩
      have e0 : atI (D.int m :: r) 0 = some (.int m) := atI_nat (j := 0) rfl
      have e1 : max 0 (min (max 1 (2 * w1 - k)) (c + w2 - k)) = m := by
        rw [← hM]; unfold needM; omega
      have e2 : max 0 (min (2 * w1) (c + w2) - k) = if both k c w2 < both k w1 w1 then both k c w2 else both k w1 w1 := by
        unfold both; split <;> omega
      obtain ⟨p', q', h1, h2, h3, h4, h5⟩ := kinds_ne (p := pB k u w1) (q := qB k u w2 c)
      apply sq
      dsimp only [dLc, sRet, sRetN, sIf, sDrop, sSet, sSetF, sAug, sAsg, sPar, sPar3, sFldI, sSetIx, sBreak, sCont, sNext, gNm, gTp, gsCons, gsNil, fSub, fDiv, fMod, fPow, fLt, fLe, fGt, fGe, fEq, fNe, cAbs, cMax, cMin, dVar, dC, dOp, dOpv, dPk, dTest, dAnd, dOr, dNot, dAndV, dOrV, dNotV, dIf, dIsN, dNotN, isNon, fIsB, fI, fI0, fAdd, fMul, fEqG, fIx, dNil, dCons, dTup, dLst, dLstF, dSh, dCB, dCBv, cI1, cI2, cInt, cLen, cTuple, cList, cAll, cAny, cSum, dIsi, dIsi2, isa, tyn, isa_NoneType_int, isa_NoneType_bool, isa_NoneType_str, isa_NoneType_tuple, isa_NoneType_list, isa_bool_int, isa_bool_bool, isa_bool_str, isa_bool_tuple, isa_bool_list, isa_int_int, isa_int_bool, isa_int_str, isa_int_tuple, isa_int_list, isa_str_int, isa_str_bool, isa_str_str, isa_str_tuple, isa_str_list, isa_tuple_int, isa_tuple_bool, isa_tuple_str, isa_tuple_tuple, isa_tuple_list, isa_list_int, isa_list_bool, isa_list_str, isa_list_tuple, isa_list_list, itT, itF, itNT, itNF, id, dFld, dFldI, dNoPart, dPart, dSl, dRevL, dNeg, dCall, dMake, isOw, dApp, dPop0, dPopAt, vNil, vCons, vConsF, srcE, srcR1, srcR2, srcEnum, dYes, lcTurn, cNm, cTp, setAllD, wipeD, startD, dChain, SV.data, enumD, List.map_cons, List.map_nil, List.length_cons, List.length_nil, List.getElem?_cons_zero, List.getElem?_cons_succ, List.set_cons_zero, List.set_cons_succ, List.replicate_zero, List.replicate_succ, List.cons_append, List.nil_append, Nat.reduceAdd, Nat.reduceSub, Nat.zero_add, Option.isSome_some, Option.isSome_none, Bool.not_true, Bool.not_false, Option.bind_some, c_least_untrue, c_least_shown, c__law_both]
      rw [e0]
      refine ⟨rfl, k, s, u, w1, w2, c, 1 + r4, rfl, hB, ?_⟩
      dsimp only
      rw [e1]
      refine ⟨rfl, like_ok rfl ?_⟩
      dsimp only [itNT]
      refine ⟨Nat.zero_le _, p', q', h1, h2, h3, h4, ?_⟩
      rw [h5, hm]
      refine ifF (by rw [decide_eq_true rfl]; rfl) ⟨rfl, k, s, u, w1, w2, c, 1 + r4, rfl, hB, rfl, k, w1, w1, rfl, ⟨by omega, by omega, by omega, w11⟩, rfl, k, c, w2, rfl, ⟨by omega, by omega, by omega, w21⟩, ?_⟩
      dsimp only
      rw [e2]
      refine ⟨rfl, like_ok rfl ?_⟩
      dsimp only [itNT]
      exact ⟨_, _, _, _, _, _, _, _, _, _, _, rfl⟩
  · rintro d ⟨x2, x3, x4, x5, x6, x7, x8, x9, x10, x11, x12, rfl⟩
    exact q
theorem b_law (T : Txt K mg A) : Binds K A.d_law ["script"] [] := T.f_law.fn.bindsN (ps := ["script"]) fun _ _ _ _ _ _ us hl => match us, hl with | [_], _ => rfl

end
set_option maxHeartbeats 16000000 in
theorem all_mk {l : PySem.W.OpenLaw} {w : World} {K : PySem.W.Frag} {h : Heap} {mg : Str → Option Value} {fa : Addr} (X : K.In h) (G : h.Ns mainGlobals mg) (hfa : mg "law" = some (.ref fa))
    {od_taken_slack an_taken_slack : Option Addr} {sl_taken_slack : Array (Option Value)} {oc_taken_slack kV_taken_slack dc_taken_slack pm_taken_slack cd_taken_slack ct_taken_slack : Value} {f_taken_slack : Addr}
    (a_taken_slack : PySem.W.nsIn K mainGlobals "taken_slack" = some (some (.ref f_taken_slack)))
    (l_taken_slack : K.lookup f_taken_slack = some ⟨oc_taken_slack, od_taken_slack, .func (PySem.W.fnOf "taken_slack" "taken_slack" (defArgs s_taken_slack) (defBody s_taken_slack) (defScope s_taken_slack) .none kV_taken_slack dc_taken_slack pm_taken_slack an_taken_slack cd_taken_slack ct_taken_slack), sl_taken_slack⟩)
    (c_taken_slack : PySem.W.codeIn K cd_taken_slack "taken_slack" = true) (k_taken_slack : PySem.W.keepIn K (.ref f_taken_slack) = true)
    {od_shown_slack an_shown_slack : Option Addr} {sl_shown_slack : Array (Option Value)} {oc_shown_slack kV_shown_slack dc_shown_slack pm_shown_slack cd_shown_slack ct_shown_slack : Value} {f_shown_slack : Addr}
    (a_shown_slack : PySem.W.nsIn K mainGlobals "shown_slack" = some (some (.ref f_shown_slack)))
    (l_shown_slack : K.lookup f_shown_slack = some ⟨oc_shown_slack, od_shown_slack, .func (PySem.W.fnOf "shown_slack" "shown_slack" (defArgs s_shown_slack) (defBody s_shown_slack) (defScope s_shown_slack) .none kV_shown_slack dc_shown_slack pm_shown_slack an_shown_slack cd_shown_slack ct_shown_slack), sl_shown_slack⟩)
    (c_shown_slack : PySem.W.codeIn K cd_shown_slack "shown_slack" = true) (k_shown_slack : PySem.W.keepIn K (.ref f_shown_slack) = true)
    {od_kinds_of an_kinds_of : Option Addr} {sl_kinds_of : Array (Option Value)} {oc_kinds_of kV_kinds_of dc_kinds_of pm_kinds_of cd_kinds_of ct_kinds_of : Value} {f_kinds_of : Addr}
    (a_kinds_of : PySem.W.nsIn K mainGlobals "kinds_of" = some (some (.ref f_kinds_of)))
    (l_kinds_of : K.lookup f_kinds_of = some ⟨oc_kinds_of, od_kinds_of, .func (PySem.W.fnOf "kinds_of" "kinds_of" (defArgs s_kinds_of) (defBody s_kinds_of) (defScope s_kinds_of) .none kV_kinds_of dc_kinds_of pm_kinds_of an_kinds_of cd_kinds_of ct_kinds_of), sl_kinds_of⟩)
    (c_kinds_of : PySem.W.codeIn K cd_kinds_of "kinds_of" = true) (k_kinds_of : PySem.W.keepIn K (.ref f_kinds_of) = true)
    {od_least_shown an_least_shown : Option Addr} {sl_least_shown : Array (Option Value)} {oc_least_shown kV_least_shown dc_least_shown pm_least_shown cd_least_shown ct_least_shown : Value} {f_least_shown : Addr}
    (a_least_shown : PySem.W.nsIn K mainGlobals "least_shown" = some (some (.ref f_least_shown)))
    (l_least_shown : K.lookup f_least_shown = some ⟨oc_least_shown, od_least_shown, .func (PySem.W.fnOf "least_shown" "least_shown" (defArgs s_least_shown) (defBody s_least_shown) (defScope s_least_shown) .none kV_least_shown dc_least_shown pm_least_shown an_least_shown cd_least_shown ct_least_shown), sl_least_shown⟩)
    (c_least_shown : PySem.W.codeIn K cd_least_shown "least_shown" = true) (k_least_shown : PySem.W.keepIn K (.ref f_least_shown) = true)
    {od_least_untrue an_least_untrue : Option Addr} {sl_least_untrue : Array (Option Value)} {oc_least_untrue kV_least_untrue dc_least_untrue pm_least_untrue cd_least_untrue ct_least_untrue : Value} {f_least_untrue : Addr}
    (a_least_untrue : PySem.W.nsIn K mainGlobals "least_untrue" = some (some (.ref f_least_untrue)))
    (l_least_untrue : K.lookup f_least_untrue = some ⟨oc_least_untrue, od_least_untrue, .func (PySem.W.fnOf "least_untrue" "least_untrue" (defArgs s_least_untrue) (defBody s_least_untrue) (defScope s_least_untrue) .none kV_least_untrue dc_least_untrue pm_least_untrue an_least_untrue cd_least_untrue ct_least_untrue), sl_least_untrue⟩)
    (c_least_untrue : PySem.W.codeIn K cd_least_untrue "least_untrue" = true) (k_least_untrue : PySem.W.keepIn K (.ref f_least_untrue) = true)
    {od_is_integer an_is_integer : Option Addr} {sl_is_integer : Array (Option Value)} {oc_is_integer kV_is_integer dc_is_integer pm_is_integer cd_is_integer ct_is_integer : Value} {f_is_integer : Addr}
    (a_is_integer : PySem.W.nsIn K mainGlobals "is_integer" = some (some (.ref f_is_integer)))
    (l_is_integer : K.lookup f_is_integer = some ⟨oc_is_integer, od_is_integer, .func (PySem.W.fnOf "is_integer" "is_integer" (defArgs s_is_integer) (defBody s_is_integer) (defScope s_is_integer) .none kV_is_integer dc_is_integer pm_is_integer an_is_integer cd_is_integer ct_is_integer), sl_is_integer⟩)
    (c_is_integer : PySem.W.codeIn K cd_is_integer "is_integer" = true) (k_is_integer : PySem.W.keepIn K (.ref f_is_integer) = true)
    {od_is_number an_is_number : Option Addr} {sl_is_number : Array (Option Value)} {oc_is_number kV_is_number dc_is_number pm_is_number cd_is_number ct_is_number : Value} {f_is_number : Addr}
    (a_is_number : PySem.W.nsIn K mainGlobals "is_number" = some (some (.ref f_is_number)))
    {T_is_number : Addr} {oe_is_number : Value} {of_is_number : Option Addr} {n_is_number : Nat} {sm_is_number : Array (Option Value)}
    (l_is_number : K.lookup f_is_number = some ⟨oc_is_number, od_is_number, .func (PySem.W.fnOf "is_number" "is_number" (defArgs s_is_number) (defBody s_is_number) (defScope s_is_number) (.ref T_is_number) kV_is_number dc_is_number pm_is_number an_is_number cd_is_number ct_is_number), sl_is_number⟩)
    (e_is_number : K.lookup T_is_number = some ⟨oe_is_number, of_is_number, .seq #[Value.none] n_is_number, sm_is_number⟩)
    (c_is_number : PySem.W.codeIn K cd_is_number "is_number" = true) (k_is_number : PySem.W.keepIn K (.ref f_is_number) = true)
    {od__law_heap an__law_heap : Option Addr} {sl__law_heap : Array (Option Value)} {oc__law_heap kV__law_heap dc__law_heap pm__law_heap cd__law_heap ct__law_heap : Value} {f__law_heap : Addr}
    (a__law_heap : PySem.W.nsIn K mainGlobals "_law_heap" = some (some (.ref f__law_heap)))
    (l__law_heap : K.lookup f__law_heap = some ⟨oc__law_heap, od__law_heap, .func (PySem.W.fnOf "_law_heap" "_law_heap" (defArgs s__law_heap) (defBody s__law_heap) (defScope s__law_heap) .none kV__law_heap dc__law_heap pm__law_heap an__law_heap cd__law_heap ct__law_heap), sl__law_heap⟩)
    (c__law_heap : PySem.W.codeIn K cd__law_heap "_law_heap" = true) (k__law_heap : PySem.W.keepIn K (.ref f__law_heap) = true)
    {od__law_draw an__law_draw : Option Addr} {sl__law_draw : Array (Option Value)} {oc__law_draw kV__law_draw dc__law_draw pm__law_draw cd__law_draw ct__law_draw : Value} {f__law_draw : Addr}
    (a__law_draw : PySem.W.nsIn K mainGlobals "_law_draw" = some (some (.ref f__law_draw)))
    (l__law_draw : K.lookup f__law_draw = some ⟨oc__law_draw, od__law_draw, .func (PySem.W.fnOf "_law_draw" "_law_draw" (defArgs s__law_draw) (defBody s__law_draw) (defScope s__law_draw) .none kV__law_draw dc__law_draw pm__law_draw an__law_draw cd__law_draw ct__law_draw), sl__law_draw⟩)
    (c__law_draw : PySem.W.codeIn K cd__law_draw "_law_draw" = true) (k__law_draw : PySem.W.keepIn K (.ref f__law_draw) = true)
    {od__law_pick an__law_pick : Option Addr} {sl__law_pick : Array (Option Value)} {oc__law_pick kV__law_pick dc__law_pick pm__law_pick cd__law_pick ct__law_pick : Value} {f__law_pick : Addr}
    (a__law_pick : PySem.W.nsIn K mainGlobals "_law_pick" = some (some (.ref f__law_pick)))
    (l__law_pick : K.lookup f__law_pick = some ⟨oc__law_pick, od__law_pick, .func (PySem.W.fnOf "_law_pick" "_law_pick" (defArgs s__law_pick) (defBody s__law_pick) (defScope s__law_pick) .none kV__law_pick dc__law_pick pm__law_pick an__law_pick cd__law_pick ct__law_pick), sl__law_pick⟩)
    (c__law_pick : PySem.W.codeIn K cd__law_pick "_law_pick" = true) (k__law_pick : PySem.W.keepIn K (.ref f__law_pick) = true)
    {od__law_like an__law_like : Option Addr} {sl__law_like : Array (Option Value)} {oc__law_like kV__law_like dc__law_like pm__law_like cd__law_like ct__law_like : Value} {f__law_like : Addr}
    (a__law_like : PySem.W.nsIn K mainGlobals "_law_like" = some (some (.ref f__law_like)))
    (l__law_like : K.lookup f__law_like = some ⟨oc__law_like, od__law_like, .func (PySem.W.fnOf "_law_like" "_law_like" (defArgs s__law_like) (defBody s__law_like) (defScope s__law_like) .none kV__law_like dc__law_like pm__law_like an__law_like cd__law_like ct__law_like), sl__law_like⟩)
    (c__law_like : PySem.W.codeIn K cd__law_like "_law_like" = true) (k__law_like : PySem.W.keepIn K (.ref f__law_like) = true)
    {od__law_both an__law_both : Option Addr} {sl__law_both : Array (Option Value)} {oc__law_both kV__law_both dc__law_both pm__law_both cd__law_both ct__law_both : Value} {f__law_both : Addr}
    (a__law_both : PySem.W.nsIn K mainGlobals "_law_both" = some (some (.ref f__law_both)))
    (l__law_both : K.lookup f__law_both = some ⟨oc__law_both, od__law_both, .func (PySem.W.fnOf "_law_both" "_law_both" (defArgs s__law_both) (defBody s__law_both) (defScope s__law_both) .none kV__law_both dc__law_both pm__law_both an__law_both cd__law_both ct__law_both), sl__law_both⟩)
    (c__law_both : PySem.W.codeIn K cd__law_both "_law_both" = true) (k__law_both : PySem.W.keepIn K (.ref f__law_both) = true)
    {od__law_kinds an__law_kinds : Option Addr} {sl__law_kinds : Array (Option Value)} {oc__law_kinds kV__law_kinds dc__law_kinds pm__law_kinds cd__law_kinds ct__law_kinds : Value} {f__law_kinds : Addr}
    (a__law_kinds : PySem.W.nsIn K mainGlobals "_law_kinds" = some (some (.ref f__law_kinds)))
    (l__law_kinds : K.lookup f__law_kinds = some ⟨oc__law_kinds, od__law_kinds, .func (PySem.W.fnOf "_law_kinds" "_law_kinds" (defArgs s__law_kinds) (defBody s__law_kinds) (defScope s__law_kinds) .none kV__law_kinds dc__law_kinds pm__law_kinds an__law_kinds cd__law_kinds ct__law_kinds), sl__law_kinds⟩)
    (c__law_kinds : PySem.W.codeIn K cd__law_kinds "_law_kinds" = true) (k__law_kinds : PySem.W.keepIn K (.ref f__law_kinds) = true)
    {od_law an_law : Option Addr} {sl_law : Array (Option Value)} {oc_law kV_law dc_law pm_law cd_law ct_law : Value} {f_law : Addr}
    (a_law : PySem.W.nsIn K mainGlobals "law" = some (some (.ref f_law)))
    (l_law : K.lookup f_law = some ⟨oc_law, od_law, .func (PySem.W.fnOf "law" "law" (defArgs s_law) (defBody s_law) (defScope s_law) .none kV_law dc_law pm_law an_law cd_law ct_law), sl_law⟩)
    (c_law : PySem.W.codeIn K cd_law "law" = true) (k_law : PySem.W.keepIn K (.ref f_law) = true)
    {od_Numbers an_Numbers : Option Addr} {sl_Numbers : Array (Option Value)} {oc_Numbers kV_Numbers dc_Numbers pm_Numbers cd_Numbers ct_Numbers : Value} {f_Numbers C_Numbers : Addr}
    (a_Numbers : PySem.W.nsIn K mainGlobals "Numbers" = some (some (.ref C_Numbers))) (i_Numbers : PySem.W.findIn K (.ref C_Numbers) "__init__" = some (some (.ref f_Numbers))) (j_Numbers : PySem.W.isFn K (.ref f_Numbers) = true)
    (l_Numbers : K.lookup f_Numbers = some ⟨oc_Numbers, od_Numbers, .func (PySem.W.fnOf "__init__" "Numbers.__init__" (defArgs s_Numbers___init__) (defBody s_Numbers___init__) (defScope s_Numbers___init__) .none kV_Numbers dc_Numbers pm_Numbers an_Numbers cd_Numbers ct_Numbers), sl_Numbers⟩)
    (c_Numbers : PySem.W.codeIn K cd_Numbers "Numbers.__init__" = true) (k_Numbers : PySem.W.keepIn K (.ref f_Numbers) = true)
    (pg_Numbers : PySem.W.plainGet K C_Numbers Str.empty = true) (hd_Numbers : PySem.W.hasDictIn K C_Numbers = true) (po_Numbers : PySem.W.plainOver K C_Numbers = true) (sa_Numbers : PySem.W.findIn K (.ref C_Numbers) "__setattr__" = some (some (.builtin "object.__setattr__"))) (mk_Numbers : PySem.W.makesIn K C_Numbers = true) (kc_Numbers : PySem.W.keepIn K (.ref C_Numbers) = true)
    (at_Numbers_k : PySem.W.findIn K (.ref C_Numbers) "k" = some none)
    (at_Numbers_s : PySem.W.findIn K (.ref C_Numbers) "s" = some none)
    (at_Numbers_u : PySem.W.findIn K (.ref C_Numbers) "u" = some none)
    (at_Numbers_w1 : PySem.W.findIn K (.ref C_Numbers) "w1" = some none)
    (at_Numbers_w2 : PySem.W.findIn K (.ref C_Numbers) "w2" = some none)
    (at_Numbers_c : PySem.W.findIn K (.ref C_Numbers) "c" = some none)
    (at_Numbers_h : PySem.W.findIn K (.ref C_Numbers) "h" = some none)
    (n_abs : PySem.W.nsIn K mainGlobals "abs" = some none)
    (n_all : PySem.W.nsIn K mainGlobals "all" = some none)
    (n_bool : PySem.W.nsIn K mainGlobals "bool" = some none)
    (n_enumerate : PySem.W.nsIn K mainGlobals "enumerate" = some none)
    (n_int : PySem.W.nsIn K mainGlobals "int" = some none)
    (n_isinstance : PySem.W.nsIn K mainGlobals "isinstance" = some none)
    (n_len : PySem.W.nsIn K mainGlobals "len" = some none)
    (n_max : PySem.W.nsIn K mainGlobals "max" = some none)
    (n_min : PySem.W.nsIn K mainGlobals "min" = some none)
    (n_range : PySem.W.nsIn K mainGlobals "range" = some none)
    (n_str : PySem.W.nsIn K mainGlobals "str" = some none)
    (n_tuple : PySem.W.nsIn K mainGlobals "tuple" = some none)
    {t_PAPERS : Tok} (g_PAPERS : PySem.W.nsIn K mainGlobals "PAPERS" = some (some (.str "papers" t_PAPERS)))
    {t_UNSEEN : Tok} (g_UNSEEN : PySem.W.nsIn K mainGlobals "UNSEEN" = some (some (.str "unseen" t_UNSEEN)))
    {t_MOST_COPIES : Tok} (g_MOST_COPIES : PySem.W.nsIn K mainGlobals "MOST_COPIES" = some (some (.int 12 t_MOST_COPIES))) :
    ∃ fd : FuncData, (∀ (s : Shared) (v : Value), BindsTo s fd ⟨[v], []⟩ [("script", v)]) ∧ ∀ base : Heap, K.In base → base.Ns mainGlobals mg → FnOk l.prog w K mg base CX0 5 fa fd ["script"] (spD tk K 1 cLaw) := by
  have e := hfa.symm.trans (PySem.W.mg_of X G a_law)
  cases e
  have T : Txt K mg ⟨f_taken_slack, _, f_shown_slack, _, f_kinds_of, _, f_least_shown, _, f_least_untrue, _, f_is_integer, _, f_is_number, _, f__law_heap, _, f__law_draw, _, f__law_pick, _, f__law_like, _, f__law_both, _, f__law_kinds, _, fa, _, C_Numbers, f_Numbers, _⟩ :=
    ⟨FnT.mk0 (PySem.W.mg_of X G a_taken_slack) l_taken_slack c_taken_slack k_taken_slack,
     FnT.mk0 (PySem.W.mg_of X G a_shown_slack) l_shown_slack c_shown_slack k_shown_slack,
     FnT.mk0 (PySem.W.mg_of X G a_kinds_of) l_kinds_of c_kinds_of k_kinds_of,
     FnT.mk0 (PySem.W.mg_of X G a_least_shown) l_least_shown c_least_shown k_least_shown,
     FnT.mk0 (PySem.W.mg_of X G a_least_untrue) l_least_untrue c_least_untrue k_least_untrue,
     FnT.mk0 (PySem.W.mg_of X G a_is_integer) l_is_integer c_is_integer k_is_integer,
     FnT.mkD (its := [Value.none]) (PySem.W.mg_of X G a_is_number) l_is_number e_is_number (.cons rfl .nil) (by decide) c_is_number k_is_number,
     FnT.mk0 (PySem.W.mg_of X G a__law_heap) l__law_heap c__law_heap k__law_heap,
     FnT.mk0 (PySem.W.mg_of X G a__law_draw) l__law_draw c__law_draw k__law_draw,
     FnT.mk0 (PySem.W.mg_of X G a__law_pick) l__law_pick c__law_pick k__law_pick,
     FnT.mk0 (PySem.W.mg_of X G a__law_like) l__law_like c__law_like k__law_like,
     FnT.mk0 (PySem.W.mg_of X G a__law_both) l__law_both c__law_both k__law_both,
     FnT.mk0 (PySem.W.mg_of X G a__law_kinds) l__law_kinds c__law_kinds k__law_kinds,
     FnT.mk0 (PySem.W.mg_of X G a_law) l_law c_law k_law,
     ClT.mk0 (PySem.W.mg_of X G a_Numbers) pg_Numbers hd_Numbers po_Numbers sa_Numbers mk_Numbers i_Numbers j_Numbers kc_Numbers l_Numbers c_Numbers k_Numbers,
     at_Numbers_k,
     at_Numbers_s,
     at_Numbers_u,
     at_Numbers_w1,
     at_Numbers_w2,
     at_Numbers_c,
     at_Numbers_h,
     PySem.W.mg_none_of X G n_abs,
     PySem.W.mg_none_of X G n_all,
     PySem.W.mg_none_of X G n_bool,
     PySem.W.mg_none_of X G n_enumerate,
     PySem.W.mg_none_of X G n_int,
     PySem.W.mg_none_of X G n_isinstance,
     PySem.W.mg_none_of X G n_len,
     PySem.W.mg_none_of X G n_max,
     PySem.W.mg_none_of X G n_min,
     PySem.W.mg_none_of X G n_range,
     PySem.W.mg_none_of X G n_str,
     PySem.W.mg_none_of X G n_tuple,
     ⟨_, PySem.W.mg_of X G g_PAPERS⟩,
     ⟨_, PySem.W.mg_of X G g_UNSEEN⟩,
     ⟨_, PySem.W.mg_of X G g_MOST_COPIES⟩⟩
  exact ⟨_, fun s v => T.f_law.fn.bindsA (ps := ["script"]) (fun _ _ _ _ _ _ us hl => match us, hl with | [_], _ => rfl) s [v] rfl, fun base _ _ => (ok_law (P := l.prog) (w := w) (base := base) T).ok⟩
theorem walk {l : PySem.W.OpenLaw} {q : Program} {loose : List Str} {XP : (Str → Option Value) → Heap → Prop} {YP : World → Heap → Prop} {d : DefRec} {K : Params → PySem.W.Frag} (hn : l.most = some 63) (hdf : d.params.defaults = [])
    (hY : ∀ (w : World) (h : Heap), YP w h → (K w.params).In h)
    (F : ∀ (w : World) (mg : Str → Option Value) (fa : Addr) (h : Heap), (K w.params).In h → h.Ns mainGlobals mg → mg d.name = some (.ref fa) →
      ∃ fd : FuncData, (∀ (s : Shared) (u : Value), BindsTo s fd ⟨[u], []⟩ [("script", u)]) ∧ ∀ base : Heap, (K w.params).In base → base.Ns mainGlobals mg → FnOk l.prog w (K w.params) mg base CX0 5 fa fd ["script"] (spD tk (K w.params) 1 cLaw)) :
    PySem.W.WalkO q loose XP YP l.row.toRowW d [] (fun f vs => PySem.call f vs) :=
  L2.walk_of (n := 63) (k := 5) (x := "script") (CX := fun _ => CX0) (sp := fun w => spD tk (K w.params) 1 cLaw) hn (by decide) hdf ⟨rfl, by decide, by decide⟩ hY F (fun _ _ _ _ hl ho hS => law_sp hl ho hS) fun _ _ _ _ _ z => z
end My
open PySem PySem.W PyProof.Rows
set_option maxRecDepth 100000 in
set_option maxHeartbeats 0 in
theorem PySem.Challenge.cw_allapart_k30_whole_counts_of_one_story_holds : PySem.Challenge.rw_allapart_k30_whole_counts_of_one_story.Holds := by
  w_on; o_law; k_head; (case hw => w_witness2)
  k_fill
  refine My.walk (l := PySem.Challenge.rw_allapart_k30_whole_counts_of_one_story) rfl rfl (fun w h Y => PySem.W.kIn_of Y) ?F
  case F =>
    intro w mg fa h KX G hmg
    refine' My.all_mk KX G hmg ?a_taken_slack ?l_taken_slack ?c_taken_slack ?k_taken_slack ?a_shown_slack ?l_shown_slack ?c_shown_slack ?k_shown_slack ?a_kinds_of ?l_kinds_of ?c_kinds_of ?k_kinds_of ?a_least_shown ?l_least_shown ?c_least_shown ?k_least_shown ?a_least_untrue ?l_least_untrue ?c_least_untrue ?k_least_untrue ?a_is_integer ?l_is_integer ?c_is_integer ?k_is_integer ?a_is_number ?l_is_number ?e_is_number ?c_is_number ?k_is_number ?a__law_heap ?l__law_heap ?c__law_heap ?k__law_heap ?a__law_draw ?l__law_draw ?c__law_draw ?k__law_draw ?a__law_pick ?l__law_pick ?c__law_pick ?k__law_pick ?a__law_like ?l__law_like ?c__law_like ?k__law_like ?a__law_both ?l__law_both ?c__law_both ?k__law_both ?a__law_kinds ?l__law_kinds ?c__law_kinds ?k__law_kinds ?a_law ?l_law ?c_law ?k_law ?a_Numbers ?i_Numbers ?j_Numbers ?l_Numbers ?c_Numbers ?k_Numbers ?pg_Numbers ?hd_Numbers ?po_Numbers ?sa_Numbers ?mk_Numbers ?kc_Numbers ?at_Numbers_k ?at_Numbers_s ?at_Numbers_u ?at_Numbers_w1 ?at_Numbers_w2 ?at_Numbers_c ?at_Numbers_h ?n_abs ?n_all ?n_bool ?n_enumerate ?n_int ?n_isinstance ?n_len ?n_max ?n_min ?n_range ?n_str ?n_tuple ?g_PAPERS ?g_UNSEEN ?g_MOST_COPIES
    (case a_taken_slack => k_is)
    (case l_taken_slack => k_is)
    (case c_taken_slack => k_is)
    (case k_taken_slack => k_is)
    (case a_shown_slack => k_is)
    (case l_shown_slack => k_is)
    (case c_shown_slack => k_is)
    (case k_shown_slack => k_is)
    (case a_kinds_of => k_is)
    (case l_kinds_of => k_is)
    (case c_kinds_of => k_is)
    (case k_kinds_of => k_is)
    (case a_least_shown => k_is)
    (case l_least_shown => k_is)
    (case c_least_shown => k_is)
    (case k_least_shown => k_is)
    (case a_least_untrue => k_is)
    (case l_least_untrue => k_is)
    (case c_least_untrue => k_is)
    (case k_least_untrue => k_is)
    (case a_is_integer => k_is)
    (case l_is_integer => k_is)
    (case c_is_integer => k_is)
    (case k_is_integer => k_is)
    (case a_is_number => k_is)
    (case l_is_number => k_is)
    (case e_is_number => k_is)
    (case c_is_number => k_is)
    (case k_is_number => k_is)
    (case a__law_heap => k_is)
    (case l__law_heap => k_is)
    (case c__law_heap => k_is)
    (case k__law_heap => k_is)
    (case a__law_draw => k_is)
    (case l__law_draw => k_is)
    (case c__law_draw => k_is)
    (case k__law_draw => k_is)
    (case a__law_pick => k_is)
    (case l__law_pick => k_is)
    (case c__law_pick => k_is)
    (case k__law_pick => k_is)
    (case a__law_like => k_is)
    (case l__law_like => k_is)
    (case c__law_like => k_is)
    (case k__law_like => k_is)
    (case a__law_both => k_is)
    (case l__law_both => k_is)
    (case c__law_both => k_is)
    (case k__law_both => k_is)
    (case a__law_kinds => k_is)
    (case l__law_kinds => k_is)
    (case c__law_kinds => k_is)
    (case k__law_kinds => k_is)
    (case a_law => k_is)
    (case l_law => k_is)
    (case c_law => k_is)
    (case k_law => k_is)
    (case a_Numbers => k_is)
    (case i_Numbers => k_is)
    (case j_Numbers => k_is)
    (case l_Numbers => k_is)
    (case c_Numbers => k_is)
    (case k_Numbers => k_is)
    (case pg_Numbers => k_is)
    (case hd_Numbers => k_is)
    (case po_Numbers => k_is)
    (case sa_Numbers => k_is)
    (case mk_Numbers => k_is)
    (case kc_Numbers => k_is)
    (case at_Numbers_k => k_is)
    (case at_Numbers_s => k_is)
    (case at_Numbers_u => k_is)
    (case at_Numbers_w1 => k_is)
    (case at_Numbers_w2 => k_is)
    (case at_Numbers_c => k_is)
    (case at_Numbers_h => k_is)
    (case n_abs => k_is)
    (case n_all => k_is)
    (case n_bool => k_is)
    (case n_enumerate => k_is)
    (case n_int => k_is)
    (case n_isinstance => k_is)
    (case n_len => k_is)
    (case n_max => k_is)
    (case n_min => k_is)
    (case n_range => k_is)
    (case n_str => k_is)
    (case n_tuple => k_is)
    (case g_PAPERS => k_is)
    (case g_UNSEEN => k_is)
    (case g_MOST_COPIES => k_is)
#print axioms PySem.Challenge.cw_allapart_k30_whole_counts_of_one_story_holds
