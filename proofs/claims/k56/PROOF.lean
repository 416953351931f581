import PyProof.Rows.All
import Wide.All
import OpenK.AllK
import Wide.FinOn
import HandS.ForMost
import HandS.Walk
import HandS.TupAny
import HandS.TupMul
import HandS.Style
import HandS.Wide
import HandS.IsInst
import HandS.Defaults
import HandS.RaiseMore
import KE.GoesEnum
import KE.KSuper
import KE.KExcSuper
import HandS.ExcInit
import HandS.Nested
import HandS.ClsMeth
import HandS.ExcOwn
import HandS.WordsExc
import HandS.TryOnly
import HandS.ExcField
import HandS.ExcCtx
import HandS.HotCalls
import KE.SortData
import HandS.Deep
import PySem.Challenge.RW_allapart_k56_whole_what_each_promise_cos
set_option Elab.async false
set_option linter.all false
set_option maxRecDepth 100000
set_option maxHeartbeats 4000000
/-! DL1: plain data in place of addresses. -/
namespace DL
open PySem L2

/-- plain data -/
inductive D where
  | non
  | bl (b : Bool)
  | int (i : Int)
  | str (x : Str)
  | tup (xs : List D)
  | lst (xs : List D)
  | frz (xs : List D)
  | obj (C : Addr) (fs : List (Str × D))
  | tok (a b : Addr)
  | exn (a dd C : Addr) (x : D)

abbrev Tks := List (Addr × Addr)
/-- a list, a tuple of the written part -/
def KLst (K : PySem.W.Frag) (a : Addr) (vs : List V) : Prop :=
  ∃ (o : Obj) (its : Array Value) (n : Nat), K.lookup a = some o ∧ o.cls = .type "list" ∧ o.dict = none ∧ o.data = .seq its n ∧ its.size ≤ sizeLine ∧ Vals vs its.toList
def KTup (K : PySem.W.Frag) (a : Addr) (vs : List V) : Prop :=
  ∃ (o : Obj) (its : Array Value) (n : Nat), K.lookup a = some o ∧ o.cls = .type "tuple" ∧ o.data = .seq its n ∧ its.size ≤ sizeLine ∧ Vals vs its.toList
def LstAt (O : Addr → Prop) (H : Hp) (a : Addr) (vs : List V) : Prop := ¬ O a ∧ H a = some (.lst vs)
/-- a list that is read alone -/
def FrzAt (K : PySem.W.Frag) (O : Addr → Prop) (H : Hp) (a : Addr) (vs : List V) : Prop := (¬ O a ∧ ∃ o, H a = some (.frz o (.lst vs))) ∨ KLst K a vs
def TupAt (K : PySem.W.Frag) (O : Addr → Prop) (H : Hp) (a : Addr) (vs : List V) : Prop := (¬ O a ∧ H a = some (.tup vs)) ∨ KTup K a vs
theorem FrzAt.sq {K : PySem.W.Frag} {O : Addr → Prop} {H : Hp} {a : Addr} {vs : List V} (h : FrzAt K O H a vs) : SqL K H a vs := h.imp (fun q => .inr q.2) id
theorem TupAt.sq {K : PySem.W.Frag} {O : Addr → Prop} {H : Hp} {a : Addr} {vs : List V} (h : TupAt K O H a vs) : SqT K H a vs := h.imp (fun q => .inl q.2) id

section
variable (K : PySem.W.Frag) (O : Addr → Prop) (T : Tks) (H : Hp)
mutual
/-- the value v stands for the data -/
def Rep : D → V → Prop
  | .non, v => v = .non
  | .bl b, v => v = .bl b
  | .int i, v => v = .int i
  | .str x, v => v = .str x
  | .tup ds, v => ∃ a vs, v = .ref a ∧ TupAt K O H a vs ∧ RepL ds vs
  | .lst ds, v => ∃ a vs, v = .ref a ∧ LstAt O H a vs ∧ RepL ds vs
  | .frz ds, v => ∃ a vs, v = .ref a ∧ FrzAt K O H a vs ∧ RepL ds vs
  | .obj C fs, v => ∃ a dx gs, v = .ref a ∧ ¬ O a ∧ H a = some (.ins C dx gs) ∧ RepF fs gs
  | .tok a b, v => v = .ref a ∧ (a, b) ∈ T
  | .exn a dd _ x, v => ∃ w, v = .ref a ∧ ¬ O dd ∧ H dd = some (.xd [("at", w)]) ∧ Rep x w
def RepL : List D → List V → Prop
  | [], vs => vs = []
  | d :: ds, vs => ∃ v r, vs = v :: r ∧ Rep d v ∧ RepL ds r
def RepF : List (Str × D) → List (Str × V) → Prop
  | [], gs => gs = []
  | (n, d) :: fs, gs => ∃ v r, gs = (n, v) :: r ∧ Rep d v ∧ RepF fs r
end
end

section
variable {K : PySem.W.Frag} {O O' : Addr → Prop} {T T' : Tks} {H H' : Hp}
theorem at_mono {a : Addr} {u : HO} (hH : ∀ a o, H a = some o → ¬ O a → H' a = some o) (hO : ∀ a, O' a → O a ∨ H a = none) (h : ¬ O a ∧ H a = some u) : ¬ O' a ∧ H' a = some u :=
  ⟨fun z => (hO a z).elim h.1 fun e => (by rw [e] at h; cases h.2), hH a _ h.2 h.1⟩
mutual
theorem Rep.mono (hH : ∀ a o, H a = some o → ¬ O a → H' a = some o) (hO : ∀ a, O' a → O a ∨ H a = none) (hT : ∀ p ∈ T, p ∈ T') : ∀ (d : D) (v : V), Rep K O T H d v → Rep K O' T' H' d v
  | .non, v, h => h
  | .bl _, v, h => h
  | .int _, v, h => h
  | .str _, v, h => h
  | .tup ds, v, h => by
    obtain ⟨a, vs, e, t, r⟩ := h
    exact ⟨a, vs, e, t.imp (at_mono hH hO) id, RepL.mono hH hO hT ds vs r⟩
  | .lst ds, v, h => by
    obtain ⟨a, vs, e, t, r⟩ := h
    exact ⟨a, vs, e, at_mono hH hO t, RepL.mono hH hO hT ds vs r⟩
  | .frz ds, v, h => by
    obtain ⟨a, vs, e, t, r⟩ := h
    exact ⟨a, vs, e, t.imp (fun ⟨n, o, q⟩ => let z := at_mono hH hO ⟨n, q⟩; ⟨z.1, o, z.2⟩) id, RepL.mono hH hO hT ds vs r⟩
  | .obj C fs, v, h => by
    obtain ⟨a, dx, gs, e, n, t, r⟩ := h
    exact ⟨a, dx, gs, e, fun z => (hO a z).elim n fun q => (by rw [q] at t; cases t), hH a _ t n, RepF.mono hH hO hT fs gs r⟩
  | .tok a b, v, h => ⟨h.1, hT _ h.2⟩
  | .exn a dd C x, v, h => by
    obtain ⟨w, e, n, t, r⟩ := h
    exact ⟨w, e, fun z => (hO dd z).elim n fun q => (by rw [q] at t; cases t), hH dd _ t n, Rep.mono hH hO hT x w r⟩
theorem RepL.mono (hH : ∀ a o, H a = some o → ¬ O a → H' a = some o) (hO : ∀ a, O' a → O a ∨ H a = none) (hT : ∀ p ∈ T, p ∈ T') : ∀ (ds : List D) (vs : List V), RepL K O T H ds vs → RepL K O' T' H' ds vs
  | [], vs, h => h
  | d :: ds, vs, h => by
    obtain ⟨v, r, e, h1, h2⟩ := h
    exact ⟨v, r, e, Rep.mono hH hO hT d v h1, RepL.mono hH hO hT ds r h2⟩
theorem RepF.mono (hH : ∀ a o, H a = some o → ¬ O a → H' a = some o) (hO : ∀ a, O' a → O a ∨ H a = none) (hT : ∀ p ∈ T, p ∈ T') : ∀ (fs : List (Str × D)) (gs : List (Str × V)), RepF K O T H fs gs → RepF K O' T' H' fs gs
  | [], gs, h => h
  | (n, d) :: fs, gs, h => by
    obtain ⟨v, r, e, h1, h2⟩ := h
    exact ⟨v, r, e, Rep.mono hH hO hT d v h1, RepF.mono hH hO hT fs r h2⟩
end
theorem RepL.length : ∀ {ds : List D} {vs : List V}, RepL K O T H ds vs → vs.length = ds.length
  | [], vs, h => by rw [show vs = [] from h]; rfl
  | d :: ds, vs, h => by
    obtain ⟨v, r, e, _, h2⟩ := h
    rw [e, List.length_cons, List.length_cons, RepL.length h2]
theorem RepL.get : ∀ {ds : List D} {vs : List V} {i : Nat} {v : V}, RepL K O T H ds vs → vs[i]? = some v → ∃ d, ds[i]? = some d ∧ Rep K O T H d v
  | [], vs, i, v, h, e => by rw [show vs = [] from h] at e; simp at e
  | d :: ds, vs, 0, v, h, e => by
    obtain ⟨w, r, e1, h1, h2⟩ := h
    rw [e1] at e
    cases e
    exact ⟨d, rfl, h1⟩
  | d :: ds, vs, i + 1, v, h, e => by
    obtain ⟨w, r, e1, h1, h2⟩ := h
    rw [e1] at e
    exact RepL.get (i := i) h2 e
theorem RepL.at : ∀ {ds : List D} {vs : List V} {i : Nat} {d : D}, RepL K O T H ds vs → ds[i]? = some d → ∃ v, vs[i]? = some v ∧ Rep K O T H d v
  | [], vs, i, d, h, e => by simp at e
  | d :: ds, vs, 0, y, h, e => by
    obtain ⟨w, r, e1, h1, h2⟩ := h
    cases e
    exact ⟨w, by rw [e1]; rfl, h1⟩
  | d :: ds, vs, i + 1, y, h, e => by
    obtain ⟨w, r, e1, h1, h2⟩ := h
    rw [e1]
    exact RepL.at (i := i) h2 e
theorem RepL.append : ∀ {ds es : List D} {vs ws : List V}, RepL K O T H ds vs → RepL K O T H es ws → RepL K O T H (ds ++ es) (vs ++ ws)
  | [], es, vs, ws, h, g => by rw [show vs = [] from h]; exact g
  | d :: ds, es, vs, ws, h, g => by
    obtain ⟨w, r, e1, h1, h2⟩ := h
    exact ⟨w, r ++ ws, by rw [e1]; rfl, h1, RepL.append h2 g⟩
theorem RepL.take : ∀ {ds : List D} {vs : List V} (n : Nat), RepL K O T H ds vs → RepL K O T H (ds.take n) (vs.take n)
  | ds, vs, 0, h => by show vs.take 0 = []; rfl
  | [], vs, n + 1, h => by rw [show vs = [] from h]; rfl
  | d :: ds, vs, n + 1, h => by
    obtain ⟨w, r, e1, h1, h2⟩ := h
    exact ⟨w, r.take n, by rw [e1]; rfl, h1, RepL.take n h2⟩
theorem RepL.drop : ∀ {ds : List D} {vs : List V} (n : Nat), RepL K O T H ds vs → RepL K O T H (ds.drop n) (vs.drop n)
  | ds, vs, 0, h => h
  | [], vs, n + 1, h => by rw [show vs = [] from h]; rfl
  | d :: ds, vs, n + 1, h => by
    obtain ⟨w, r, e1, h1, h2⟩ := h
    rw [e1]
    exact RepL.drop n h2
theorem RepL.set : ∀ {ds : List D} {vs : List V} (i : Nat) {d : D} {v : V}, Rep K O T H d v → RepL K O T H ds vs → RepL K O T H (ds.set i d) (vs.set i v)
  | [], vs, i, d, v, q, h => by rw [show vs = [] from h]; rfl
  | e :: ds, vs, 0, d, v, q, h => by
    obtain ⟨w, r, e1, h1, h2⟩ := h
    rw [e1]
    exact ⟨v, r, rfl, q, h2⟩
  | e :: ds, vs, i + 1, d, v, q, h => by
    obtain ⟨w, r, e1, h1, h2⟩ := h
    rw [e1]
    exact ⟨w, r.set i v, rfl, h1, RepL.set i q h2⟩
theorem RepL.reverse : ∀ {ds : List D} {vs : List V}, RepL K O T H ds vs → RepL K O T H ds.reverse vs.reverse
  | [], vs, h => by rw [show vs = [] from h]; rfl
  | d :: ds, vs, h => by
    obtain ⟨w, r, e1, h1, h2⟩ := h
    rw [e1, List.reverse_cons, List.reverse_cons]
    exact RepL.append (RepL.reverse h2) ⟨w, [], rfl, h1, rfl⟩
theorem RepL.dropLast : ∀ {ds : List D} {vs : List V}, RepL K O T H ds vs → RepL K O T H ds.dropLast vs.dropLast := fun {ds vs} h => by
  rw [List.dropLast_eq_take, List.dropLast_eq_take, h.length]
  exact RepL.take _ h
theorem RepL.rep {ds : List D} {vs : List V} (h : RepL K O T H ds vs) : ∀ k : Nat, RepL K O T H (List.replicate k ds).flatten (List.replicate k vs).flatten
  | 0 => rfl
  | k + 1 => by
    rw [List.replicate_succ, List.replicate_succ, List.flatten_cons, List.flatten_cons]
    exact RepL.append h (RepL.rep h k)
theorem RepL.eraseIdx : ∀ {ds : List D} {vs : List V} (i : Nat), RepL K O T H ds vs → RepL K O T H (ds.eraseIdx i) (vs.eraseIdx i)
  | [], vs, i, h => by rw [show vs = [] from h]; rfl
  | d :: ds, vs, 0, h => by
    obtain ⟨w, r, e1, h1, h2⟩ := h
    rw [e1]
    exact h2
  | d :: ds, vs, i + 1, h => by
    obtain ⟨w, r, e1, h1, h2⟩ := h
    rw [e1]
    exact ⟨w, r.eraseIdx i, rfl, h1, RepL.eraseIdx i h2⟩
theorem RepL.ints : ∀ {ns : List Int} {vs : List V}, RepL K O T H (ns.map D.int) vs → vs = ns.map V.int
  | [], vs, h => h
  | n :: ns, vs, h => by
    obtain ⟨w, r, e1, h1, h2⟩ := h
    rw [e1, RepL.ints h2, show w = V.int n from h1]; rfl
theorem RepL.ofInts : ∀ (ns : List Int), RepL K O T H (ns.map D.int) (ns.map V.int)
  | [] => rfl
  | n :: ns => ⟨_, _, rfl, rfl, RepL.ofInts ns⟩
theorem RepL.bls : ∀ {ns : List Bool} {vs : List V}, RepL K O T H (ns.map D.bl) vs → vs = ns.map V.bl
  | [], vs, h => h
  | n :: ns, vs, h => by
    obtain ⟨w, r, e1, h1, h2⟩ := h
    rw [e1, RepL.bls h2, show w = V.bl n from h1]; rfl
theorem RepF.lookup : ∀ {fs : List (Str × D)} {gs : List (Str × V)} {n : Str} {d : D}, RepF K O T H fs gs → fs.lookup n = some d → ∃ v, gs.lookup n = some v ∧ Rep K O T H d v
  | [], gs, n, d, h, e => by simp at e
  | (m, y) :: fs, gs, n, d, h, e => by
    obtain ⟨w, r, e1, h1, h2⟩ := h
    rw [e1]
    rw [List.lookup_cons] at e ⊢
    cases hb : n == m with
    | true =>
      rw [hb] at e
      cases e
      exact ⟨w, rfl, h1⟩
    | false =>
      rw [hb] at e
      exact RepF.lookup h2 e
theorem RepF.length : ∀ {fs : List (Str × D)} {gs : List (Str × V)}, RepF K O T H fs gs → gs.length = fs.length
  | [], gs, h => by rw [show gs = [] from h]; rfl
  | (n, d) :: fs, gs, h => by
    obtain ⟨w, r, e1, h1, h2⟩ := h
    rw [e1, List.length_cons, List.length_cons, RepF.length h2]
end

/-! ### the frame -/
/-- what a name, or a pending value, holds: shared data, a list that it alone holds, an object that is being made -/
inductive SV where
  | sh (d : D)
  | ow (ds : List D)
  | ob (x : Addr) (C : Addr) (fs : List (Str × D))
def SV.own : SV → Bool
  | .sh _ => false
  | _ => true
abbrev DS := List (Option SV)
/-- the heap, the owned addresses, the tokens at the entry -/
structure FrC where
  H : Hp
  O : Addr → Prop
  T : Tks
/-- what is always so of a token -/
structure Tk where
  ok : Hp → Addr → Addr → Prop
  loc : ∀ H H' a b, H' a = H a → H' b = H b → ok H a b → ok H' a b
  there : ∀ H a b, ok H a b → H a ≠ none ∧ H b ≠ none
  /-- what is asked of the frame (for exceptions) -/
  fr : FrC → Prop := fun _ => True
def offT (T : Tks) (a : Addr) : Prop := ∀ p ∈ T, a ≠ p.1 ∧ a ≠ p.2
section
variable (tk : Tk) (K : PySem.W.Frag)
def RepS (F : FrC) (O : Addr → Prop) (T : Tks) (H : Hp) : SV → V → Prop
  | .sh d, v => Rep K O T H d v
  | .ow ds, v => ∃ a vs, v = .ref a ∧ O a ∧ F.H a = none ∧ offT T a ∧ H a = some (.lst vs) ∧ RepL K O T H ds vs
  | .ob x C fs, v => ∃ dx gs, v = .ref x ∧ O x ∧ F.H x = none ∧ offT T x ∧ H x = some (.ins C dx gs) ∧ RepF K O T H fs gs
abbrev Pn := List (V × SV)
structure DIx (F : FrC) (pn : Pn) (σ : St) (H : Hp) (d : DS) (O : Addr → Prop) (T : Tks) : Prop where
  len : d.length = σ.length
  ext : ∀ a o, F.H a = some o → offT F.T a → H a = some o
  keep : ∀ a, F.H a ≠ none → H a ≠ none
  up : ∀ a, F.O a → O a
  fdom : ∀ a, F.O a → F.H a ≠ none
  dom : ∀ a, O a → H a ≠ none
  new : ∀ a, O a → F.O a ∨ F.H a = none
  sub : ∀ p ∈ F.T, p ∈ T
  tnew : ∀ p ∈ T, p ∈ F.T ∨ (F.H p.1 = none ∧ F.H p.2 = none)
  tok : ∀ p ∈ T, O p.1 ∧ O p.2 ∧ tk.ok H p.1 p.2
  sl : ∀ (i : Nat) (s : SV), d[i]? = some (some s) → ∃ v, σ[i]? = some (some v) ∧ RepS K F O T H s v
  pe : ∀ p ∈ pn, RepS K F O T H p.2 p.1
  ss : ∀ (i j : Nat) (s t : SV) (v : V), i ≠ j → d[i]? = some (some s) → s.own = true → d[j]? = some (some t) → t.own = true → σ[i]? = some (some v) → σ[j]? ≠ some (some v)
  sp : ∀ (i : Nat) (s : SV) (v : V), d[i]? = some (some s) → s.own = true → σ[i]? = some (some v) → ∀ q ∈ pn, q.2.own = true → q.1 ≠ v
  pp : pn.Pairwise fun p q => p.2.own = true → q.2.own = true → p.1 ≠ q.1
  fx : tk.fr F
def DI (F : FrC) (pn : Pn) (σ : St) (H : Hp) (d : DS) : Prop := ∃ O T, DIx tk K F pn σ H d O T
end

/-- nothing asked of the frame -/
abbrev Tk.b (tk : Tk) : Tk := ⟨tk.ok, tk.loc, tk.there, fun _ => True⟩
/-- φ asked of the frame -/
abbrev Tk.w (tk : Tk) (φ : FrC → Prop) : Tk := ⟨tk.ok, tk.loc, tk.there, φ⟩
section
variable {tk : Tk} {K : PySem.W.Frag} {F : FrC} {pn pn' : Pn} {σ : St} {H H' : Hp} {d : DS} {O O' : Addr → Prop} {T T' : Tks}
/-- the heap is changed at addresses that the data lean on nowhere -/
theorem RepS.mono (hH : ∀ a o, H a = some o → ¬ O a → H' a = some o) (hO : ∀ a, O' a → O a ∨ H a = none) (hT : ∀ p ∈ T, p ∈ T') {s : SV} {v : V}
    (hw : s.own = true → ∀ a, v = .ref a → H' a = H a ∧ O' a ∧ offT T' a) (h : RepS K F O T H s v) : RepS K F O' T' H' s v := by
  cases s with
  | sh x => exact Rep.mono hH hO hT x v h
  | ow xs =>
    obtain ⟨a, vs, e, o, n, f, q, r⟩ := h
    obtain ⟨e1, e2, e3⟩ := hw rfl a e
    exact ⟨a, vs, e, e2, n, e3, by rw [e1]; exact q, RepL.mono hH hO hT xs vs r⟩
  | ob x C fs =>
    obtain ⟨dx, gs, e, o, n, f, q, r⟩ := h
    obtain ⟨e1, e2, e3⟩ := hw rfl x e
    exact ⟨dx, gs, e, e2, n, e3, by rw [e1]; exact q, RepF.mono hH hO hT fs gs r⟩
theorem RepS.ownAt {s : SV} {v : V} (h : RepS K F O T H s v) (w : s.own = true) : ∃ a, v = .ref a ∧ O a ∧ F.H a = none ∧ offT T a ∧ H a ≠ none := by
  cases s with
  | sh x => cases w
  | ow xs =>
    obtain ⟨a, vs, e, o, n, f, q, r⟩ := h
    exact ⟨a, e, o, n, f, by rw [q]; exact Option.some_ne_none _⟩
  | ob x C fs =>
    obtain ⟨dx, gs, e, o, n, f, q, r⟩ := h
    exact ⟨x, e, o, n, f, by rw [q]; exact Option.some_ne_none _⟩
/-- fewer pending values -/
theorem DIx.drop (I : DIx tk K F pn σ H d O T) (h : List.Sublist pn' pn) : DIx tk K F pn' σ H d O T :=
  { I with pe := fun p hp => I.pe p (h.subset hp), sp := fun i s v a b c q hq => I.sp i s v a b c q (h.subset hq), pp := I.pp.sublist h }
theorem DI.drop (I : DI tk K F pn σ H d) (h : List.Sublist pn' pn) : DI tk K F pn' σ H d := let ⟨O, T, J⟩ := I; ⟨O, T, J.drop h⟩
theorem DI.tail {p : V × SV} (I : DI tk K F (p :: pn) σ H d) : DI tk K F pn σ H d := I.drop (List.sublist_cons_self _ _)
/-- a pending value that is shared -/
theorem DIx.add (I : DIx tk K F pn σ H d O T) {v : V} {x : D} (r : Rep K O T H x v) : DIx tk K F ((v, .sh x) :: pn) σ H d O T :=
  { I with
    pe := fun p hp => by
      rcases List.mem_cons.mp hp with e | hp
      · subst e; exact r
      · exact I.pe p hp
    sp := fun i s u a b c q hq w => by
      rcases List.mem_cons.mp hq with e | hq
      · subst e; cases w
      · exact I.sp i s u a b c q hq w
    pp := List.Pairwise.cons (fun q _ w => by cases w) I.pp }
/-- a fresh object is laid -/
theorem DIx.fresh (I : DIx tk K F pn σ H d O T) {p : Addr} {o : HO} (hp : H p = none) : DIx tk K F pn σ (upd H p o) d O T := by
  have hH : ∀ a u, H a = some u → (upd H p o) a = some u := fun a u e => by rw [upd_ne (ne_of_none e hp)]; exact e
  have hS : ∀ a, H a ≠ none → (upd H p o) a = H a := fun a e => upd_ne fun z => e (by rw [z]; exact hp)
  have mv : ∀ {s : SV} {v : V}, RepS K F O T H s v → RepS K F O T (upd H p o) s v := fun {s v} r => r.mono (fun a u e _ => hH a u e) (fun a z => .inl z) (fun _ z => z) fun w a e => by
    obtain ⟨b, eb, ob, _, ft, nb⟩ := r.ownAt w
    have q : a = b := V.ref.inj (e.symm.trans eb)
    subst q
    exact ⟨hS a nb, ob, ft⟩
  refine { I with ext := fun a u e f => hH a u (I.ext a u e f), keep := fun a e => ?_, dom := fun a e => ?_, tok := fun q hq => ?_, sl := fun i s e => ?_, pe := fun q hq => mv (I.pe q hq) }
  · rw [hS a (I.keep a e)]; exact I.keep a e
  · rw [hS a (I.dom a e)]; exact I.dom a e
  · obtain ⟨h1, h2, h3⟩ := I.tok q hq
    obtain ⟨t1, t2⟩ := tk.there _ _ _ h3
    exact ⟨h1, h2, tk.loc _ _ _ _ (hS _ t1) (hS _ t2) h3⟩
  · obtain ⟨v, e1, r⟩ := I.sl i s e
    exact ⟨v, e1, mv r⟩
/-- a fresh address is owned -/
theorem DIx.own (I : DIx tk K F pn σ H d O T) {p : Addr} {o : HO} (hp : H p = none) : DIx tk K F pn σ (upd H p o) d (fun a => O a ∨ a = p) T := by
  have hH : ∀ a u, H a = some u → (upd H p o) a = some u := fun a u e => by rw [upd_ne (ne_of_none e hp)]; exact e
  have hS : ∀ a, H a ≠ none → (upd H p o) a = H a := fun a e => upd_ne fun z => e (by rw [z]; exact hp)
  have mv : ∀ {s : SV} {v : V}, RepS K F O T H s v → RepS K F (fun a => O a ∨ a = p) T (upd H p o) s v := fun {s v} r => r.mono (fun a u e _ => hH a u e) (fun a z => z.imp id fun e => by rw [e]; exact hp) (fun _ z => z) fun w a e => by
    obtain ⟨b, eb, ob, _, ft, nb⟩ := r.ownAt w
    have q : a = b := V.ref.inj (e.symm.trans eb)
    subst q
    exact ⟨hS a nb, .inl ob, ft⟩
  have J := I.fresh (o := o) hp
  refine { J with up := fun a e => .inl (I.up a e), dom := fun a e => ?_, new := fun a e => ?_, tok := fun q hq => ?_, sl := fun i s e => ?_, pe := fun q hq => mv (I.pe q hq) }
  · rcases e with e | e
    · exact J.dom a e
    · subst e; rw [upd_same]; exact Option.some_ne_none _
  · rcases e with e | e
    · exact I.new a e
    · subst e
      refine .inr ?_
      cases z : F.H a with
      | none => rfl
      | some u => exact absurd hp (I.keep a (by rw [z]; exact Option.some_ne_none _))
  · obtain ⟨h1, h2, h3⟩ := J.tok q hq
    exact ⟨.inl h1, .inl h2, h3⟩
  · obtain ⟨v, e1, r⟩ := I.sl i s e
    exact ⟨v, e1, mv r⟩
theorem DIx.freshF (I : DIx tk K F pn σ H d O T) {p : Addr} (hp : H p = none) : F.H p = none := by
  cases z : F.H p with
  | none => rfl
  | some u => exact absurd hp (I.keep p (by rw [z]; exact Option.some_ne_none _))
theorem DIx.freshT (I : DIx tk K F pn σ H d O T) {p : Addr} (hp : H p = none) : offT T p := fun q hq => by
  obtain ⟨_, _, h3⟩ := I.tok q hq
  obtain ⟨t1, t2⟩ := tk.there _ _ _ h3
  exact ⟨fun z => t1 (by rw [← z]; exact hp), fun z => t2 (by rw [← z]; exact hp)⟩
/-- a fresh list that is owned, pending -/
theorem DIx.newL (I : DIx tk K F pn σ H d O T) {p : Addr} {vs : List V} {xs : List D} (hp : H p = none) (r : RepL K O T H xs vs) : DIx tk K F ((.ref p, .ow xs) :: pn) σ (upd H p (.lst vs)) d (fun a => O a ∨ a = p) T := by
  have J := I.own (o := .lst vs) hp
  have far : ∀ {s : SV} {v : V}, RepS K F O T H s v → s.own = true → v ≠ .ref p := fun {s v} q w e => by
    obtain ⟨b, eb, ob, _, _, nb⟩ := q.ownAt w
    have z : b = p := V.ref.inj (eb.symm.trans e)
    exact nb (by rw [z]; exact hp)
  refine { J with pe := fun q hq => ?_, sp := fun i s u a b c q hq w => ?_, pp := List.Pairwise.cons (fun q hq w w' e => far (I.pe q hq) w' e.symm) I.pp }
  · rcases List.mem_cons.mp hq with e | hq
    · subst e
      exact ⟨p, vs, rfl, .inr rfl, I.freshF hp, I.freshT hp, upd_same, RepL.mono (fun a u e _ => by rw [upd_ne (ne_of_none e hp)]; exact e) (fun a z => z.imp id fun e => by rw [e]; exact hp) (fun _ z => z) xs vs r⟩
    · exact J.pe q hq
  · rcases List.mem_cons.mp hq with e | hq
    · subst e
      obtain ⟨v, e1, r1⟩ := I.sl i s a
      have : u = v := Option.some.inj (Option.some.inj (c.symm.trans e1))
      subst this
      exact fun z => far r1 b z.symm
    · exact I.sp i s u a b c q hq w
/-- a fresh tuple, shared -/
theorem DIx.newT (I : DIx tk K F pn σ H d O T) {p : Addr} {vs : List V} {xs : List D} (hp : H p = none) (r : RepL K O T H xs vs) : DIx tk K F ((.ref p, .sh (.tup xs)) :: pn) σ (upd H p (.tup vs)) d O T := by
  have J := I.fresh (o := .tup vs) hp
  exact J.add ⟨p, vs, rfl, .inl ⟨fun z => I.dom p z hp, upd_same⟩, RepL.mono (fun a u e _ => by rw [upd_ne (ne_of_none e hp)]; exact e) (fun _ z => .inl z) (fun _ z => z) xs vs r⟩
/-- a pending value goes to a name -/
theorem set_get {α : Type} {l : List (Option α)} {i j : Nat} {x y : α} (h : (l.set i (some x))[j]? = some (some y)) : (j = i ∧ y = x) ∨ (j ≠ i ∧ l[j]? = some (some y)) := by
  by_cases e : i = j
  · subst e
    by_cases hl : i < l.length
    · rw [List.getElem?_set_self hl] at h
      exact .inl ⟨rfl, (Option.some.inj (Option.some.inj h)).symm⟩
    · rw [List.getElem?_eq_none (by simpa using hl)] at h
      cases h
  · rw [List.getElem?_set_ne e] at h
    exact .inr ⟨fun z => e z.symm, h⟩
theorem DIx.toSlot {v : V} {s : SV} {i : Nat} (I : DIx tk K F ((v, s) :: pn) σ H d O T) : DIx tk K F pn (σ.set i (some v)) H (d.set i (some s)) O T := by
  by_cases hi : i < σ.length
  case neg =>
    rw [List.set_eq_of_length_le (by omega), List.set_eq_of_length_le (by rw [I.len]; omega)]
    exact I.drop (List.sublist_cons_self _ _)
  have at_ : (σ.set i (some v))[i]? = some (some v) := List.getElem?_set_self hi
  have ne_ : ∀ {j}, j ≠ i → (σ.set i (some v))[j]? = σ[j]? := fun h => List.getElem?_set_ne (Ne.symm h)
  refine { I with len := (by rw [List.length_set, List.length_set]; exact I.len), sl := fun j t e => ?_, pe := fun p hp => I.pe p (List.mem_cons_of_mem _ hp), ss := fun a b s' t' u hab ea wa eb wb ua => ?_, sp := fun j t u e w eu q hq wq => ?_, pp := (List.pairwise_cons.mp I.pp).2 }
  · rcases set_get e with ⟨e1, e2⟩ | ⟨e1, e2⟩
    · subst e1; subst e2
      exact ⟨v, at_, I.pe _ (List.mem_cons_self)⟩
    · obtain ⟨u, h1, h2⟩ := I.sl j t e2
      exact ⟨u, by rw [ne_ e1]; exact h1, h2⟩
  · rcases set_get ea with ⟨e1, e2⟩ | ⟨e1, e2⟩
    · subst e1; subst e2
      rw [at_] at ua
      obtain rfl : v = u := Option.some.inj (Option.some.inj ua)
      rcases set_get eb with ⟨e3, e4⟩ | ⟨e3, e4⟩
      · exact absurd e3.symm hab
      · rw [ne_ e3]
        intro z
        exact I.sp b t' v e4 wb z (v, s') (List.mem_cons_self) wa rfl
    · rw [ne_ e1] at ua
      rcases set_get eb with ⟨e3, e4⟩ | ⟨e3, e4⟩
      · subst e3; subst e4
        rw [at_]
        intro z
        obtain rfl : v = u := Option.some.inj (Option.some.inj z)
        exact I.sp a s' v e2 wa ua (v, t') (List.mem_cons_self) wb rfl
      · rw [ne_ e3]
        exact I.ss a b s' t' u hab e2 wa e4 wb ua
  · rcases set_get e with ⟨e1, e2⟩ | ⟨e1, e2⟩
    · subst e1; subst e2
      rw [at_] at eu
      obtain rfl : v = u := Option.some.inj (Option.some.inj eu)
      exact fun z => (List.pairwise_cons.mp I.pp).1 q hq w wq z.symm
    · rw [ne_ e1] at eu
      exact I.sp j t u e2 w eu q (List.mem_cons_of_mem _ hq) wq
/-- what is no more owned: O without the addresses -/
theorem RepS.free {a : Addr} {s : SV} {v : V} (h : RepS K F O T H s v) (hw : s.own = true → v ≠ .ref a) : RepS K F (fun b => O b ∧ b ≠ a) T H s v :=
  h.mono (fun _ _ e _ => e) (fun _ z => .inl z.1) (fun _ z => z) fun w b e => by
    obtain ⟨c, ec, oc, _, fc, _⟩ := h.ownAt w
    have q : b = c := V.ref.inj (e.symm.trans ec)
    subst q
    exact ⟨rfl, ⟨oc, fun z => hw w (by rw [e, z])⟩, fc⟩
/-- the data of an owned thing, once it is shared -/
def SV.data : SV → D
  | .sh x => x
  | .ow xs => .lst xs
  | .ob _ C fs => .obj C fs
theorem DIx.ofree (I : DIx tk K F pn σ H d O T) {a : Addr} (hF : F.H a = none) (ht : offT T a) : (∀ b, F.O b → O b ∧ b ≠ a) ∧ (∀ p ∈ T, (O p.1 ∧ p.1 ≠ a) ∧ (O p.2 ∧ p.2 ≠ a) ∧ tk.ok H p.1 p.2) :=
  ⟨fun b q => ⟨I.up b q, fun z => I.fdom b q (by rw [z]; exact hF)⟩, fun p hp => ⟨⟨(I.tok p hp).1, fun z => (ht p hp).1 z.symm⟩, ⟨(I.tok p hp).2.1, fun z => (ht p hp).2 z.symm⟩, (I.tok p hp).2.2⟩⟩
theorem DI.freezeP {v : V} {s : SV} (I : DI tk K F ((v, s) :: pn) σ H d) : DI tk K F ((v, .sh s.data) :: pn) σ H d := by
  obtain ⟨O, T, I⟩ := I
  cases s with
  | sh x => exact ⟨O, T, I⟩
  | ow xs =>
    obtain ⟨a, vs, e, o, n, f, q, r⟩ := I.pe _ (List.mem_cons_self)
    obtain ⟨h1, h2⟩ := I.ofree n f
    refine ⟨fun b => O b ∧ b ≠ a, T, ?_⟩
    refine { I with up := h1, dom := fun b z => I.dom b z.1, new := fun b z => I.new b z.1, tok := h2, sl := fun i s es => ?_, pe := fun p hp => ?_, sp := fun i s u a' b c q hq w => ?_, pp := List.Pairwise.cons (fun q _ w => by cases w) (List.pairwise_cons.mp I.pp).2 }
    · obtain ⟨u, h3, h4⟩ := I.sl i s es
      exact ⟨u, h3, h4.free fun w z => I.sp i s u es w h3 _ (List.mem_cons_self) rfl (by rw [z]; exact e)⟩
    · rcases List.mem_cons.mp hp with ep | hp
      · subst ep
        exact ⟨a, vs, e, ⟨fun z => z.2 rfl, q⟩, RepL.mono (fun _ _ e _ => e) (fun _ z => .inl z.1) (fun _ z => z) xs vs r⟩
      · exact (I.pe p (List.mem_cons_of_mem _ hp)).free fun w z => (List.pairwise_cons.mp I.pp).1 p hp rfl w (by rw [z]; exact e)
    · rcases List.mem_cons.mp hq with eq | hq
      · subst eq; cases w
      · exact I.sp i s u a' b c q (List.mem_cons_of_mem _ hq) w
  | ob x C fs =>
    obtain ⟨dx, gs, e, o, n, f, q, r⟩ := I.pe _ (List.mem_cons_self)
    obtain ⟨h1, h2⟩ := I.ofree n f
    refine ⟨fun b => O b ∧ b ≠ x, T, ?_⟩
    refine { I with up := h1, dom := fun b z => I.dom b z.1, new := fun b z => I.new b z.1, tok := h2, sl := fun i s es => ?_, pe := fun p hp => ?_, sp := fun i s u a' b c q hq w => ?_, pp := List.Pairwise.cons (fun q _ w => by cases w) (List.pairwise_cons.mp I.pp).2 }
    · obtain ⟨u, h3, h4⟩ := I.sl i s es
      exact ⟨u, h3, h4.free fun w z => I.sp i s u es w h3 _ (List.mem_cons_self) rfl (by rw [z]; exact e)⟩
    · rcases List.mem_cons.mp hp with ep | hp
      · subst ep
        exact ⟨x, dx, gs, e, fun z => z.2 rfl, q, RepF.mono (fun _ _ e _ => e) (fun _ z => .inl z.1) (fun _ z => z) fs gs r⟩
      · exact (I.pe p (List.mem_cons_of_mem _ hp)).free fun w z => (List.pairwise_cons.mp I.pp).1 p hp rfl w (by rw [z]; exact e)
    · rcases List.mem_cons.mp hq with eq | hq
      · subst eq; cases w
      · exact I.sp i s u a' b c q (List.mem_cons_of_mem _ hq) w
/-- a name forgotten -/
theorem DIx.forget (I : DIx tk K F pn σ H d O T) (i : Nat) : DIx tk K F pn σ H (d.set i none) O T := by
  have g : ∀ {j s}, (d.set i none)[j]? = some (some s) → d[j]? = some (some s) := fun {j s} e => by
    by_cases z : i = j
    · subst z
      by_cases hl : i < d.length
      · rw [List.getElem?_set_self hl] at e; cases e
      · rw [List.getElem?_eq_none (by simpa using hl)] at e; cases e
    · rw [List.getElem?_set_ne z] at e; exact e
  exact { I with len := (by rw [List.length_set]; exact I.len), sl := fun j s e => I.sl j s (g e), ss := fun a b s t v hab ea wa eb wb => I.ss a b s t v hab (g ea) wa (g eb) wb, sp := fun j s v e => I.sp j s v (g e) }
/-- an owned name's value becomes pending and owned, the name is forgotten -/
theorem DIx.lift (I : DIx tk K F pn σ H d O T) {i : Nat} {s : SV} (e : d[i]? = some (some s)) : ∃ v, σ[i]? = some (some v) ∧ DIx tk K F ((v, s) :: pn) σ H (d.set i none) O T := by
  obtain ⟨v, h1, h2⟩ := I.sl i s e
  refine ⟨v, h1, ?_⟩
  have J := I.forget i
  have g : ∀ {j s}, (d.set i none)[j]? = some (some s) → j ≠ i ∧ d[j]? = some (some s) := fun {j s} e => by
    by_cases z : i = j
    · subst z
      by_cases hl : i < d.length
      · rw [List.getElem?_set_self hl] at e; cases e
      · rw [List.getElem?_eq_none (by simpa using hl)] at e; cases e
    · rw [List.getElem?_set_ne z] at e; exact ⟨fun q => z q.symm, e⟩
  refine { J with pe := fun p hp => ?_, sp := fun j t u a b c q hq w => ?_, pp := List.Pairwise.cons (fun q hq w w' z => I.sp i s v e w h1 q hq w' z.symm) I.pp }
  · rcases List.mem_cons.mp hp with ep | hp
    · subst ep; exact h2
    · exact I.pe p hp
  · rcases List.mem_cons.mp hq with eq | hq
    · subst eq
      intro z
      have z : v = u := z
      subst z
      exact I.ss i j s t v (fun z => (g a).1 z.symm) e w (g a).2 b h1 c
    · exact I.sp j t u (g a).2 b c q hq w
/-- an owned pending list is written -/
theorem DIx.mutP {v : V} {xs ys : List D} (I : DIx tk K F ((v, .ow xs) :: pn) σ H d O T) {a : Addr} {ws : List V} (ev : v = .ref a) (r : RepL K O T H ys ws) : DIx tk K F ((v, .ow ys) :: pn) σ (upd H a (.lst ws)) d O T := by
  obtain ⟨b, vs, e, o, n, f, q, _⟩ := I.pe _ (List.mem_cons_self)
  have eb : a = b := V.ref.inj (ev.symm.trans e)
  subst eb
  have hH : ∀ c u, H c = some u → ¬ O c → (upd H a (.lst ws)) c = some u := fun c u ec nc => by rw [upd_ne fun z => nc (by rw [z]; exact o)]; exact ec
  have mv : ∀ {s : SV} {u : V}, RepS K F O T H s u → (s.own = true → u ≠ v) → RepS K F O T (upd H a (.lst ws)) s u := fun {s u} r hw => r.mono hH (fun _ z => .inl z) (fun _ z => z) fun w c ec => by
    obtain ⟨c', ec', oc, _, fc, _⟩ := r.ownAt w
    have qc : c = c' := V.ref.inj (ec.symm.trans ec')
    subst qc
    exact ⟨upd_ne fun z => hw w (by rw [ec, z, ev]), oc, fc⟩
  have nn : ∀ c, H c ≠ none → (upd H a (.lst ws)) c ≠ none := fun c z => by
    by_cases e : c = a
    · subst e; rw [upd_same]; exact Option.some_ne_none _
    · rw [upd_ne e]; exact z
  refine { I with ext := fun c u ec fc => ?_, keep := fun c z => nn c (I.keep c z), dom := fun c z => nn c (I.dom c z), tok := fun p hp => ?_, sl := fun i s es => ?_, pe := fun p hp => ?_, sp := fun i s u a' b c q hq w => ?_, pp := List.Pairwise.cons (fun q hq w => (List.pairwise_cons.mp I.pp).1 q hq rfl) (List.pairwise_cons.mp I.pp).2 }
  · rw [upd_ne fun z => ?_]
    · exact I.ext c u ec fc
    · rw [z, n] at ec; cases ec
  · obtain ⟨t1, t2, t3⟩ := I.tok p hp
    exact ⟨t1, t2, tk.loc _ _ _ _ (upd_ne fun z => (f p hp).1 z.symm) (upd_ne fun z => (f p hp).2 z.symm) t3⟩
  · obtain ⟨u, h3, h4⟩ := I.sl i s es
    exact ⟨u, h3, mv h4 fun w z => I.sp i s u es w h3 _ (List.mem_cons_self) rfl z.symm⟩
  · rcases List.mem_cons.mp hp with ep | hp
    · subst ep
      exact ⟨a, ws, ev, o, n, f, upd_same, RepL.mono hH (fun _ z => .inl z) (fun _ z => z) ys ws r⟩
    · exact mv (I.pe p (List.mem_cons_of_mem _ hp)) fun w z => (List.pairwise_cons.mp I.pp).1 p hp rfl w z.symm
  · rcases List.mem_cons.mp hq with eq | hq
    · subst eq
      exact I.sp i s u a' b c (v, .ow xs) (List.mem_cons_self) rfl
    · exact I.sp i s u a' b c q (List.mem_cons_of_mem _ hq) w
/-- the attributes of an object that is being made -/
theorem DIx.mutO {v : V} {x C dx : Addr} {fs fs' : List (Str × D)} {gs' : List (Str × V)} (I : DIx tk K F ((v, .ob x C fs) :: pn) σ H d O T) (r : RepF K O T H fs' gs') : DIx tk K F ((v, .ob x C fs') :: pn) σ (upd H x (.ins C dx gs')) d O T := by
  obtain ⟨dx', gs, e, o, n, f, q, _⟩ := I.pe _ (List.mem_cons_self)
  have e : v = .ref x := e
  have hH : ∀ c u, H c = some u → ¬ O c → (upd H x (.ins C dx gs')) c = some u := fun c u ec nc => by rw [upd_ne fun z => nc (by rw [z]; exact o)]; exact ec
  have mv : ∀ {s : SV} {u : V}, RepS K F O T H s u → (s.own = true → u ≠ v) → RepS K F O T (upd H x (.ins C dx gs')) s u := fun {s u} r hw => r.mono hH (fun _ z => .inl z) (fun _ z => z) fun w c ec => by
    obtain ⟨c', ec', oc, _, fc, _⟩ := r.ownAt w
    have qc : c = c' := V.ref.inj (ec.symm.trans ec')
    subst qc
    exact ⟨upd_ne fun z => hw w (by rw [ec, z, e]), oc, fc⟩
  have nn : ∀ c, H c ≠ none → (upd H x (.ins C dx gs')) c ≠ none := fun c z => by
    by_cases e : c = x
    · subst e; rw [upd_same]; exact Option.some_ne_none _
    · rw [upd_ne e]; exact z
  refine { I with ext := fun c u ec fc => ?_, keep := fun c z => nn c (I.keep c z), dom := fun c z => nn c (I.dom c z), tok := fun p hp => ?_, sl := fun i s es => ?_, pe := fun p hp => ?_, sp := fun i s u a' b c q hq w => ?_, pp := List.Pairwise.cons (fun q hq w => (List.pairwise_cons.mp I.pp).1 q hq rfl) (List.pairwise_cons.mp I.pp).2 }
  · rw [upd_ne fun z => ?_]
    · exact I.ext c u ec fc
    · rw [z, n] at ec; cases ec
  · obtain ⟨t1, t2, t3⟩ := I.tok p hp
    exact ⟨t1, t2, tk.loc _ _ _ _ (upd_ne fun z => (f p hp).1 z.symm) (upd_ne fun z => (f p hp).2 z.symm) t3⟩
  · obtain ⟨u, h3, h4⟩ := I.sl i s es
    exact ⟨u, h3, mv h4 fun w z => I.sp i s u es w h3 _ (List.mem_cons_self) rfl z.symm⟩
  · rcases List.mem_cons.mp hp with ep | hp
    · subst ep
      exact ⟨dx, gs', e, o, n, f, upd_same, RepF.mono hH (fun _ z => .inl z) (fun _ z => z) fs' gs' r⟩
    · exact mv (I.pe p (List.mem_cons_of_mem _ hp)) fun w z => (List.pairwise_cons.mp I.pp).1 p hp rfl w z.symm
  · rcases List.mem_cons.mp hq with eq | hq
    · subst eq
      exact I.sp i s u a' b c (v, .ob x C fs) (List.mem_cons_self) rfl
    · exact I.sp i s u a' b c q (List.mem_cons_of_mem _ hq) w
/-- two pending values change places -/
theorem DIx.swap {p q : V × SV} (I : DIx tk K F (p :: q :: pn) σ H d O T) : DIx tk K F (q :: p :: pn) σ H d O T := by
  obtain ⟨h1, h2⟩ := List.pairwise_cons.mp I.pp
  obtain ⟨h3, h4⟩ := List.pairwise_cons.mp h2
  have mem : ∀ {z}, z ∈ q :: p :: pn → z ∈ p :: q :: pn := fun {z} hz => by
    simp only [List.mem_cons] at hz ⊢
    rcases hz with hz | hz | hz
    · exact .inr (.inl hz)
    · exact .inl hz
    · exact .inr (.inr hz)
  refine { I with pe := fun z hz => I.pe z (mem hz), sp := fun i s v a b c z hz => I.sp i s v a b c z (mem hz), pp := List.Pairwise.cons (fun z hz w w' e => ?_) (List.Pairwise.cons (fun z hz => h1 z (List.mem_cons_of_mem _ hz)) h4) }
  rcases List.mem_cons.mp hz with ez | hz
  · subst ez
    exact h1 q (List.mem_cons_self) w' w e.symm
  · exact h3 z hz w w' e
/-- back to the name that it was lifted from (the name still holds the value) -/
theorem DIx.land {v : V} {s : SV} {i : Nat} (I : DIx tk K F ((v, s) :: pn) σ H d O T) (hi : σ[i]? = some (some v)) : DIx tk K F pn σ H (d.set i (some s)) O T := by
  have hl : i < σ.length := (List.getElem?_eq_some_iff.mp hi).1
  have e : σ.set i (some v) = σ := by
    apply List.ext_getElem?
    intro j
    by_cases z : i = j
    · subst z; rw [List.getElem?_set_self hl, hi]
    · rw [List.getElem?_set_ne z]
  have J := I.toSlot (i := i)
  rw [e] at J
  exact J
end
end DL
set_option Elab.async false
set_option linter.all false
set_option maxRecDepth 100000
set_option maxHeartbeats 4000000
/-! DL2: judgements over plain data: expressions. -/
namespace L2
open PySem PySem.Spec PyProof.Rows
theorem tuple_mul1 (l : Addr) (items : Array Value) (n : Nat) (dd : Option Addr) (sl : Array (Option Value)) (u : Tok) :
    Meets (Builtin.«tuple.__mul__» ⟨[.ref l, .int 1 u], []⟩) (fun _ R s => s.heap.get? l = some { cls := .type "tuple", dict := dd, data := .seq items n, slots := sl } ∧
      R (.ok (.ret (Value.ref l))) s) :=
  .of_wp fun prog w A R s h => by
    obtain ⟨hp, g, d, tk, os⟩ := s
    obtain ⟨hl, h⟩ := h
    have f1 := AutoSeq1.idx_int
    have c0 : (decide ((1 : Int) < -(2 ^ 63)) || decide ((1 : Int) ≥ 2 ^ 63)) = false := by decide
    have c1 : (items.isEmpty || (1 : Int) == 1) = true := by rw [Bool.or_comm]; rfl
    wp_walk using wpAny_loadPart' hl
    repeat (first
      | (refine wpAny_ite_false (decide_eq_false (by rw [c0]; exact Bool.false_ne_true)) ?_; wp_walk using wpAny_loadPart' hl)
      | (refine wpAny_ite_true (decide_eq_true c1) ?_; wp_walk using wpAny_loadPart' hl))
    exact ⟨_, rfl, h⟩
theorem tuple_mul0 (l : Addr) (items : Array Value) (n : Nat) (dd : Option Addr) (sl : Array (Option Value)) (x : Int) (u : Tok) (c0 : (decide (x < -(2 ^ 63)) || decide (x ≥ 2 ^ 63)) = false) (c1 : (items.isEmpty || x == 1) = false) (c2 : (decide (x ≤ 0) || items.isEmpty) = true) :
    Meets (Builtin.«tuple.__mul__» ⟨[.ref l, .int x u], []⟩) (fun _ R s => s.heap.get? l = some { cls := .type "tuple", dict := dd, data := .seq items n, slots := sl } ∧
      R (.ok (.ret (Value.ref s.heap.objs.size))) { s with heap := s.heap.push { cls := Value.type "tuple", data := Data.seq #[] }, toks := s.toks }) :=
  .of_wp fun prog w A R s h => by
    obtain ⟨hp, g, d, tk, os⟩ := s
    obtain ⟨hl, h⟩ := h
    have f1 := AutoSeq1.idx_int
    wp_walk using wpAny_loadPart' hl
    repeat (first
      | (refine wpAny_ite_false (decide_eq_false (by rw [c0]; exact Bool.false_ne_true)) ?_; wp_walk using wpAny_loadPart' hl)
      | (refine wpAny_ite_false (decide_eq_false (by rw [c1]; exact Bool.false_ne_true)) ?_; wp_walk using wpAny_loadPart' hl)
      | (refine wpAny_ite_true (decide_eq_true c2) ?_; wp_walk using wpAny_loadPart' hl))
    exact ⟨_, rfl, h⟩
def rRepS (K : PySem.W.Frag) : R2 := fun x y H Q => ∃ l k xs, x = .ref l ∧ y = .int k ∧ SqT K H l xs ∧ xs ≠ [] ∧ -1000 ≤ k ∧ k ≤ 1 ∧ (k = 1 → Q (.ref l) H) ∧ (k ≤ 0 → ∀ p, H p = none → Q (.ref p) (upd H p (.tup [])))
theorem op_repS {X : Cx} : OpR X (binaryOp .Mult) (rRepS X.K) := by
  intro pins s σ H x y v u Q I rx ry h
  obtain ⟨l, k, xs, rfl, rfl, hT, hne, h1, h2, q1, q0⟩ := h
  cases rx
  obtain ⟨t, rfl⟩ := ry
  obtain ⟨its, r, ⟨⟨cls, dd, data, sl⟩, ho, hc, n, hd⟩, hs⟩ := I.tuple hT
  simp only at hc hd
  subst hc hd
  have hle : its.length = xs.length := r.length.symm
  have hn : its ≠ [] := fun e => hne (by
    rw [e] at hle
    exact List.eq_nil_of_length_eq_zero hle.symm)
  have hi : its.toArray.isEmpty = false := by
    cases its with
    | nil => exact absurd rfl hn
    | cons a b => rfl
  by_cases hk : k = 1
  · subst hk
    refine wpAny_binaryOp_repeat_ref (T := "tuple") (U := "int") (by decide) ⟨_, ho, rfl⟩ (fun s' => typeIs_int s' 1 t) noFill_tuple_mul F.fills_int_mul F.slot_int_rmul repeat_tuple F.slot_int_index.lookup
      (call_meets F.slot_int_rmul (typeIs_int s 1 t) F.entry_int_rmul (F.args_int_rmul_2 _ _) (int_rmul_tuple 1 t l its.toArray n dd sl)
        ⟨ho, rfl, ⟨_, ho, rfl⟩, call_meets F.slot_tuple_mul ⟨_, ho, rfl⟩ F.entry_tuple_mul (F.args_tuple_mul_2 _ _) (tuple_mul1 l its.toArray n dd sl t) ⟨ho, ?_⟩⟩)
    exact ⟨.ref l, H, I, rfl, q1 rfl⟩
  · have c0 : (decide (k < -(2 ^ 63)) || decide (k ≥ 2 ^ 63)) = false := by
      rw [decide_eq_false (by omega), decide_eq_false (by omega)] <;> rfl
    have c1 : (its.toArray.isEmpty || k == 1) = false := by
      rw [hi, Bool.false_or]
      exact beq_eq_false_iff_ne.mpr hk
    have c2 : (decide (k ≤ 0) || its.toArray.isEmpty) = true := by
      rw [decide_eq_true (by omega), Bool.true_or]
    refine wpAny_binaryOp_repeat_ref (T := "tuple") (U := "int") (by decide) ⟨_, ho, rfl⟩ (fun s' => typeIs_int s' k t) noFill_tuple_mul F.fills_int_mul F.slot_int_rmul repeat_tuple F.slot_int_index.lookup
      (call_meets F.slot_int_rmul (typeIs_int s k t) F.entry_int_rmul (F.args_int_rmul_2 _ _) (int_rmul_tuple k t l its.toArray n dd sl)
        ⟨ho, rfl, ⟨_, ho, rfl⟩, call_meets F.slot_tuple_mul ⟨_, ho, rfl⟩ F.entry_tuple_mul (F.args_tuple_mul_2 _ _) (tuple_mul0 l its.toArray n dd sl k t c0 c1 c2) ⟨ho, ?_⟩⟩)
    refine ⟨.ref s.heap.objs.size, _, I.laid (t' := s.toks) (o := .tup []) (fun b ob q => Heap.get?_push_of_some _ q) (Nat.le_refl _) ?_, rfl, q0 (by omega) _ (I.hok.fresh (Nat.le_refl _))⟩
    exact ⟨Nat.zero_le _, [], .nil, IsTup.new _ _⟩
end L2
namespace DL
open PySem L2

theorem pe_imp {X : Cx} {e : Expr} {t t' : TE} (h : PE X e t) (w : ∀ σ H k, t' σ H k → t σ H k) : PE X e t' := ⟨fun pins s σ H Q I q => h.run pins s σ H Q I (w σ H Q q)⟩
theorem pt_imp {X : Cx} {e : Expr} {t t' : TT} (h : PT X e t) (w : ∀ σ H k, t' σ H k → t σ H k) : PT X e t' := ⟨fun pins s σ H Q I q => h.run pins s σ H Q I (w σ H Q q)⟩
theorem pw_imp {X : Cx} {e : Expr} {t t' : TT} (h : PW X e t) (w : ∀ σ H k, t' σ H k → t σ H k) : PW X e t' := ⟨fun wh pins s σ H Q I q => h.run wh pins s σ H Q I (w σ H Q q)⟩
theorem pa_imp {X : Cx} {es : List Expr} {t t' : TA} (h : PA X es t) (w : ∀ σ H k, t' σ H k → t σ H k) : PA X es t' := ⟨fun pos pins s σ H Q I q => h.run pos pins s σ H Q I (w σ H Q q)⟩
theorem ps_imp {X : Cx} {st : Stmt} {t t' : TS} (h : PS X st t) (w : ∀ σ H D, t' D σ H → t D σ H) : PS X st t' := ⟨fun pins s σ H D I q => h.run pins s σ H D I (w σ H D q)⟩
theorem pss_imp {X : Cx} {st : List Stmt} {t t' : TS} (h : PSs X st t) (w : ∀ σ H D, t' D σ H → t D σ H) : PSs X st t' := ⟨fun pins s σ H D I q => h.run pins s σ H D I (w σ H D q)⟩
theorem pg_imp {X : Cx} {tg : Expr} {t t' : TG} (h : PG X tg t) (w : ∀ v σ H Q, t' v σ H Q → t v σ H Q) : PG X tg t' := ⟨fun pins s σ H v u Q I r q => h.run pins s σ H v u Q I r (w v σ H Q q)⟩
theorem pgs_imp {X : Cx} {tg : List Expr} {t t' : TGs} (h : PGs X tg t) (w : ∀ v σ H Q, t' v σ H Q → t v σ H Q) : PGs X tg t' := ⟨fun pins s σ H v u Q I r q => h.run pins s σ H v u Q I r (w v σ H Q q)⟩
theorem pi_imp {X : Cx} {tg it : Expr} {t t' : TI} (h : PI X tg it t) (w : ∀ σ H R, t' σ H R → t σ H R) : PI X tg it t' := ⟨fun pins s σ H R I q => h.run pins s σ H R I (w σ H R q)⟩

abbrev DTE := DS → (D → DS → Prop) → Prop
abbrev DTT := DS → (Bool → DS → Prop) → Prop
abbrev DTA := DS → (List D → DS → Prop) → Prop
def pz : List V → List D → Pn
  | v :: vs, x :: xs => (v, .sh x) :: pz vs xs
  | _, _ => []
section
variable (tk : Tk) (K : PySem.W.Frag)
def upE (t : DTE) : TE := fun σ H k => ∃ F pn d Q, DI tk K F pn σ H d ∧ t d Q ∧ ∀ v H' x d', DI tk K F ((v, .sh x) :: pn) σ H' d' → Q x d' → k v H'
def upF (t : DTA) : TE := fun σ H k => ∃ F pn d Q, DI tk K F pn σ H d ∧ t d Q ∧ ∀ v H' x d', DI tk K F ((v, .ow x) :: pn) σ H' d' → Q x d' → k v H'
def upT (t : DTT) : TT := fun σ H k => ∃ F pn d Q, DI tk K F pn σ H d ∧ t d Q ∧ ∀ b H' d', DI tk K F pn σ H' d' → Q b d' → k b H'
def upA (t : DTA) : TA := fun σ H k => ∃ F pn d Q, DI tk K F pn σ H d ∧ t d Q ∧ ∀ vs H' xs d', vs.length = xs.length → DI tk K F (pz vs xs ++ pn) σ H' d' → Q xs d' → k vs H'
end
abbrev DE (tk : Tk) (X : Cx) (e : Expr) (t : DTE) : Prop := PE X e (upE tk X.K t)
/-- a fresh list that nobody else holds -/
abbrev DF (tk : Tk) (X : Cx) (e : Expr) (t : DTA) : Prop := PE X e (upF tk X.K t)
abbrev DT (tk : Tk) (X : Cx) (e : Expr) (t : DTT) : Prop := PT X e (upT tk X.K t)
abbrev DW (tk : Tk) (X : Cx) (e : Expr) (t : DTT) : Prop := PW X e (upT tk X.K t)
abbrev DA (tk : Tk) (X : Cx) (es : List Expr) (t : DTA) : Prop := PA X es (upA tk X.K t)

section
variable {tk : Tk} {K : PySem.W.Frag} {F : FrC} {pn : Pn} {σ : St} {H H' : Hp} {d : DS} {O : Addr → Prop} {T : Tks}
theorem DI.add {v : V} {x : D} (I : DIx tk K F pn σ H d O T) (r : Rep K O T H x v) : DI tk K F ((v, .sh x) :: pn) σ H d := ⟨O, T, I.add r⟩
theorem repL_of : ∀ {vs : List V} {xs : List D}, vs.length = xs.length → (∀ p ∈ pz vs xs, RepS K F O T H p.2 p.1) → RepL K O T H xs vs
  | [], [], _, _ => rfl
  | v :: vs, x :: xs, hl, h => ⟨v, vs, rfl, h (v, .sh x) (List.mem_cons_self), repL_of (by simpa using hl) fun p hp => h p (List.mem_cons_of_mem _ hp)⟩
theorem DIx.args {vs : List V} {xs : List D} (I : DIx tk K F (pz vs xs ++ pn) σ H d O T) (hl : vs.length = xs.length) : RepL K O T H xs vs := repL_of hl fun p hp => I.pe p (List.mem_append_left _ hp)
theorem DIx.less {ps : Pn} (I : DIx tk K F (ps ++ pn) σ H d O T) : DIx tk K F pn σ H d O T := I.drop (List.sublist_append_right _ _)

/-- what may be read: a list whether it is shared or not -/
def RepR (K : PySem.W.Frag) (O : Addr → Prop) (T : Tks) (H : Hp) : D → V → Prop
  | .lst ds, v => ∃ a vs, v = .ref a ∧ H a = some (.lst vs) ∧ RepL K O T H ds vs
  | x, v => Rep K O T H x v
theorem Rep.r {x : D} {v : V} (h : Rep K O T H x v) : RepR K O T H x v := by
  cases x with
  | lst ds => obtain ⟨a, vs, e, t, r⟩ := h; exact ⟨a, vs, e, t.2, r⟩
  | _ => exact h
theorem RepL.mono0 (hH : ∀ a o, H a = some o → ¬ O a → H' a = some o) {xs : List D} {vs : List V} (r : RepL K O T H xs vs) : RepL K O T H' xs vs := RepL.mono hH (fun _ z => .inl z) (fun _ z => z) xs vs r
/-- the data of a name -/
def dPk (i : Nat) (d : DS) : Option D := match d[i]? with
  | some (some (.sh x)) => some x
  | some (some (.ow xs)) => some (.lst xs)
  | _ => none
theorem DIx.pk {i : Nat} {x : D} {v : V} (I : DIx tk K F pn σ H d O T) (h : dPk i d = some x) (hv : σ[i]? = some (some v)) : RepR K O T H x v := by
  unfold dPk at h
  split at h
  · rename_i y e
    cases h
    obtain ⟨u, h1, h2⟩ := I.sl _ _ e
    rw [hv] at h1; cases h1
    exact Rep.r h2
  · rename_i y e
    cases h
    obtain ⟨u, h1, h2⟩ := I.sl _ _ e
    rw [hv] at h1; cases h1
    obtain ⟨a, vs, e, _, _, _, q, r⟩ := h2
    exact ⟨a, vs, e, q, r⟩
  · cases h
theorem DIx.pkv {i : Nat} {x : D} (I : DIx tk K F pn σ H d O T) (h : dPk i d = some x) : ∃ v, σ[i]? = some (some v) := by
  unfold dPk at h
  split at h
  · rename_i y e
    obtain ⟨u, h1, h2⟩ := I.sl _ _ e
    exact ⟨u, h1⟩
  · rename_i y e
    obtain ⟨u, h1, h2⟩ := I.sl _ _ e
    exact ⟨u, h1⟩
  · cases h
end

/-! ### names, constants -/
section
variable {tk : Tk} {X : Cx} {pos : Pos} {a b e : Expr} {ta tb te : DTE}
/-- a name; an owned list becomes shared -/
def dVar (i : Nat) (d : DS) (Q : D → DS → Prop) : Prop := match d[i]? with
  | some (some (.sh x)) => Q x d
  | some (some (.ow xs)) => Q (.lst xs) (d.set i (some (.sh (.lst xs))))
  | _ => False
theorem de_nm {i : Nat} (h : PE X e (tVar i)) : DE tk X e (dVar i) := by
  refine pe_imp h ?_
  rintro σ H k ⟨F, pn, d, Q, ⟨O, T, I⟩, q, c⟩
  unfold dVar at q
  split at q
  · rename_i x e
    obtain ⟨v, h1, h2⟩ := I.sl _ _ e
    exact ⟨v, h1, c v H x d (DI.add I h2) q⟩
  · rename_i x e
    obtain ⟨v, h1, J⟩ := I.lift e
    have hl : i < d.length := (List.getElem?_eq_some_iff.mp e).1
    obtain ⟨O', T', J'⟩ := DI.freezeP ⟨O, T, J⟩
    have r := J'.pe _ (List.mem_cons_self)
    have J2 := DIx.land (i := i) (DIx.add J' r) h1
    rw [List.set_set] at J2
    exact ⟨v, h1, c v H _ _ ⟨O', T', J2⟩ q⟩
  · exact q.elim
def dC (x : D) (d : DS) (Q : D → DS → Prop) : Prop := Q x d
/-- a constant -/
def flatD : D → Option V
  | .non => some .non
  | .bl b => some (.bl b)
  | .int i => some (.int i)
  | .str x => some (.str x)
  | _ => none
theorem Rep.flat {K : PySem.W.Frag} {O : Addr → Prop} {T : Tks} {H : Hp} {x : D} {v : V} (h : flatD x = some v) : Rep K O T H x v := by
  cases x <;> first | (cases h; rfl) | cases h
theorem de_c {x : D} {v : V} (h : PE X e (tC v)) (hx : flatD x = some v) : DE tk X e (dC x) := by
  refine pe_imp h ?_
  rintro σ H k ⟨F, pn, d, Q, ⟨O, T, I⟩, q, c⟩
  exact c v H x d (DI.add I (Rep.flat hx)) q
theorem de_int {i j} : DE tk X (.Constant (.int i) j pos) (dC (.int i)) := de_c pe_int rfl
theorem de_bl {i j} : DE tk X (.Constant (.bool i) j pos) (dC (.bl i)) := de_c pe_bl rfl
theorem de_non {j} : DE tk X (.Constant .none j pos) (dC .non) := de_c pe_non rfl
theorem de_str {i j} : DE tk X (.Constant (.str i) j pos) (dC (.str i)) := de_c pe_str rfl
/-- a constant of the module -/
theorem de_glob {x : Str} {y : D} {v : V} {u : Value} (hg : Gl X x) (hm : X.mg x = some u) (r : RelV v u) (hy : flatD y = some v) (hd : (x == ("__debug__" : Str)) = false := by decide) : DE tk X (.Name x pos) (dC y) :=
  de_c (pe_glob hg hm r hd) hy

/-! ### operators by data -/
abbrev DR1 := D → (D → Prop) → Prop
abbrev DR2 := D → D → (D → Prop) → Prop
def OpD (tk : Tk) (K : PySem.W.Frag) (r : R2) (f : DR2) : Prop := ∀ (F : FrC) (pn : Pn) (σ : St) (H : Hp) (d : DS) (O : Addr → Prop) (T : Tks) (x y : D) (v w : V) (Q : D → Prop) (k : VK),
  DIx tk K F pn σ H d O T → RepR K O T H x v → RepR K O T H y w → f x y Q → (∀ z u H', DI tk K F ((z, .sh u) :: pn) σ H' d → Q u → k z H') → r v w H k
theorem OpD.or1 {K : PySem.W.Frag} {r r' : R2} {f g : DR2} (h : OpD tk K r f) (h' : OpD tk K r' g) : OpD tk K (fun x y H Q => r x y H Q ∨ r' x y H Q) (fun x y Q => f x y Q ∨ g x y Q) :=
  fun F pn σ H d O T x y v w Q k I rx ry q c => q.elim (fun q => .inl (h F pn σ H d O T x y v w Q k I rx ry q c)) fun q => .inr (h' F pn σ H d O T x y v w Q k I rx ry q c)
theorem OpD.by {K : PySem.W.Frag} {r : R2} {f g : DR2} (h : OpD tk K r f) (w : ∀ x y Q, g x y Q → f x y Q) : OpD tk K r g :=
  fun F pn σ H d O T x y v u Q k I rx ry q c => h F pn σ H d O T x y v u Q k I rx ry (w x y Q q) c
def dOp (f : DR2) (ta tb : DTE) (d : DS) (Q : D → DS → Prop) : Prop := ta d fun x d1 => tb d1 fun y d2 => f x y fun z => Q z d2
/-- the first operand a name, read where it stands -/
def dOpv (f : DR2) (i : Nat) (tb : DTE) (d : DS) (Q : D → DS → Prop) : Prop := match dPk i d with
  | some _ => tb d fun y d2 => match dPk i d2 with
    | some x => f x y fun z => Q z d2
    | none => False
  | none => False
theorem tOp_D {r : R2} {f : DR2} (hf : OpD tk X.K r f) : ∀ σ H k, upE tk X.K (dOp f ta tb) σ H k → tOp r (upE tk X.K ta) (upE tk X.K tb) σ H k := by
  rintro σ H k ⟨F, pn, d, Q, I, q, c⟩
  refine ⟨F, pn, d, _, I, q, fun v H1 x d1 I1 q1 => ⟨F, _, d1, _, I1, q1, fun w H2 y d2 I2 q2 => ?_⟩⟩
  obtain ⟨O, T, I2⟩ := I2
  have r1 : Rep X.K O T H2 x v := I2.pe (v, .sh x) (by simp)
  have r2 : Rep X.K O T H2 y w := I2.pe (w, .sh y) (by simp)
  exact hf F pn σ H2 d2 O T x y v w _ k (I2.drop (by simp)) r1.r r2.r q2 fun z u H' J q => c z H' u d2 J q
theorem tOpv_D {r : R2} {f : DR2} {i : Nat} (hf : OpD tk X.K r f) : ∀ σ H k, upE tk X.K (dOpv f i tb) σ H k → tOp r (tVar i) (upE tk X.K tb) σ H k := by
  rintro σ H k ⟨F, pn, d, Q, I, q, c⟩
  unfold dOpv at q
  split at q
  case h_2 => exact q.elim
  rename_i x0 hk0
  obtain ⟨v, hv⟩ : ∃ v, σ[i]? = some (some v) := by
    obtain ⟨O, T, I⟩ := I
    exact I.pkv hk0
  refine ⟨v, hv, F, pn, d, _, I, q, fun w H2 y d2 I2 q2 => ?_⟩
  obtain ⟨O, T, I2⟩ := I2
  have r2 : Rep X.K O T H2 y w := I2.pe (w, .sh y) (by simp)
  cases hk : dPk i d2 with
  | none => rw [hk] at q2; exact q2.elim
  | some x =>
    rw [hk] at q2
    exact hf F pn σ H2 d2 O T x y v w _ k (I2.drop (by simp)) (I2.pk hk hv) r2.r q2 fun z u H' J q => c z H' u d2 J q
theorem de_op {op : Operator} {r : R2} {f : DR2} (ho : OpR X (binaryOp op) r) (hf : OpD tk X.K r f) (ha : DE tk X a ta) (hb : DE tk X b tb) : DE tk X (.BinOp a op b pos) (dOp f ta tb) := pe_imp (pe_op ho ha hb) (tOp_D hf)
theorem de_opv {op : Operator} {r : R2} {f : DR2} {i : Nat} (ho : OpR X (binaryOp op) r) (hf : OpD tk X.K r f) (ha : PE X a (tVar i)) (hb : DE tk X b tb) : DE tk X (.BinOp a op b pos) (dOpv f i tb) := pe_imp (pe_op ho ha hb) (tOpv_D hf)
theorem de_cmp {op : CmpOp} {r : R2} {f : DR2} (ho : OpR X (compareOp op) r) (hf : OpD tk X.K r f) (ha : DE tk X a ta) (hb : DE tk X b tb) (hm : behindInMarks op b = false) : DE tk X (.Compare a [op] [b] pos) (dOp f ta tb) := pe_imp (pe_cmpR ho ha hb hm) (tOp_D hf)
theorem de_cmpv {op : CmpOp} {r : R2} {f : DR2} {i : Nat} (ho : OpR X (compareOp op) r) (hf : OpD tk X.K r f) (ha : PE X a (tVar i)) (hb : DE tk X b tb) (hm : behindInMarks op b = false) : DE tk X (.Compare a [op] [b] pos) (dOpv f i tb) := pe_imp (pe_cmpR ho ha hb hm) (tOpv_D hf)
theorem de_ix {r : R2} {f : DR2} (ho : IxR X r) (hf : OpD tk X.K r f) (ha : DE tk X a ta) (hb : DE tk X b tb) (hs : PlainIx b := by intro _ _; rfl) : DE tk X (.Subscript a b pos) (dOp f ta tb) := pe_imp (pe_ix ho ha hb hs) (tOp_D hf)
theorem de_ixv {r : R2} {f : DR2} {i : Nat} (ho : IxR X r) (hf : OpD tk X.K r f) (ha : PE X a (tVar i)) (hb : DE tk X b tb) (hs : PlainIx b := by intro _ _; rfl) : DE tk X (.Subscript a b pos) (dOpv f i tb) := pe_imp (pe_ix ho ha hb hs) (tOpv_D hf)
end

/-! ### the operators -/
section
variable {tk : Tk} {K : PySem.W.Frag}
theorem repR_int {O T H} {i : Int} {v : V} (h : RepR K O T H (.int i) v) : v = .int i := h
theorem RepR.tup {O T H} {ds : List D} {v : V} (h : RepR K O T H (.tup ds) v) : ∃ a vs, v = .ref a ∧ TupAt K O H a vs ∧ RepL K O T H ds vs := h
theorem RepR.lst {O T H} {ds : List D} {v : V} (h : RepR K O T H (.lst ds) v) : ∃ a vs, v = .ref a ∧ H a = some (.lst vs) ∧ RepL K O T H ds vs := h
theorem DI.int {F pn σ H d O T} (I : DIx tk K F pn σ H d O T) (i : Int) : DI tk K F ((.int i, .sh (.int i)) :: pn) σ H d := DI.add I rfl
theorem DI.bl {F pn σ H d O T} (I : DIx tk K F pn σ H d O T) (i : Bool) : DI tk K F ((.bl i, .sh (.bl i)) :: pn) σ H d := DI.add I rfl
theorem DI.str {F pn σ H d O T} (I : DIx tk K F pn σ H d O T) (i : Str) : DI tk K F ((.str i, .sh (.str i)) :: pn) σ H d := DI.add I rfl
/-- two ints -/
def fI (C : Int → Int → Prop) (g : Int → Int → D) (x y : D) (Q : D → Prop) : Prop := match x, y with
  | .int i, .int j => C i j ∧ Q (g i j)
  | _, _ => False
theorem opd_I {C : Int → Int → Prop} {g : Int → Int → D} {gv : Int → Int → V} (hg : ∀ i j, flatD (g i j) = some (gv i j)) : OpD tk K (rI C gv) (fI C g) := by
  intro F pn σ H d O T x y v w Q k I rx ry q c
  unfold fI at q
  split at q
  · exact ⟨_, _, rx, ry, q.1, c _ _ H (DI.add I (Rep.flat (hg _ _))) q.2⟩
  · exact q.elim
def fI0 (g : Int → Int → D) (x y : D) (Q : D → Prop) : Prop := match x, y with
  | .int i, .int j => Q (g i j)
  | _, _ => False
theorem opd_I0 {g : Int → Int → D} {gv : Int → Int → V} (hg : ∀ i j, flatD (g i j) = some (gv i j)) : OpD tk K (rI0 gv) (fI0 g) := by
  intro F pn σ H d O T x y v w Q k I rx ry q c
  unfold fI0 at q
  split at q
  · exact ⟨_, _, rx, ry, c _ _ H (DI.add I (Rep.flat (hg _ _))) q⟩
  · exact q.elim
/-- x + y -/
def fAdd (x y : D) (Q : D → Prop) : Prop := match x, y with
  | .int i, .int j => Q (.int (i + j))
  | .str i, .str j => i.length + j.length ≤ sizeLine ∧ Q (.str (i ++ j))
  | .tup xs, .tup ys => xs.length + ys.length ≤ sizeLine ∧ Q (.tup (xs ++ ys))
  | .lst xs, .lst ys => xs.length + ys.length ≤ sizeLine ∧ Q (.lst (xs ++ ys))
  | _, _ => False
def rAddAll (K : PySem.W.Frag) : R2 := fun x y H Q => (rI0 fun i j => .int (i + j)) x y H Q ∨ (∃ i j, x = .str i ∧ y = .str j ∧ i.length + j.length ≤ sizeLine ∧ Q (.str (i ++ j)) H) ∨ rCatA K x y H Q ∨ rCat x y H Q
theorem op_addAll {X : Cx} : OpR X (binaryOp .Add) (rAddAll X.K) := op_add.or (op_add_str.or (op_catA.or op_cat))
theorem DI.newT {F pn σ H d O T} {vs : List V} {xs : List D} (I : DIx tk K F pn σ H d O T) {p : Addr} (hp : H p = none) (r : RepL K O T H xs vs) : DI tk K F ((.ref p, .sh (.tup xs)) :: pn) σ (upd H p (.tup vs)) d := ⟨O, T, I.newT hp r⟩
theorem DI.newS {F pn σ H d O T} {vs : List V} {xs : List D} (I : DIx tk K F pn σ H d O T) {p : Addr} (hp : H p = none) (r : RepL K O T H xs vs) : DI tk K F ((.ref p, .sh (.lst xs)) :: pn) σ (upd H p (.lst vs)) d := DI.freezeP (s := .ow xs) ⟨_, T, I.newL hp r⟩
theorem DI.newO {F pn σ H d O T} {vs : List V} {xs : List D} (I : DIx tk K F pn σ H d O T) {p : Addr} (hp : H p = none) (r : RepL K O T H xs vs) : DI tk K F ((.ref p, .ow xs) :: pn) σ (upd H p (.lst vs)) d := ⟨_, T, I.newL hp r⟩
theorem opd_add : OpD tk K (rAddAll K) fAdd := by
  intro F pn σ H d O T x y v w Q k I rx ry q c
  unfold fAdd at q
  split at q
  · exact .inl ⟨_, _, rx, ry, c _ _ H (DI.int I _) q⟩
  · exact .inr (.inl ⟨_, _, rx, ry, q.1, c _ _ H (DI.str I _) q.2⟩)
  · rename_i xs ys
    obtain ⟨a, vs, rfl, ha, rv⟩ := rx.tup
    obtain ⟨b, ws, rfl, hb, rw'⟩ := ry.tup
    have l1 := rv.length
    have l2 := rw'.length
    refine .inr (.inr (.inl ⟨a, b, vs, ws, rfl, rfl, ha.sq, hb.sq, by omega, fun e => ?_, fun e e2 => ?_, fun e e2 p hp => ?_⟩))
    · subst e
      have z : xs = [] := List.eq_nil_of_length_eq_zero (by simpa using l1.symm)
      subst z
      exact c _ _ H (DI.add I ry) q.2
    · subst e2
      have z : ys = [] := List.eq_nil_of_length_eq_zero (by simpa using l2.symm)
      subst z
      rw [List.append_nil] at q
      exact c _ _ H (DI.add I rx) q.2
    · exact c _ _ _ (DI.newT I hp (rv.append rw')) q.2
  · rename_i xs ys
    obtain ⟨a, vs, rfl, ha, rv⟩ := rx.lst
    obtain ⟨b, ws, rfl, hb, rw'⟩ := ry.lst
    have l1 := rv.length
    have l2 := rw'.length
    exact .inr (.inr (.inr ⟨a, b, vs, ws, rfl, rfl, ha, hb, by omega, fun p hp => c _ _ _ (DI.newS I hp (rv.append rw')) q.2⟩))
  · exact q.elim
/-- x - y -/
abbrev fSub : DR2 := fI0 fun i j => .int (i - j)
theorem opd_sub : OpD tk K (rI0 fun i j => .int (i - j)) fSub := opd_I0 fun _ _ => rfl
/-- x * y -/
def MulOk (i j : Int) : Prop := CMul i j ∨ CMulW i j
def fMul (x y : D) (Q : D → Prop) : Prop := match x, y with
  | .int i, .int j => MulOk i j ∧ Q (.int (i * j))
  | .lst xs, .int k => -(2 ^ 63) ≤ k ∧ k < 2 ^ 63 ∧ xs.length * k.toNat ≤ sizeLine ∧ Q (.lst (List.replicate k.toNat xs).flatten)
  | .tup xs, .int k => xs ≠ [] ∧ -1000 ≤ k ∧ k ≤ 1000 ∧ xs.length ≤ 1000 ∧ Q (.tup (List.replicate k.toNat xs).flatten)
  | _, _ => False
def rMulAll (K : PySem.W.Frag) : R2 := fun x y H Q => (rI CMul fun i j => .int (i * j)) x y H Q ∨ (rI CMulW fun i j => .int (i * j)) x y H Q ∨ rRep x y H Q ∨ rRepT K x y H Q ∨ rRepS K x y H Q
theorem op_mulAll {X : Cx} : OpR X (binaryOp .Mult) (rMulAll X.K) := op_mul.or (op_mulW.or (op_rep.or (op_repT.or op_repS)))
theorem opd_mul : OpD tk K (rMulAll K) fMul := by
  intro F pn σ H d O T x y v w Q k I rx ry q c
  unfold fMul at q
  split at q
  · rcases q with ⟨q1 | q1, q⟩
    · exact .inl ⟨_, _, rx, ry, q1, c _ _ H (DI.int I _) q⟩
    · exact .inr (.inl ⟨_, _, rx, ry, q1, c _ _ H (DI.int I _) q⟩)
  · obtain ⟨a, vs, rfl, ha, rv⟩ := rx.lst
    have l1 := rv.length
    obtain ⟨q1, q2, q3, q⟩ := q
    exact .inr (.inr (.inl ⟨a, _, vs, rfl, ry, ha, q1, q2, by rw [l1]; exact q3, fun p hp => c _ _ _ (DI.newS I hp (rv.rep _)) q⟩))
  · rename_i xs k
    obtain ⟨a, vs, rfl, ha, rv⟩ := rx.tup
    have l1 := rv.length
    obtain ⟨q0, q1, q2, q3, q⟩ := q
    have ne : vs ≠ [] := fun e => q0 (List.eq_nil_of_length_eq_zero (by rw [← l1, e]; rfl))
    by_cases hk : 2 ≤ k
    · exact .inr (.inr (.inr (.inl ⟨a, _, vs, rfl, ry, ha.sq, ne, hk, q2, by rw [l1]; exact q3, fun p hp => c _ _ _ (DI.newT I hp (rv.rep _)) q⟩)))
    · refine .inr (.inr (.inr (.inr ⟨a, _, vs, rfl, ry, ha.sq, ne, q1, by omega, fun e => ?_, fun e p hp => ?_⟩)))
      · subst e
        rw [show (List.replicate (1 : Int).toNat xs).flatten = xs from List.append_nil _] at q
        exact c _ _ H (DI.add I rx) q
      · rw [show k.toNat = 0 by omega] at q
        exact c _ _ _ (DI.newT I hp (show RepL K O T H [] [] from rfl)) q
  · exact q.elim
/-- x // y, x % y, the divisor above 0 -/
abbrev fDiv : DR2 := fI CDivW fun i j => .int (i / j)
theorem opd_div : OpD tk K (rI CDivW fun i j => .int (i / j)) fDiv := opd_I fun _ _ => rfl
abbrev fMod : DR2 := fI (fun _ j => 0 < j) fun i j => .int (i % j)
theorem opd_mod : OpD tk K (rI (fun _ j => 0 < j) fun i j => .int (i % j)) fMod := opd_I fun _ _ => rfl
abbrev fPow : DR2 := fI CPow fun i j => .int (i ^ j.toNat)
theorem opd_pow : OpD tk K (rI CPow fun i j => .int (i ^ j.toNat)) fPow := opd_I fun _ _ => rfl
abbrev fLt : DR2 := fI0 fun i j => .bl (decide (i < j))
theorem opd_lt : OpD tk K (rI0 fun i j => .bl (decide (i < j))) fLt := opd_I0 fun _ _ => rfl
abbrev fLe : DR2 := fI0 fun i j => .bl (decide (i ≤ j))
theorem opd_le : OpD tk K (rI0 fun i j => .bl (decide (i ≤ j))) fLe := opd_I0 fun _ _ => rfl
abbrev fGt : DR2 := fI0 fun i j => .bl (decide (j < i))
theorem opd_gt : OpD tk K (rI0 fun i j => .bl (decide (j < i))) fGt := opd_I0 fun _ _ => rfl
abbrev fGe : DR2 := fI0 fun i j => .bl (decide (j ≤ i))
theorem opd_ge : OpD tk K (rI0 fun i j => .bl (decide (j ≤ i))) fGe := opd_I0 fun _ _ => rfl

/-! ### == of data -/
mutual
def toP : D → Option PyData
  | .non => some .none
  | .bl b => some (.bool b)
  | .int i => some (.int i)
  | .str x => some (.str x)
  | .tup xs => (toPs xs).map PyData.tuple
  | .lst xs => (toPs xs).map PyData.list
  | .frz xs => (toPs xs).map PyData.list
  | _ => none
def toPs : List D → Option (List PyData)
  | [] => some []
  | x :: xs => match toP x, toPs xs with
    | some y, some ys => some (y :: ys)
    | _, _ => none
end
section
variable {O : Addr → Prop} {T : Tks} {H : Hp}
mutual
theorem Rep.dp : ∀ (x : D) (v : V) (p : PyData), Rep K O T H x v → toP x = some p → Dp K H v p
  | .non, v, p, h, e => by cases e; rw [show v = V.non from h]; exact .non
  | .bl b, v, p, h, e => by cases e; rw [show v = V.bl b from h]; exact .bl b
  | .int b, v, p, h, e => by cases e; rw [show v = V.int b from h]; exact .int b
  | .str b, v, p, h, e => by cases e; rw [show v = V.str b from h]; exact .str b
  | .tup xs, v, p, h, e => by
    obtain ⟨a, vs, rfl, ha, r⟩ := h
    obtain ⟨ps, e1, rfl⟩ := Option.map_eq_some_iff.mp e
    exact .tup ha.sq (RepL.dp xs vs ps r e1)
  | .lst xs, v, p, h, e => by
    obtain ⟨a, vs, rfl, ha, r⟩ := h
    obtain ⟨ps, e1, rfl⟩ := Option.map_eq_some_iff.mp e
    exact .lst (SqL.of ha.2) (RepL.dp xs vs ps r e1)
  | .frz xs, v, p, h, e => by
    obtain ⟨a, vs, rfl, ha, r⟩ := h
    obtain ⟨ps, e1, rfl⟩ := Option.map_eq_some_iff.mp e
    exact .lst ha.sq (RepL.dp xs vs ps r e1)
  | .obj C fs, v, p, h, e => by cases e
  | .tok a b, v, p, h, e => by cases e
  | .exn _ _ _ _, v, p, h, e => by cases e
theorem RepL.dp : ∀ (xs : List D) (vs : List V) (ps : List PyData), RepL K O T H xs vs → toPs xs = some ps → DpAll K H vs ps
  | [], vs, ps, h, e => by cases e; rw [show vs = [] from h]; exact .nil
  | x :: xs, vs, ps, h, e => by
    obtain ⟨v, r, rfl, h1, h2⟩ := h
    unfold toPs at e
    split at e
    · rename_i y ys e1 e2
      cases e
      exact .cons (Rep.dp x v y h1 e1) (RepL.dp xs r ys h2 e2)
    · cases e
end
theorem RepR.dp {x : D} {v : V} {p : PyData} (h : RepR K O T H x v) (e : toP x = some p) : Dp K H v p := by
  cases x with
  | lst xs =>
    obtain ⟨a, vs, rfl, ha, r⟩ := h
    obtain ⟨ps, e1, rfl⟩ := Option.map_eq_some_iff.mp e
    exact .lst (SqL.of ha) (RepL.dp xs vs ps r e1)
  | _ => exact Rep.dp _ v p h e
end

/-- == : ints, texts, bools at once, other data by its form -/
def fEqG (g : Bool → Bool) (x y : D) (Q : D → Prop) : Prop := match x, y with
  | .int i, .int j => Q (.bl (g (decide (i = j))))
  | .str i, .str j => Q (.bl (g (decide (i = j))))
  | .bl i, .bl j => Q (.bl (g (decide (i = j))))
  | x, y => ∃ p q, toP x = some p ∧ toP y = some q ∧ SeqAt.shaped p = true ∧ SeqAt.shaped q = true ∧ Q (.bl (g (PyData.eqv p q)))
abbrev fEq : DR2 := fEqG id
abbrev fNe : DR2 := fEqG not

def rEqAll (K : PySem.W.Frag) : R2 := fun x y H Q => rEq x y H Q ∨ rEqD K x y H Q
def rNeAll (K : PySem.W.Frag) : R2 := fun x y H Q => rNe x y H Q ∨ rNeD K x y H Q
theorem op_eqAll {X : Cx} (hu : X.A.units + 64 < cLine) : OpR X (compareOp .Eq) (rEqAll X.K) := op_eq.or (op_eqD hu)
theorem op_neAll {X : Cx} (hu : X.A.units + 64 < cLine) : OpR X (compareOp .NotEq) (rNeAll X.K) := op_ne.or (op_neD hu)
theorem dec_inj {α β : Type} [DecidableEq α] [DecidableEq β] {c : α → β} (h : ∀ a b, c a = c b → a = b) (i j : α) : decide (c i = c j) = decide (i = j) := by
  by_cases e : i = j
  · rw [e, decide_eq_true rfl, decide_eq_true rfl]
  · rw [decide_eq_false e, decide_eq_false fun z => e (h _ _ z)]
theorem opd_eq : OpD tk K (rEqAll K) fEq := by
  intro F pn σ H d O T x y v w Q k I rx ry q c
  unfold fEq fEqG at q
  split at q
  · obtain rfl : v = .int _ := rx
    obtain rfl : w = .int _ := ry
    exact .inl ⟨rfl, by rw [dec_inj (c := V.int) fun a b => V.int.inj]; exact c _ _ H (DI.bl I _) q⟩
  · obtain rfl : v = .str _ := rx
    obtain rfl : w = .str _ := ry
    exact .inl ⟨rfl, by rw [dec_inj (c := V.str) fun a b => V.str.inj]; exact c _ _ H (DI.bl I _) q⟩
  · obtain rfl : v = .bl _ := rx
    obtain rfl : w = .bl _ := ry
    exact .inl ⟨rfl, by rw [dec_inj (c := V.bl) fun a b => V.bl.inj]; exact c _ _ H (DI.bl I _) q⟩
  · obtain ⟨p, p', e1, e2, s1, s2, q⟩ := q
    exact .inr ⟨p, p', rx.dp e1, ry.dp e2, s1, s2, c _ _ H (DI.bl I _) q⟩
theorem opd_ne : OpD tk K (rNeAll K) fNe := by
  intro F pn σ H d O T x y v w Q k I rx ry q c
  unfold fNe fEqG at q
  split at q
  · obtain rfl : v = .int _ := rx
    obtain rfl : w = .int _ := ry
    exact .inl ⟨rfl, by rw [dec_inj (c := V.int) fun a b => V.int.inj]; exact c _ _ H (DI.bl I _) q⟩
  · obtain rfl : v = .str _ := rx
    obtain rfl : w = .str _ := ry
    exact .inl ⟨rfl, by rw [dec_inj (c := V.str) fun a b => V.str.inj]; exact c _ _ H (DI.bl I _) q⟩
  · obtain rfl : v = .bl _ := rx
    obtain rfl : w = .bl _ := ry
    exact .inl ⟨rfl, by rw [dec_inj (c := V.bl) fun a b => V.bl.inj]; exact c _ _ H (DI.bl I _) q⟩
  · obtain ⟨p, p', e1, e2, s1, s2, q⟩ := q
    exact .inr ⟨p, p', rx.dp e1, ry.dp e2, s1, s2, c _ _ H (DI.bl I _) q⟩
/-- x[i] -/
def fIx (x y : D) (Q : D → Prop) : Prop := match x, y with
  | .tup xs, .int i => match atI xs i with
    | some z => Q z
    | none => False
  | .lst xs, .int i => match atI xs i with
    | some z => Q z
    | none => False
  | .frz xs, .int i => match atI xs i with
    | some z => Q z
    | none => False
  | .str z, .int i => z.length ≤ sizeLine ∧ match atI z.cps.toList i with
    | some c => Q (.str ⟨#[c]⟩)
    | none => False
  | _, _ => False
theorem RepL.atI {O : Addr → Prop} {T : Tks} {H : Hp} {xs : List D} {vs : List V} {i : Int} {z : D} (r : RepL K O T H xs vs) (h : L2.atI xs i = some z) : ∃ u, L2.atI vs i = some u ∧ Rep K O T H z u := by
  unfold L2.atI at h ⊢
  rw [r.length]
  cases e : ixN xs.length i with
  | none => rw [e] at h; cases h
  | some j =>
    rw [e] at h
    exact r.at h
theorem opd_ix : OpD tk K (rIx K) fIx := by
  intro F pn σ H d O T x y v w Q k I rx ry q c
  unfold fIx at q
  split at q
  · obtain ⟨a, vs, rfl, ha, rv⟩ := rx.tup
    split at q
    · rename_i z e
      obtain ⟨u, e1, r1⟩ := rv.atI e
      exact .inr (.inl ⟨a, vs, _, u, rfl, ry, ha.sq, e1, c _ _ H (DI.add I r1) q⟩)
    · exact q.elim
  · obtain ⟨a, vs, rfl, ha, rv⟩ := rx.lst
    split at q
    · rename_i z e
      obtain ⟨u, e1, r1⟩ := rv.atI e
      exact .inl ⟨a, vs, _, u, rfl, ry, SqL.of ha, e1, c _ _ H (DI.add I r1) q⟩
    · exact q.elim
  · obtain ⟨a, vs, rfl, ha, rv⟩ := (rx : ∃ a vs, v = .ref a ∧ FrzAt K O H a vs ∧ RepL K O T H _ vs)
    split at q
    · rename_i z e
      obtain ⟨u, e1, r1⟩ := rv.atI e
      exact .inl ⟨a, vs, _, u, rfl, ry, ha.sq, e1, c _ _ H (DI.add I r1) q⟩
    · exact q.elim
  · obtain ⟨q0, q⟩ := q
    split at q
    · rename_i z e
      exact .inr (.inr ⟨_, _, _, rx, ry, q0, e, c _ _ H (DI.str I _) q⟩)
    · exact q.elim
  · exact q.elim
end

/-! ### tests -/
section
variable {tk : Tk} {X : Cx} {pos : Pos} {a b e : Expr} {ta tb te : DTE} {tA tB' : DTT} {rest : List Expr}
def dTest (t : DTE) (d : DS) (Q : Bool → DS → Prop) : Prop := t d fun x d1 => match x with
  | .bl c => Q c d1
  | _ => False
theorem tB_D : ∀ σ H k, upT tk X.K (dTest te) σ H k → tB (upE tk X.K te) σ H k := by
  rintro σ H k ⟨F, pn, d, Q, I, q, c⟩
  refine ⟨F, pn, d, _, I, q, fun v H1 x d1 I1 q1 => ?_⟩
  obtain ⟨O, T, I1⟩ := I1
  have r1 : Rep X.K O T H1 x v := I1.pe (v, .sh x) (by simp)
  cases x with
  | bl z => exact ⟨z, r1, c z H1 d1 ⟨O, T, I1.drop (by simp)⟩ q1⟩
  | _ => exact q1.elim
/-- an expression that gives True or False, as a test -/
theorem dt_val (h : DE tk X e te) (he : ∀ whole, isTrue e X.env whole = (do let v ← whole; standAt e.pos; holding [v] (truthy v)) := by intro _; rfl) : DT tk X e (dTest te) := pt_imp (pt_val h he) tB_D
theorem dt_cmp {op : CmpOp} {r : R2} {f : DR2} (ho : OpR X (compareOp op) r) (hf : OpD tk X.K r f) (ha : DE tk X a ta) (hb : DE tk X b tb) (hm : behindInMarks op b = false) : DT tk X (.Compare a [op] [b] pos) (dTest (dOp f ta tb)) := by
  refine pt_imp (pt_cmpR ho ha hb hm) fun σ H k h => ?_
  obtain ⟨F, pn, d, Q, I, q, c⟩ := h
  refine tOp_D hf σ H _ ⟨F, pn, d, _, I, q, fun v H1 x d1 I1 q1 => ?_⟩
  obtain ⟨O, T, I1⟩ := I1
  have r1 : Rep X.K O T H1 x v := I1.pe (v, .sh x) (by simp)
  cases x with
  | bl z => exact ⟨z, r1, c z H1 d1 ⟨O, T, I1.drop (by simp)⟩ q1⟩
  | _ => exact q1.elim
theorem dt_cmpv {op : CmpOp} {r : R2} {f : DR2} {i : Nat} (ho : OpR X (compareOp op) r) (hf : OpD tk X.K r f) (ha : PE X a (tVar i)) (hb : DE tk X b tb) (hm : behindInMarks op b = false) : DT tk X (.Compare a [op] [b] pos) (dTest (dOpv f i tb)) := by
  refine pt_imp (pt_cmpR ho ha hb hm) fun σ H k h => ?_
  obtain ⟨F, pn, d, Q, I, q, c⟩ := h
  refine tOpv_D hf σ H _ ⟨F, pn, d, _, I, q, fun v H1 x d1 I1 q1 => ?_⟩
  obtain ⟨O, T, I1⟩ := I1
  have r1 : Rep X.K O T H1 x v := I1.pe (v, .sh x) (by simp)
  cases x with
  | bl z => exact ⟨z, r1, c z H1 d1 ⟨O, T, I1.drop (by simp)⟩ q1⟩
  | _ => exact q1.elim
def dAnd (t u : DTT) (d : DS) (Q : Bool → DS → Prop) : Prop := t d fun c d1 => if c = true then u d1 Q else Q false d1
def dOr (t u : DTT) (d : DS) (Q : Bool → DS → Prop) : Prop := t d fun c d1 => if c = true then Q true d1 else u d1 Q
def dNot (t : DTT) (d : DS) (Q : Bool → DS → Prop) : Prop := t d fun c d1 => Q (!c) d1
theorem upT_at {K : PySem.W.Frag} {F pn σ H d} {t : DTT} {Q : Bool → DS → Prop} {k : Bool → Hp → Prop} (I : DI tk K F pn σ H d) (q : t d Q) (c : ∀ b H' d', DI tk K F pn σ H' d' → Q b d' → k b H') : upT tk K t σ H k := ⟨F, pn, d, Q, I, q, c⟩
theorem upE_at {K : PySem.W.Frag} {F pn σ H d} {t : DTE} {Q : D → DS → Prop} {k : VK} (I : DI tk K F pn σ H d) (q : t d Q) (c : ∀ v H' x d', DI tk K F ((v, .sh x) :: pn) σ H' d' → Q x d' → k v H') : upE tk K t σ H k := ⟨F, pn, d, Q, I, q, c⟩
theorem dw_and1 (ha : DT tk X a tA) : DW tk X (.BoolOp .And [a] pos) tA := pw_and1 ha
theorem dw_or1 (ha : DT tk X a tA) : DW tk X (.BoolOp .Or [a] pos) tA := pw_or1 ha
theorem dw_and (ha : DT tk X a tA) (hb : DW tk X (.BoolOp .And (b :: rest) pos) tB') : DW tk X (.BoolOp .And (a :: b :: rest) pos) (dAnd tA tB') := by
  refine pw_imp (pw_and ha hb) ?_
  rintro σ H k ⟨F, pn, d, Q, I, q, c⟩
  refine upT_at I q fun z H1 d1 I1 q1 => ?_
  cases z with
  | true => exact upT_at I1 q1 c
  | false => exact c false H1 d1 I1 q1
theorem dw_or (ha : DT tk X a tA) (hb : DW tk X (.BoolOp .Or (b :: rest) pos) tB') : DW tk X (.BoolOp .Or (a :: b :: rest) pos) (dOr tA tB') := by
  refine pw_imp (pw_or ha hb) ?_
  rintro σ H k ⟨F, pn, d, Q, I, q, c⟩
  refine upT_at I q fun z H1 d1 I1 q1 => ?_
  cases z with
  | true => exact c true H1 d1 I1 q1
  | false => exact upT_at I1 q1 c
theorem dt_w (h : DW tk X e tA) : DT tk X e tA := h.pt
theorem dt_not (ha : DT tk X a tA) : DT tk X (.UnaryOp .Not a pos) (dNot tA) := by
  refine pt_imp (pt_not ha) ?_
  rintro σ H k ⟨F, pn, d, Q, I, q, c⟩
  exact upT_at I q fun z H1 d1 I1 q1 => c _ H1 d1 I1 q1
/-- and, or, not as values (of True and False, but the last one) -/
def dAndV (ta tb : DTE) (d : DS) (Q : D → DS → Prop) : Prop := ta d fun x d1 => match x with
  | .bl c => if c = true then tb d1 Q else Q (.bl false) d1
  | _ => False
def dOrV (ta tb : DTE) (d : DS) (Q : D → DS → Prop) : Prop := ta d fun x d1 => match x with
  | .bl c => if c = true then Q (.bl true) d1 else tb d1 Q
  | _ => False
def dNotV (ta : DTE) (d : DS) (Q : D → DS → Prop) : Prop := ta d fun x d1 => match x with
  | .bl c => Q (.bl (!c)) d1
  | _ => False
theorem de_one {op} (h : DE tk X a ta) : DE tk X (.BoolOp op [a] pos) ta := pe_one h
theorem de_and (ha : DE tk X a ta) (hb : DE tk X (.BoolOp .And (b :: rest) pos) tb) : DE tk X (.BoolOp .And (a :: b :: rest) pos) (dAndV ta tb) := by
  refine pe_imp (pe_and ha hb) ?_
  rintro σ H k ⟨F, pn, d, Q, I, q, c⟩
  refine upE_at I q fun v H1 x d1 I1 q1 => ?_
  obtain ⟨O, T, I1⟩ := I1
  have r1 : Rep X.K O T H1 x v := I1.pe (v, .sh x) (by simp)
  have J := I1.drop (pn' := pn) (by simp)
  cases x with
  | bl z =>
    refine ⟨z, r1, ?_⟩
    cases z with
    | true => exact upE_at ⟨O, T, J⟩ q1 c
    | false => exact c _ H1 _ d1 (DI.bl J false) q1
  | _ => exact q1.elim
theorem de_or (ha : DE tk X a ta) (hb : DE tk X (.BoolOp .Or (b :: rest) pos) tb) : DE tk X (.BoolOp .Or (a :: b :: rest) pos) (dOrV ta tb) := by
  refine pe_imp (pe_or ha hb) ?_
  rintro σ H k ⟨F, pn, d, Q, I, q, c⟩
  refine upE_at I q fun v H1 x d1 I1 q1 => ?_
  obtain ⟨O, T, I1⟩ := I1
  have r1 : Rep X.K O T H1 x v := I1.pe (v, .sh x) (by simp)
  have J := I1.drop (pn' := pn) (by simp)
  cases x with
  | bl z =>
    refine ⟨z, r1, ?_⟩
    cases z with
    | true => exact c _ H1 _ d1 (DI.bl J true) q1
    | false => exact upE_at ⟨O, T, J⟩ q1 c
  | _ => exact q1.elim
theorem de_not (ha : DE tk X a ta) : DE tk X (.UnaryOp .Not a pos) (dNotV ta) := by
  refine pe_imp (pe_not ha) ?_
  rintro σ H k ⟨F, pn, d, Q, I, q, c⟩
  refine upE_at I q fun v H1 x d1 I1 q1 => ?_
  obtain ⟨O, T, I1⟩ := I1
  have r1 : Rep X.K O T H1 x v := I1.pe (v, .sh x) (by simp)
  cases x with
  | bl z => exact ⟨z, r1, c _ H1 _ d1 (DI.bl (I1.drop (by simp)) _) q1⟩
  | _ => exact q1.elim
/-- a if t else b -/
def dIf (t : DTT) (ta tb : DTE) (d : DS) (Q : D → DS → Prop) : Prop := t d fun c d1 => if c = true then ta d1 Q else tb d1 Q
theorem de_ifExp {c : Expr} (hc : DT tk X c tA) (ha : DE tk X a ta) (hb : DE tk X b tb) : DE tk X (.IfExp c a b pos) (dIf tA ta tb) := by
  refine pe_imp (pe_ifExp hc ha hb) ?_
  rintro σ H k ⟨F, pn, d, Q, I, q, c⟩
  refine upT_at I q fun z H1 d1 I1 q1 => ?_
  cases z with
  | true => exact upE_at I1 q1 c
  | false => exact upE_at I1 q1 c
/-- is None -/
def isNon : D → Bool
  | .non => true
  | _ => false
def dIsN (ta : DTE) (d : DS) (Q : D → DS → Prop) : Prop := ta d fun x d1 => Q (.bl (isNon x)) d1
def dNotN (ta : DTE) (d : DS) (Q : D → DS → Prop) : Prop := ta d fun x d1 => Q (.bl (!isNon x)) d1
theorem Rep.isN {K O T H} {x : D} {v : V} (h : Rep K O T H x v) : decide (v = .non) = isNon x := by
  cases x with
  | non => rw [show v = V.non from h]; rfl
  | bl b => rw [show v = V.bl b from h]; rfl
  | int b => rw [show v = V.int b from h]; rfl
  | str b => rw [show v = V.str b from h]; rfl
  | tup b => obtain ⟨a, vs, rfl, _⟩ := h; rfl
  | lst b => obtain ⟨a, vs, rfl, _⟩ := h; rfl
  | frz b => obtain ⟨a, vs, rfl, _⟩ := h; rfl
  | obj C fs => obtain ⟨a, dx, gs, rfl, _⟩ := h; rfl
  | tok a b => rw [h.1]; rfl
  | exn a dd C y => obtain ⟨w, rfl, _⟩ := h; rfl
theorem de_isN {j pos'} (ha : DE tk X a ta) : DE tk X (.Compare a [.Is] [.Constant .none j pos'] pos) (dIsN ta) := by
  refine pe_imp (pe_cmp (pc_isN ha) rfl) ?_
  rintro σ H k ⟨F, pn, d, Q, I, q, c⟩
  refine upE_at I q fun v H1 x d1 I1 q1 => ?_
  obtain ⟨O, T, I1⟩ := I1
  have r1 : Rep X.K O T H1 x v := I1.pe (v, .sh x) (by simp)
  rw [r1.isN]
  exact c _ H1 _ d1 (DI.bl (I1.drop (by simp)) _) q1
theorem de_notN {j pos'} (ha : DE tk X a ta) : DE tk X (.Compare a [.IsNot] [.Constant .none j pos'] pos) (dNotN ta) := by
  refine pe_imp (pe_cmp (pc_notN ha) rfl) ?_
  rintro σ H k ⟨F, pn, d, Q, I, q, c⟩
  refine upE_at I q fun v H1 x d1 I1 q1 => ?_
  obtain ⟨O, T, I1⟩ := I1
  have r1 : Rep X.K O T H1 x v := I1.pe (v, .sh x) (by simp)
  rw [r1.isN]
  exact c _ H1 _ d1 (DI.bl (I1.drop (by simp)) _) q1
/-- is True, is False, of True and False -/
def fIsB (x y : D) (Q : D → Prop) : Prop := match x, y with
  | .bl a, .bl b => Q (.bl (decide (a = b)))
  | _, _ => False
theorem opd_isB {K} : OpD tk K rIsB fIsB := by
  intro F pn σ H d O T x y v w Q k I rx ry q c
  unfold fIsB at q
  split at q
  · exact ⟨_, _, rx, ry, c _ _ H (DI.bl I _) q⟩
  · exact q.elim
end
end DL
set_option Elab.async false
set_option linter.all false
set_option maxRecDepth 100000
set_option maxHeartbeats 4000000
/-! DL3: arguments, displays, calls, attributes, slices, lists that are written. -/
namespace DL
open PySem L2
section
variable {tk : Tk} {K : PySem.W.Frag} {F : FrC} {pn pn' : Pn} {σ : St} {H H' : Hp} {d : DS} {O : Addr → Prop} {T : Tks}
theorem DIx.perm (I : DIx tk K F pn σ H d O T) (h : List.Perm pn pn') : DIx tk K F pn' σ H d O T :=
  { I with pe := fun p hp => I.pe p (h.mem_iff.mpr hp), sp := fun i s v a b c q hq => I.sp i s v a b c q (h.mem_iff.mpr hq), pp := (h.pairwise_iff fun {x y} r w w' e => r w' w e.symm).mp I.pp }
theorem DI.perm (I : DI tk K F pn σ H d) (h : List.Perm pn pn') : DI tk K F pn' σ H d := let ⟨O, T, J⟩ := I; ⟨O, T, J.perm h⟩
theorem upA_at {t : DTA} {Q : List D → DS → Prop} {k : List V → Hp → Prop} (I : DI tk K F pn σ H d) (q : t d Q) (c : ∀ vs H' xs d', vs.length = xs.length → DI tk K F (pz vs xs ++ pn) σ H' d' → Q xs d' → k vs H') : upA tk K t σ H k := ⟨F, pn, d, Q, I, q, c⟩
theorem upF_at {t : DTA} {Q : List D → DS → Prop} {k : VK} (I : DI tk K F pn σ H d) (q : t d Q) (c : ∀ v H' xs d', DI tk K F ((v, .ow xs) :: pn) σ H' d' → Q xs d' → k v H') : upF tk K t σ H k := ⟨F, pn, d, Q, I, q, c⟩
end

/-! ### arguments, displays -/
section
variable {tk : Tk} {X : Cx} {pos : Pos} {a b e : Expr} {es : List Expr} {ta tb te : DTE} {t : DTA}
def dNil (d : DS) (Q : List D → DS → Prop) : Prop := Q [] d
def dCons (ta : DTE) (tr : DTA) (d : DS) (Q : List D → DS → Prop) : Prop := ta d fun x d1 => tr d1 fun xs d2 => Q (x :: xs) d2
theorem da_nil : DA tk X [] dNil := by
  refine pa_imp pa_nil ?_
  rintro σ H k ⟨F, pn, d, Q, I, q, c⟩
  exact c [] H [] d rfl I q
theorem da_cons (ha : DE tk X e te) (hr : DA tk X es t) (hs : starEach (e :: es) X.env = (false, eval e X.env) :: starEach es X.env := by rfl) : DA tk X (e :: es) (dCons te t) := by
  refine pa_imp (pa_cons ha hr hs) ?_
  rintro σ H k ⟨F, pn, d, Q, I, q, c⟩
  refine upE_at I q fun v H1 x d1 I1 q1 => upA_at I1 q1 fun vs H2 xs d2 hl I2 q2 => ?_
  exact c (v :: vs) H2 (x :: xs) d2 (by simp [hl]) (I2.perm List.perm_middle) q2
def dTup (t : DTA) (d : DS) (Q : D → DS → Prop) : Prop := t d fun xs d1 => xs.length ≤ sizeLine ∧ Q (.tup xs) d1
def dLst (t : DTA) (d : DS) (Q : D → DS → Prop) : Prop := t d fun xs d1 => xs.length ≤ sizeLine ∧ Q (.lst xs) d1
def dLstF (t : DTA) (d : DS) (Q : List D → DS → Prop) : Prop := t d fun xs d1 => xs.length ≤ sizeLine ∧ Q xs d1
theorem de_tup {x1} (h : DA tk X es t) : DE tk X (.Tuple es x1 pos) (dTup t) := by
  refine pe_imp (pe_tup h) ?_
  rintro σ H k ⟨F, pn, d, Q, I, q, c⟩
  refine upA_at I q fun vs H1 xs d1 hl I1 q1 => ⟨by rw [hl]; exact q1.1, fun p hp => ?_⟩
  obtain ⟨O, T, I1⟩ := I1
  exact c _ _ _ d1 (DI.newT I1.less hp (I1.args hl)) q1.2
theorem df_lst (h : DA tk X es t) : DF tk X (.List es pos) (dLstF t) := by
  refine pe_imp (pe_lst h) ?_
  rintro σ H k ⟨F, pn, d, Q, I, q, c⟩
  refine upA_at I q fun vs H1 xs d1 hl I1 q1 => ⟨by rw [hl]; exact q1.1, fun p hp => ?_⟩
  obtain ⟨O, T, I1⟩ := I1
  exact c _ _ _ d1 (DI.newO I1.less hp (I1.args hl)) q1.2
/-- a fresh list as any value -/
def dSh (t : DTA) (d : DS) (Q : D → DS → Prop) : Prop := t d fun xs d1 => Q (.lst xs) d1
theorem de_fr (h : DF tk X e t) : DE tk X e (dSh t) := by
  refine pe_imp h ?_
  rintro σ H k ⟨F, pn, d, Q, I, q, c⟩
  exact upF_at I q fun v H1 xs d1 I1 q1 => c v H1 _ d1 (DI.freezeP I1) q1
end

/-! ### built-in functions -/
def RepRL (K : PySem.W.Frag) (O : Addr → Prop) (T : Tks) (H : Hp) : List D → List V → Prop
  | [], vs => vs = []
  | d :: ds, vs => ∃ v r, vs = v :: r ∧ RepR K O T H d v ∧ RepRL K O T H ds r
theorem RepL.rl {K O T H} : ∀ {xs : List D} {vs : List V}, RepL K O T H xs vs → RepRL K O T H xs vs
  | [], vs, h => h
  | x :: xs, vs, h => by
    obtain ⟨v, r, e, h1, h2⟩ := h
    exact ⟨v, r, e, h1.r, RepL.rl h2⟩
theorem RepRL.one {K O T H} {x : D} {vs : List V} (h : RepRL K O T H [x] vs) : ∃ v, vs = [v] ∧ RepR K O T H x v := by
  obtain ⟨v, r, e, h1, h2⟩ := h
  rw [show r = [] from h2] at e
  exact ⟨v, e, h1⟩
theorem RepRL.two {K O T H} {x y : D} {vs : List V} (h : RepRL K O T H [x, y] vs) : ∃ v w, vs = [v, w] ∧ RepR K O T H x v ∧ RepR K O T H y w := by
  obtain ⟨v, r, e, h1, h2⟩ := h
  obtain ⟨w, e2, h3⟩ := RepRL.one h2
  rw [e2] at e
  exact ⟨v, w, e, h1, h3⟩
abbrev DSp := List D → (D → Prop) → Prop
def CallD (tk : Tk) (K : PySem.W.Frag) (r : List V → Hp → VK → Prop) (f : DSp) : Prop := ∀ (F : FrC) (pn : Pn) (σ : St) (H : Hp) (d : DS) (O : Addr → Prop) (T : Tks) (xs : List D) (vs : List V) (Q : D → Prop) (k : VK),
  DIx tk K F pn σ H d O T → RepRL K O T H xs vs → f xs Q → (∀ z u H', DI tk K F ((z, .sh u) :: pn) σ H' d → Q u → k z H') → r vs H k
section
variable {tk : Tk} {X : Cx} {pos p : Pos} {a b e : Expr} {es : List Expr} {ta tb te : DTE} {t : DTA} {x : Str} {id Ty : String} {r : List V → Hp → VK → Prop} {f : DSp}
def dCB (f : DSp) (t : DTA) (d : DS) (Q : D → DS → Prop) : Prop := t d fun xs d1 => f xs fun z => Q z d1
def dCBv (f : DSp) (i : Nat) (d : DS) (Q : D → DS → Prop) : Prop := match dPk i d with
  | some x => f [x] fun z => Q z d
  | none => False
theorem tCB_D (hf : CallD tk X.K r f) : ∀ σ H k, upE tk X.K (dCB f t) σ H k → tCB r (upA tk X.K t) σ H k := by
  rintro σ H k ⟨F, pn, d, Q, I, q, c⟩
  refine upA_at I q fun vs H1 xs d1 hl I1 q1 => ?_
  obtain ⟨O, T, I1⟩ := I1
  exact hf F pn σ H1 d1 O T xs vs _ k I1.less (I1.args hl).rl q1 fun z u H' J q => c z H' u d1 J q
theorem tCBv_D {i : Nat} (hf : CallD tk X.K r f) : ∀ σ H k, upE tk X.K (dCBv f i) σ H k → tCB r (tCons (tVar i) tNil) σ H k := by
  rintro σ H k ⟨F, pn, d, Q, ⟨O, T, I⟩, q, c⟩
  unfold dCBv at q
  split at q
  · rename_i x e
    obtain ⟨v, hv⟩ := I.pkv e
    exact ⟨v, hv, hf F pn σ H d O T [x] [v] _ k I ⟨v, [], rfl, I.pk e hv, rfl⟩ q fun z u H' J q => c z H' u d J q⟩
  · exact q.elim
theorem de_callB (hc : CallR X (.builtin id) r) (hf : CallD tk X.K r f) (hg : Gl X x) (hm : X.mg x = none) (hv : bootBuiltins x = some (.builtin id)) (ha : DA tk X (e :: es) t) (hn : x ≠ "__name__" := by decide) (hdb : (x == ("__debug__" : Str)) = false := by decide)
    (he : starEach (e :: es) X.env = (false, eval e X.env) :: starEach es X.env := by rfl) (hpl : (backTo pos (starEach es X.env)).any (·.1) = false := by rfl) : DE tk X (.Call (.Name x p) (e :: es) [] pos) (dCB f t) :=
  pe_imp (pe_callB hc hg hm hv ha hn hdb he hpl) (tCB_D hf)
theorem de_callBv {i : Nat} (hc : CallR X (.builtin id) r) (hf : CallD tk X.K r f) (hg : Gl X x) (hm : X.mg x = none) (hv : bootBuiltins x = some (.builtin id)) (ha : PE X e (tVar i)) (hn : x ≠ "__name__" := by decide) (hdb : (x == ("__debug__" : Str)) = false := by decide)
    (hs : starEach [e] X.env = [(false, eval e X.env)] := by rfl) : DE tk X (.Call (.Name x p) [e] [] pos) (dCBv f i) :=
  pe_imp (pe_callB hc hg hm hv (pa_cons ha pa_nil hs) hn hdb hs rfl) (tCBv_D hf)
theorem de_callTy (hc : CallR X (.type Ty) r) (hf : CallD tk X.K r f) (hg : Gl X x) (hm : X.mg x = none) (hv : bootBuiltins x = some (.type Ty)) (ha : DA tk X (e :: es) t) (hn : x ≠ "__name__" := by decide) (hdb : (x == ("__debug__" : Str)) = false := by decide)
    (he : starEach (e :: es) X.env = (false, eval e X.env) :: starEach es X.env := by rfl) (hpl : (backTo pos (starEach es X.env)).any (·.1) = false := by rfl) : DE tk X (.Call (.Name x p) (e :: es) [] pos) (dCB f t) :=
  pe_imp (pe_callTy hc hg hm hv ha hn hdb he hpl) (tCB_D hf)
theorem de_callTyv {i : Nat} (hc : CallR X (.type Ty) r) (hf : CallD tk X.K r f) (hg : Gl X x) (hm : X.mg x = none) (hv : bootBuiltins x = some (.type Ty)) (ha : PE X e (tVar i)) (hn : x ≠ "__name__" := by decide) (hdb : (x == ("__debug__" : Str)) = false := by decide)
    (hs : starEach [e] X.env = [(false, eval e X.env)] := by rfl) : DE tk X (.Call (.Name x p) [e] [] pos) (dCBv f i) :=
  pe_imp (pe_callTy hc hg hm hv (pa_cons ha pa_nil hs) hn hdb hs rfl) (tCBv_D hf)
end
section
variable {tk : Tk} {K : PySem.W.Frag}
def cI1 (g : Int → Int) (xs : List D) (Q : D → Prop) : Prop := match xs with
  | [.int i] => Q (.int (g i))
  | _ => False
def cI2 (g : Int → Int → Int) (xs : List D) (Q : D → Prop) : Prop := match xs with
  | [.int i, .int j] => Q (.int (g i j))
  | _ => False
abbrev cAbs : DSp := cI1 fun i => if i < 0 then -i else i
abbrev cMax : DSp := cI2 fun i j => if j > i then j else i
abbrev cMin : DSp := cI2 fun i j => if j < i then j else i
theorem calld_abs : CallD tk K (fun xs H Q => ∃ i, xs = [.int i] ∧ Q (.int (if i < 0 then -i else i)) H) cAbs := by
  intro F pn σ H d O T xs vs Q k I r q c
  unfold cAbs cI1 at q
  split at q
  · obtain ⟨v, rfl, h⟩ := r.one
    exact ⟨_, by rw [show v = V.int _ from h], c _ _ H (DI.int I _) q⟩
  · exact q.elim
theorem calld_max : CallD tk K (fun xs H Q => ∃ i j, xs = [.int i, .int j] ∧ Q (.int (if j > i then j else i)) H) cMax := by
  intro F pn σ H d O T xs vs Q k I r q c
  unfold cMax cI2 at q
  split at q
  · obtain ⟨v, w, rfl, h, h'⟩ := r.two
    exact ⟨_, _, by rw [show v = V.int _ from h, show w = V.int _ from h'], c _ _ H (DI.int I _) q⟩
  · exact q.elim
theorem calld_min : CallD tk K (fun xs H Q => ∃ i j, xs = [.int i, .int j] ∧ Q (.int (if j < i then j else i)) H) cMin := by
  intro F pn σ H d O T xs vs Q k I r q c
  unfold cMin cI2 at q
  split at q
  · obtain ⟨v, w, rfl, h, h'⟩ := r.two
    exact ⟨_, _, by rw [show v = V.int _ from h, show w = V.int _ from h'], c _ _ H (DI.int I _) q⟩
  · exact q.elim
/-- int(x) -/
def cInt (xs : List D) (Q : D → Prop) : Prop := match xs with
  | [.int i] => Q (.int i)
  | [.bl b] => Q (.int (if b then 1 else 0))
  | _ => False
theorem calld_int : CallD tk K (fun xs H Q => (∃ i, xs = [.int i] ∧ Q (.int i) H) ∨ ∃ k, xs = [.bl k] ∧ Q (.int (if k then 1 else 0)) H) cInt := by
  intro F pn σ H d O T xs vs Q k I r q c
  unfold cInt at q
  split at q
  · obtain ⟨v, rfl, h⟩ := r.one
    exact .inl ⟨_, by rw [show v = V.int _ from h], c _ _ H (DI.int I _) q⟩
  · obtain ⟨v, rfl, h⟩ := r.one
    exact .inr ⟨_, by rw [show v = V.bl _ from h], c _ _ H (DI.int I _) q⟩
  · exact q.elim
/-- str(i), str(x) -/
def cStr (xs : List D) (Q : D → Prop) : Prop := match xs with
  | [.int i] => i.natAbs.log2 < 1920 ∧ Q (.str (toString i))
  | [.str a] => Q (.str a)
  | _ => False
def rStrAll : List V → Hp → VK → Prop := fun xs H Q => (∃ i, xs = [.int i] ∧ i.natAbs.log2 < 1920 ∧ Q (.str (toString i)) H) ∨ ∃ a, xs = [.str a] ∧ Q (.str a) H
theorem call_strAll {X : Cx} : CallR X (.type "str") rStrAll := call_str_int.or SkE.call_str_str
theorem calld_str : CallD tk K rStrAll cStr := by
  intro F pn σ H d O T xs vs Q k I rl q c
  unfold cStr at q
  split at q
  · obtain ⟨v, rfl, rv⟩ := rl.one
    obtain rfl : v = .int _ := rv
    exact .inl ⟨_, rfl, q.1, c _ _ H (DI.str I _) q.2⟩
  · obtain ⟨v, rfl, rv⟩ := rl.one
    obtain rfl : v = .str _ := rv
    exact .inr ⟨_, rfl, c _ _ H (DI.str I _) q⟩
  · exact q.elim
/-- len(x) -/
def cLen (xs : List D) (Q : D → Prop) : Prop := match xs with
  | [.tup ys] => Q (.int ys.length)
  | [.lst ys] => Q (.int ys.length)
  | [.frz ys] => Q (.int ys.length)
  | [.str z] => z.length ≤ sizeLine ∧ Q (.int z.length)
  | _ => False
def rLenAll (K : PySem.W.Frag) : List V → Hp → VK → Prop := fun xs H Q => (∃ p ys, xs = [.ref p] ∧ (SqL K H p ys ∨ SqT K H p ys) ∧ Q (.int ys.length) H) ∨ (∃ z, xs = [.str z] ∧ z.length ≤ sizeLine ∧ Q (.int z.length) H)
theorem call_lenAll {X : Cx} : CallR X (.builtin "len") (rLenAll X.K) := call_len_seq.or call_len_str
theorem calld_len : CallD tk K (rLenAll K) cLen := by
  intro F pn σ H d O T xs vs Q k I r q c
  unfold cLen at q
  split at q
  · obtain ⟨v, rfl, h⟩ := r.one
    obtain ⟨a, ws, rfl, ha, rw'⟩ := RepR.tup h
    exact .inl ⟨a, ws, rfl, .inr ha.sq, by rw [rw'.length]; exact c _ _ H (DI.int I _) q⟩
  · obtain ⟨v, rfl, h⟩ := r.one
    obtain ⟨a, ws, rfl, ha, rw'⟩ := RepR.lst h
    exact .inl ⟨a, ws, rfl, .inl (SqL.of ha), by rw [rw'.length]; exact c _ _ H (DI.int I _) q⟩
  · obtain ⟨v, rfl, h⟩ := r.one
    obtain ⟨a, ws, rfl, ha, rw'⟩ := (h : ∃ a vs, v = .ref a ∧ FrzAt K O H a vs ∧ RepL K O T H _ vs)
    exact .inl ⟨a, ws, rfl, .inl ha.sq, by rw [rw'.length]; exact c _ _ H (DI.int I _) q⟩
  · obtain ⟨v, rfl, h⟩ := r.one
    exact .inr ⟨_, by rw [show v = V.str _ from h], q.1, c _ _ H (DI.int I _) q.2⟩
  · exact q.elim
/-- tuple(x) -/
def cTuple (xs : List D) (Q : D → Prop) : Prop := match xs with
  | [.tup ys] => Q (.tup ys)
  | [.lst ys] => Q (.tup ys)
  | [.frz ys] => Q (.tup ys)
  | _ => False
theorem calld_tuple : CallD tk K (fun xs H Q => ∃ p ys, xs = [.ref p] ∧ ((SqL K H p ys ∧ ∀ l, H l = none → Q (.ref l) (upd H l (.tup ys))) ∨ (SqT K H p ys ∧ Q (.ref p) H))) cTuple := by
  intro F pn σ H d O T xs vs Q k I r q c
  unfold cTuple at q
  split at q
  · obtain ⟨v, rfl, h⟩ := r.one
    obtain ⟨a, ws, rfl, ha, rw'⟩ := RepR.tup h
    exact ⟨a, ws, rfl, .inr ⟨ha.sq, c _ _ H (DI.add I h) q⟩⟩
  · obtain ⟨v, rfl, h⟩ := r.one
    obtain ⟨a, ws, rfl, ha, rw'⟩ := RepR.lst h
    exact ⟨a, ws, rfl, .inl ⟨SqL.of ha, fun l hl => c _ _ _ (DI.newT I hl rw') q⟩⟩
  · obtain ⟨v, rfl, h⟩ := r.one
    obtain ⟨a, ws, rfl, ha, rw'⟩ := (h : ∃ a vs, v = .ref a ∧ FrzAt K O H a vs ∧ RepL K O T H _ vs)
    exact ⟨a, ws, rfl, .inl ⟨ha.sq, fun l hl => c _ _ _ (DI.newT I hl rw') q⟩⟩
  · exact q.elim
/-- list(x) -/
def cList (xs : List D) (Q : D → Prop) : Prop := match xs with
  | [.tup ys] => Q (.lst ys)
  | [.lst ys] => Q (.lst ys)
  | [.frz ys] => Q (.lst ys)
  | _ => False
theorem calld_list : CallD tk K (fun xs H Q => ∃ p ys, xs = [.ref p] ∧ (SqL K H p ys ∨ SqT K H p ys) ∧ ∀ l, H l = none → Q (.ref l) (upd H l (.lst ys))) cList := by
  intro F pn σ H d O T xs vs Q k I r q c
  unfold cList at q
  split at q
  · obtain ⟨v, rfl, h⟩ := r.one
    obtain ⟨a, ws, rfl, ha, rw'⟩ := RepR.tup h
    exact ⟨a, ws, rfl, .inr ha.sq, fun l hl => c _ _ _ (DI.newS I hl rw') q⟩
  · obtain ⟨v, rfl, h⟩ := r.one
    obtain ⟨a, ws, rfl, ha, rw'⟩ := RepR.lst h
    exact ⟨a, ws, rfl, .inl (SqL.of ha), fun l hl => c _ _ _ (DI.newS I hl rw') q⟩
  · obtain ⟨v, rfl, h⟩ := r.one
    obtain ⟨a, ws, rfl, ha, rw'⟩ := (h : ∃ a vs, v = .ref a ∧ FrzAt K O H a vs ∧ RepL K O T H _ vs)
    exact ⟨a, ws, rfl, .inl ha.sq, fun l hl => c _ _ _ (DI.newS I hl rw') q⟩
  · exact q.elim
/-- all(xs), any(xs), sum(xs) of lists -/
def cAll (xs : List D) (Q : D → Prop) : Prop := match xs with
  | [.lst ys] => ∃ bs : List Bool, ys = bs.map D.bl ∧ Q (.bl (bs.all id))
  | _ => False
def cAny (xs : List D) (Q : D → Prop) : Prop := match xs with
  | [.lst ys] => ∃ bs : List Bool, ys = bs.map D.bl ∧ Q (.bl (bs.any id))
  | _ => False
def cSum (xs : List D) (Q : D → Prop) : Prop := match xs with
  | [.lst ys] => ∃ bs : List Int, ys = bs.map D.int ∧ Q (.int bs.sum)
  | _ => False
theorem calld_all : CallD tk K (rAll K) cAll := by
  intro F pn σ H d O T xs vs Q k I r q c
  unfold cAll at q
  split at q
  · obtain ⟨v, rfl, h⟩ := r.one
    obtain ⟨a, ws, rfl, ha, rw'⟩ := RepR.lst h
    obtain ⟨bs, rfl, q⟩ := q
    exact ⟨a, bs, rfl, SqL.of (by rw [ha, rw'.bls]), c _ _ _ (DI.bl I _) q⟩
  · exact q.elim
theorem calld_any : CallD tk K (rAny K) cAny := by
  intro F pn σ H d O T xs vs Q k I r q c
  unfold cAny at q
  split at q
  · obtain ⟨v, rfl, h⟩ := r.one
    obtain ⟨a, ws, rfl, ha, rw'⟩ := RepR.lst h
    obtain ⟨bs, rfl, q⟩ := q
    exact ⟨a, bs, rfl, SqL.of (by rw [ha, rw'.bls]), c _ _ _ (DI.bl I _) q⟩
  · exact q.elim
theorem calld_sum : CallD tk K (rSum K) cSum := by
  intro F pn σ H d O T xs vs Q k I r q c
  unfold cSum at q
  split at q
  · obtain ⟨v, rfl, h⟩ := r.one
    obtain ⟨a, ws, rfl, ha, rw'⟩ := RepR.lst h
    obtain ⟨bs, rfl, q⟩ := q
    exact ⟨a, bs, rfl, SqL.of (by rw [ha, rw'.ints]), c _ _ _ (DI.int I _) q⟩
  · exact q.elim
end

/-! ### isinstance -/
section
variable {tk : Tk} {X : Cx} {pos p p2 : Pos} {e : Expr} {te : DTE}
def tyn : D → Option String
  | .non => some "NoneType"
  | .bl _ => some "bool"
  | .int _ => some "int"
  | .str _ => some "str"
  | .tup _ => some "tuple"
  | .lst _ => some "list"
  | .frz _ => some "list"
  | _ => none
theorem Rep.ty {K O T H} {x : D} {v : V} {n : String} (h : Rep K O T H x v) (e : tyn x = some n) : TyX K H v (.type n) := by
  cases x with
  | non => cases e; rw [show v = V.non from h]; exact .base .non
  | bl b => cases e; rw [show v = V.bl b from h]; exact .base (.bl b)
  | int b => cases e; rw [show v = V.int b from h]; exact .base (.int b)
  | str b => cases e; rw [show v = V.str b from h]; exact .base (.str b)
  | tup b =>
    cases e
    obtain ⟨a, vs, rfl, ha, _⟩ := h
    rcases ha with ha | ⟨o, its, m, h1, h2, _⟩
    · exact .base (.tup ha.2)
    · exact .kTuple h1 h2
  | lst b => cases e; obtain ⟨a, vs, rfl, ha, _⟩ := h; exact .base (.lst ha.2)
  | frz b =>
    cases e
    obtain ⟨a, vs, rfl, ha, _⟩ := h
    rcases ha with ⟨_, o, ha⟩ | ⟨o, its, m, h1, h2, _⟩
    · exact .base (.frz ha)
    · exact .kList h1 h2
  | obj C fs => cases e
  | tok a b => cases e
  | exn _ _ _ _ => cases e
/-- isinstance of built-in types -/
def isaB (a b : String) : Option Bool := match a, b with
  | "NoneType", "int" => some false | "NoneType", "bool" => some false | "NoneType", "str" => some false | "NoneType", "tuple" => some false | "NoneType", "list" => some false
  | "bool", "int" => some true | "bool", "bool" => some true | "bool", "str" => some false | "bool", "tuple" => some false | "bool", "list" => some false
  | "int", "int" => some true | "int", "bool" => some false | "int", "str" => some false | "int", "tuple" => some false | "int", "list" => some false
  | "str", "int" => some false | "str", "bool" => some false | "str", "str" => some true | "str", "tuple" => some false | "str", "list" => some false
  | "tuple", "int" => some false | "tuple", "bool" => some false | "tuple", "str" => some false | "tuple", "tuple" => some true | "tuple", "list" => some false
  | "list", "int" => some false | "list", "bool" => some false | "list", "str" => some false | "list", "tuple" => some false | "list", "list" => some true
  | _, _ => none
theorem isaB_kit {a b : String} {r : Bool} (h : isaB a b = some r) : kitB a b = some r := by
  unfold isaB at h
  split at h <;> first | (cases h; decide +kernel) | cases h
def isa (x : D) (n : String) : Option Bool := (tyn x).bind fun a => isaB a n
def dIsi (n : String) (te : DTE) (d : DS) (Q : D → DS → Prop) : Prop := te d fun x d1 => match isa x n with
  | some b => Q (.bl b) d1
  | none => False
theorem isa_kit {K O T H} {x : D} {v : V} {n : String} {b : Bool} (h : Rep K O T H x v) (e : isa x n = some b) : ∃ t, TyX K H v t ∧ PySem.W.kitOne K t (.type n) = some b := by
  obtain ⟨m, e1, e2⟩ := Option.bind_eq_some_iff.mp e
  exact ⟨_, h.ty e1, kit_ty (isaB_kit e2)⟩
theorem de_isi {n : Str} {ty : String} (hg : Gl X "isinstance") (hm : X.mg "isinstance" = none) (he : DE tk X e te) (hgn : Gl X n) (hmn : X.mg n = none) (hb : bootBuiltins n = some (.type ty)) (hn : n ≠ "__name__" := by decide) (hd : (n == ("__debug__" : Str)) = false := by decide)
    (hs : starEach [e, .Name n p2] X.env = [(false, eval e X.env), (false, eval (.Name n p2) X.env)] := by rfl) (hs2 : starEach [.Name n p2] X.env = [(false, eval (.Name n p2) X.env)] := by rfl) :
    DE tk X (.Call (.Name "isinstance" p) [e, .Name n p2] [] pos) (dIsi ty te) := by
  refine pe_imp (pe_callB (t := tCons (upE tk X.K te) (tCons (tC (.ty ty)) tNil)) call_isi hg hm (by decide +kernel) (pa_cons he (pa_cons (pe_bltn hgn hmn hb rfl hn hd) pa_nil (by rw [hs2]; rfl)) (by rw [hs, hs2])) (by decide) (by decide) (by rw [hs, hs2]) (by rw [hs2]; rfl)) ?_
  rintro σ H k ⟨F, pn, d, Q, I, q, c⟩
  refine upE_at I q fun v H1 x d1 I1 q1 => ?_
  obtain ⟨O, T, I1⟩ := I1
  have r1 : Rep X.K O T H1 x v := I1.pe (v, .sh x) (by simp)
  split at q1
  · rename_i b eb
    obtain ⟨t, h1, h2⟩ := isa_kit r1 eb
    exact ⟨v, _, t, _, b, rfl, .ty ty, h1, h2, c _ H1 _ d1 (DI.bl (I1.drop (by simp)) b) q1⟩
  · exact q1.elim
def dIsi2 (n m : String) (te : DTE) (d : DS) (Q : D → DS → Prop) : Prop := te d fun x d1 => match isa x n, isa x m with
  | some b, some b' => Q (.bl (b || b')) d1
  | _, _ => False
theorem de_isi2 {n m : Str} {ty ty' : String} {p3 p4 : Pos} {z : Nat} (hg : Gl X "isinstance") (hm : X.mg "isinstance" = none) (he : DE tk X e te) (hgn : Gl X n) (hmn : X.mg n = none) (hb : bootBuiltins n = some (.type ty)) (hgm : Gl X m) (hmm : X.mg m = none) (hbm : bootBuiltins m = some (.type ty'))
    (hn : n ≠ "__name__" := by decide) (hd : (n == ("__debug__" : Str)) = false := by decide) (hn' : m ≠ "__name__" := by decide) (hd' : (m == ("__debug__" : Str)) = false := by decide)
    (h1 : PA X [e, .Tuple [.Name n p2, .Name m p3] z p4] (tCons (upE tk X.K te) (tCons (tTup (tCons (tC (.ty ty)) (tCons (tC (.ty ty')) tNil))) tNil)) := by exact pa_cons he (pa_cons (pe_tup (pa_cons (pe_bltn hgn hmn hb rfl hn hd) (pa_cons (pe_bltn hgm hmm hbm rfl hn' hd') pa_nil))) pa_nil))
    (hs : starEach [e, .Tuple [.Name n p2, .Name m p3] z p4] X.env = (false, eval e X.env) :: starEach [.Tuple [.Name n p2, .Name m p3] z p4] X.env := by rfl) (hpl : (backTo pos (starEach [.Tuple [.Name n p2, .Name m p3] z p4] X.env)).any (·.1) = false := by rfl) :
    DE tk X (.Call (.Name "isinstance" p) [e, .Tuple [.Name n p2, .Name m p3] z p4] [] pos) (dIsi2 ty ty' te) := by
  refine pe_imp (pe_callB call_isiT hg hm (by decide +kernel) h1 (by decide) (by decide) hs hpl) ?_
  rintro σ H k ⟨F, pn, d, Q, I, q, c⟩
  refine upE_at I q fun v H1 x d1 I1 q1 => ⟨by show 2 ≤ sizeLine; decide, fun t ht => ?_⟩
  obtain ⟨O, T, I1⟩ := I1
  have r1 : Rep X.K O T H1 x v := I1.pe (v, .sh x) (by simp)
  have J := I1.fresh (o := .tup [.ty ty, .ty ty']) ht
  have r2 : Rep X.K O T (upd H1 t (.tup [.ty ty, .ty ty'])) x v := J.pe (v, .sh x) (by simp)
  split at q1
  · rename_i b b' eb eb'
    obtain ⟨m, e1, e2⟩ := Option.bind_eq_some_iff.mp eb
    obtain ⟨m', e3, e4⟩ := Option.bind_eq_some_iff.mp eb'
    have : m = m' := Option.some.inj (e1.symm.trans e3)
    subst this
    refine ⟨v, t, _, _, _, b || b', rfl, upd_same, .cons (.ty _) (.cons (.ty _) .nil), r2.ty e1, ?_, c _ _ _ d1 (DI.bl (J.drop (by simp)) _) q1⟩
    refine kitAny_cons (kit_ty (isaB_kit e2)) (fun z => ?_) (fun z => by rw [z]; rfl)
    subst z
    refine kitAny_cons (r := b') (kit_ty (isaB_kit e4)) (fun z => by rw [z]; exact kitAny_nil) (fun z => z)
  · exact q1.elim
end
end DL
set_option Elab.async false
set_option linter.all false
set_option maxRecDepth 100000
set_option maxHeartbeats 4000000
/-! DL4: attributes, slices, statements, loops. -/
namespace DL
open PySem L2

/-! ### attributes -/
section
variable {tk : Tk} {X : Cx} {pos p p2 : Pos} {e : Expr} {te : DTE} {f : Str}
def AtOk (K : PySem.W.Frag) (C : Addr) (f : Str) : Prop := Cls K C ∧ NoAttr K C f
def dFld (K : PySem.W.Frag) (f : Str) (te : DTE) (d : DS) (Q : D → DS → Prop) : Prop := te d fun x d1 => match x with
  | .obj C fs => AtOk K C f ∧ match fs.lookup f with
    | some y => Q y d1
    | none => False
  | _ => False
theorem de_fld (K : PySem.W.Frag) (he : DE tk X e te) (hb : attributeBase e f X.env (eval e X.env) = eval e X.env) (hK : X.K = K := by rfl) : DE tk X (.Attribute e f pos) (dFld K f te) := by
  subst hK
  refine pe_imp (pe_fld he hb) ?_
  rintro σ H k ⟨F, pn, d, Q, I, q, c⟩
  refine upE_at I q fun v H1 x d1 I1 q1 => ?_
  obtain ⟨O, T, I1⟩ := I1
  have r1 : Rep X.K O T H1 x v := I1.pe (v, .sh x) (by simp)
  split at q1
  · obtain ⟨a, dx, gs, e1, _, h1, h2⟩ := r1
    obtain ⟨q0, q1⟩ := q1
    split at q1
    · rename_i y ey
      obtain ⟨u, h3, h4⟩ := h2.lookup ey
      exact ⟨a, _, dx, gs, u, e1, h1, q0.1, q0.2, h3, c u H1 y d1 (DI.add (I1.drop (by simp)) h4) q1⟩
    · exact q1.elim
  · exact q1.elim
end

/-! ### slices -/
section
variable {tk : Tk} {X : Cx} {pos p2 : Pos} {e : Expr} {te : DTE} {lo hi : Option Expr} {tl th : DTE}
abbrev DTO := DS → (Option Int → DS → Prop) → Prop
def upO (tk : Tk) (K : PySem.W.Frag) (t : DTO) : TO := fun σ H k => ∃ F pn d Q, DI tk K F pn σ H d ∧ t d Q ∧ ∀ o H' d', DI tk K F pn σ H' d' → Q o d' → k o H'
abbrev DO (tk : Tk) (X : Cx) (e : Option Expr) (t : DTO) : Prop := PO X e (upO tk X.K t)
theorem po_imp {e : Option Expr} {t t' : TO} (h : PO X e t) (w : ∀ σ H k, t' σ H k → t σ H k) : PO X e t' := ⟨fun pins s σ H Q I q => h.run pins s σ H Q I (w σ H Q q)⟩
def dNoPart (d : DS) (Q : Option Int → DS → Prop) : Prop := Q none d
def dPart (t : DTE) (d : DS) (Q : Option Int → DS → Prop) : Prop := t d fun x d1 => match x with
  | .int i => Q (some i) d1
  | _ => False
theorem do_none : DO tk X none dNoPart := by
  refine po_imp po_none ?_
  rintro σ H k ⟨F, pn, d, Q, I, q, c⟩
  exact c none H d I q
theorem do_some (h : DE tk X e te) : DO tk X (some e) (dPart te) := by
  refine po_imp (po_some h) ?_
  rintro σ H k ⟨F, pn, d, Q, I, q, c⟩
  refine upE_at I q fun v H1 x d1 I1 q1 => ?_
  obtain ⟨O, T, I1⟩ := I1
  have r1 : Rep X.K O T H1 x v := I1.pe (v, .sh x) (by simp)
  cases x with
  | int i => exact ⟨i, r1, c _ H1 d1 ⟨O, T, I1.drop (by simp)⟩ q1⟩
  | _ => exact q1.elim
def cutD (xs : List D) (lo hi : Option Int) : List D := (xs.drop (HT.sIx xs.length 0 lo)).take (HT.sIx xs.length xs.length hi - HT.sIx xs.length 0 lo)
theorem RepL.cut {K O T H} {xs : List D} {vs : List V} (r : RepL K O T H xs vs) (lo hi : Option Int) : RepL K O T H (cutD xs lo hi) (cutV vs lo hi) := by
  unfold cutD cutV
  rw [r.length]
  exact (r.drop _).take _
/-- slices of lists, tuples -/
def rSlAll (K : PySem.W.Frag) : V → Option Int → Option Int → Hp → VK → Prop := fun x lo hi H Q => rSlL K x lo hi H Q ∨ rSlA K x lo hi H Q
theorem sl_all : SlR X (rSlAll X.K) := sl_list.or sl_tupA
def dSl (te : DTE) (tl th : DTO) (d : DS) (Q : D → DS → Prop) : Prop := te d fun x d1 => tl d1 fun lo d2 => th d2 fun hi d3 => match x with
  | .tup xs => Q (.tup (cutD xs lo hi)) d3
  | .lst xs => Q (.lst (cutD xs lo hi)) d3
  | .frz xs => Q (.lst (cutD xs lo hi)) d3
  | _ => False
theorem cut_whole {α : Type} (xs : List α) (n : Nat) (h : n = xs.length) (lo hi : Option Int) (q : HT.sIx n 0 lo = 0 ∧ HT.sIx n n hi = n) : (xs.drop (HT.sIx n 0 lo)).take (HT.sIx n n hi - HT.sIx n 0 lo) = xs := by
  rw [q.1, q.2, h]
  simp
theorem de_slice {tl th : DTO} (he : DE tk X e te) (hl : DO tk X lo tl) (hu : DO tk X hi th) : DE tk X (.Subscript e (.Slice lo hi none p2) pos) (dSl te tl th) := by
  refine pe_imp (pe_slice sl_all he hl hu) ?_
  rintro σ H k ⟨F, pn, d, Q, I, q, c⟩
  refine upE_at I q fun v H1 x d1 I1 q1 => ⟨F, _, d1, _, I1, q1, fun l H2 d2 I2 q2 => ⟨F, _, d2, _, I2, q2, fun u H3 d3 I3 q3 => ?_⟩⟩
  obtain ⟨O, T, I3⟩ := I3
  have r1 : Rep X.K O T H3 x v := I3.pe (v, .sh x) (by simp)
  have J := I3.drop (pn' := pn) (by simp)
  split at q3
  · rename_i xs
    obtain ⟨a, vs, rfl, ha, rv⟩ := id r1
    refine .inr ⟨a, vs, rfl, ha.sq, fun z => ?_, fun z p hp => c _ _ _ d3 (DI.newT J hp (rv.cut l u)) q3⟩
    have e : cutD xs l u = xs := cut_whole xs xs.length rfl l u (by rw [← rv.length]; exact z)
    rw [e] at q3
    exact c _ H3 _ d3 (DI.add J r1) q3
  · rename_i xs
    obtain ⟨a, vs, rfl, ha, rv⟩ := id r1
    exact .inl ⟨a, vs, rfl, SqL.of ha.2, fun p hp => c _ _ _ d3 (DI.newS J hp (rv.cut l u)) q3⟩
  · rename_i xs
    obtain ⟨a, vs, rfl, ha, rv⟩ := id r1
    exact .inl ⟨a, vs, rfl, ha.sq, fun p hp => c _ _ _ d3 (DI.newS J hp (rv.cut l u)) q3⟩
  · exact q3.elim
/-- xs[::-1] of a list, fresh -/
def dRevL (te : DTE) (d : DS) (Q : List D → DS → Prop) : Prop := te d fun x d1 => match x with
  | .lst xs => Q xs.reverse d1
  | .frz xs => Q xs.reverse d1
  | _ => False
theorem df_revL {k : Nat} {p1 p2 p3 : Pos} (he : DE tk X e te) : DF tk X (.Subscript e (.Slice none none (some (.UnaryOp .USub (.Constant (.int 1) k p1) p2)) p3) pos) (dRevL te) := by
  refine pe_imp (pe_revL he) ?_
  rintro σ H k ⟨F, pn, d, Q, I, q, c⟩
  refine upE_at I q fun v H1 x d1 I1 q1 => ?_
  obtain ⟨O, T, I1⟩ := I1
  have r1 : Rep X.K O T H1 x v := I1.pe (v, .sh x) (by simp)
  have J := I1.drop (pn' := pn) (by simp)
  split at q1
  · obtain ⟨a, vs, rfl, ha, rv⟩ := id r1
    exact ⟨a, vs, rfl, SqL.of ha.2, fun p hp => c _ _ _ d1 (DI.newO J hp rv.reverse) q1⟩
  · obtain ⟨a, vs, rfl, ha, rv⟩ := id r1
    exact ⟨a, vs, rfl, ha.sq, fun p hp => c _ _ _ d1 (DI.newO J hp rv.reverse) q1⟩
  · exact q1.elim
/-- -x -/
def dNeg (te : DTE) (d : DS) (Q : D → DS → Prop) : Prop := te d fun x d1 => match x with
  | .int i => Q (.int (-i)) d1
  | _ => False
theorem de_neg (he : DE tk X e te) : DE tk X (.UnaryOp .USub e pos) (dNeg te) := by
  refine pe_imp (pe_un un_neg he) ?_
  rintro σ H k ⟨F, pn, d, Q, I, q, c⟩
  refine upE_at I q fun v H1 x d1 I1 q1 => ?_
  obtain ⟨O, T, I1⟩ := I1
  have r1 : Rep X.K O T H1 x v := I1.pe (v, .sh x) (by simp)
  cases x with
  | int i => exact ⟨i, r1, c _ H1 _ d1 (DI.int (I1.drop (by simp)) _) q1⟩
  | _ => exact q1.elim
end

/-! ### own functions -/
def RetOk (tk : Tk) (K : PySem.W.Frag) (F : FrC) (v : V) (H' : Hp) (x : D) : Prop := ∃ pn σ d, DI tk.b K F ((v, .sh x) :: pn) σ H' d
/-- the promise of a def over data -/
def spD (tk : Tk) (K : PySem.W.Frag) (n : Nat) (c : DSp) : Sp := fun vs H Q _ => vs.length = n ∧ ∃ (O : Addr → Prop) (T : Tks) (xs : List D), (∀ a, O a → H a ≠ none) ∧ (∀ p ∈ T, O p.1 ∧ O p.2 ∧ tk.ok H p.1 p.2) ∧ RepL K O T H xs vs ∧
  ∃ Qd : D → Prop, c xs Qd ∧ ∀ x v H', Qd x → RetOk tk K ⟨H, O, T⟩ v H' x → Q v H'
section
variable {tk : Tk} {K : PySem.W.Frag} {F : FrC} {pn : Pn} {σ : St} {H H' : Hp} {d : DS} {O : Addr → Prop} {T : Tks}
/-- behind a call -/
theorem DIx.bare (I : DIx tk K F pn σ H d O T) : DIx tk.b K F pn σ H d O T := ⟨I.len, I.ext, I.keep, I.up, I.fdom, I.dom, I.new, I.sub, I.tnew, I.tok, I.sl, I.pe, I.ss, I.sp, I.pp, True.intro⟩
theorem DI.bare (I : DI tk K F pn σ H d) : DI tk.b K F pn σ H d := by
  obtain ⟨O, T, I⟩ := I
  exact ⟨O, T, I.bare⟩
theorem DIx.wear {φ : FrC → Prop} (I : DIx tk K F pn σ H d O T) (h : φ F) : DIx (tk.w φ) K F pn σ H d O T := ⟨I.len, I.ext, I.keep, I.up, I.fdom, I.dom, I.new, I.sub, I.tnew, I.tok, I.sl, I.pe, I.ss, I.sp, I.pp, h⟩
theorem DIx.backX (I : DIx tk K F pn σ H d O T) {v : V} {x : D} {pn' : Pn} {σ' : St} {d' : DS} {O' : Addr → Prop} {T' : Tks} (J : DIx tk.b K ⟨H, O, T⟩ ((v, .sh x) :: pn') σ' H' d' O' T') : DIx tk K F ((v, .sh x) :: pn) σ H' d (fun a => O a ∨ ∃ p ∈ T', a = p.1 ∨ a = p.2) T' := by
  have rx : Rep K O' T' H' x v := J.pe _ (List.mem_cons_self)
  have same : ∀ a o, H a = some o → ¬ O a → H' a = some o := fun a o e n => J.ext a o e fun p hp => ⟨fun z => n (by rw [z]; exact (I.tok p hp).1), fun z => n (by rw [z]; exact (I.tok p hp).2.1)⟩
  have newO : ∀ a, (O a ∨ ∃ p ∈ T', a = p.1 ∨ a = p.2) → O a ∨ H a = none := fun a z => by
    rcases z with z | ⟨p, hp, z⟩
    · exact .inl z
    · rcases J.tnew p hp with q | ⟨q1, q2⟩
      · rcases z with z | z
        · exact .inl (by rw [z]; exact (I.tok p q).1)
        · exact .inl (by rw [z]; exact (I.tok p q).2.1)
      · rcases z with z | z
        · exact .inr (by rw [z]; exact q1)
        · exact .inr (by rw [z]; exact q2)
  have off : ∀ a, offT T a → H a ≠ none → offT T' a := fun a f n p hp => by
    rcases J.tnew p hp with q | ⟨q1, q2⟩
    · exact f p q
    · exact ⟨fun z => n (by rw [z]; exact q1), fun z => n (by rw [z]; exact q2)⟩
  have mv : ∀ {s : SV} {u : V}, RepS K F O T H s u → RepS K F (fun a => O a ∨ ∃ p ∈ T', a = p.1 ∨ a = p.2) T' H' s u := fun {s u} r => r.mono same newO (fun p hp => J.sub p hp) fun w a e => by
    obtain ⟨b, eb, ob, _, fb, nb⟩ := r.ownAt w
    have q : a = b := V.ref.inj (e.symm.trans eb)
    subst q
    cases hb : H a with
    | none => exact absurd hb nb
    | some o => exact ⟨J.ext a o hb fb, .inl ob, off a fb nb⟩
  refine DIx.add (x := x) (v := v) ?_ ?_
  · refine { fx := I.fx, len := I.len, ext := fun a o e f => J.ext a o (I.ext a o e f) ?_, keep := fun a e => J.keep a (I.keep a e), up := fun a e => .inl (I.up a e), fdom := I.fdom, dom := fun a z => ?_, new := fun a z => ?_, sub := fun p hp => J.sub p (I.sub p hp), tnew := fun p hp => ?_, tok := fun p hp => ⟨.inr ⟨p, hp, .inl rfl⟩, .inr ⟨p, hp, .inr rfl⟩, (J.tok p hp).2.2⟩, sl := fun i s e => let ⟨u, h1, h2⟩ := I.sl i s e; ⟨u, h1, mv h2⟩, pe := fun p hp => mv (I.pe p hp), ss := I.ss, sp := I.sp, pp := I.pp }
    · intro p hp
      rcases I.tnew p hp with q | ⟨q1, q2⟩
      · exact f p q
      · exact ⟨fun z => (by rw [z, q1] at e; cases e), fun z => (by rw [z, q2] at e; cases e)⟩
    · rcases z with z | ⟨p, hp, z⟩
      · exact J.keep a (I.dom a z)
      · have t := tk.there _ _ _ (J.tok p hp).2.2
        rcases z with z | z
        · rw [z]; exact t.1
        · rw [z]; exact t.2
    · rcases newO a z with z | z
      · exact I.new a z
      · refine .inr ?_
        cases q : F.H a with
        | none => rfl
        | some o => exact absurd z (I.keep a (by rw [q]; exact Option.some_ne_none _))
    · rcases J.tnew p hp with q | ⟨q1, q2⟩
      · exact I.tnew p q
      · refine .inr ⟨?_, ?_⟩
        · cases q : F.H p.1 with
          | none => rfl
          | some o => exact absurd q1 (I.keep p.1 (by rw [q]; exact Option.some_ne_none _))
        · cases q : F.H p.2 with
          | none => rfl
          | some o => exact absurd q2 (I.keep p.2 (by rw [q]; exact Option.some_ne_none _))
  · refine Rep.mono (fun _ _ e _ => e) (fun a z => .inl ?_) (fun _ z => z) x v rx
    rcases z with z | ⟨p, hp, z⟩
    · exact J.up a z
    · rcases z with z | z
      · rw [z]; exact (J.tok p hp).1
      · rw [z]; exact (J.tok p hp).2.1
theorem DIx.back (I : DIx tk K F pn σ H d O T) {v : V} {x : D} (r : RetOk tk K ⟨H, O, T⟩ v H' x) : DI tk K F ((v, .sh x) :: pn) σ H' d := by
  obtain ⟨pn', σ', d', O', T', J⟩ := r
  exact ⟨_, _, I.backX J⟩
end
section
variable {tk : Tk} {X : Cx} {pos p p2 : Pos} {e : Expr} {es : List Expr} {te : DTE} {t : DTA} {CX : CXT} {k n : Nat} {f : Addr} {fd : FuncData} {ps : List Str} {c : DSp} {x : Str} {dvs : List V} {ds : List Value} {dds : List D}
/-- f(e, ..): the contract of its data, the defaults behind -/
def dCall (n : Nat) (c : DSp) (dds : List D) (t : DTA) (d : DS) (Q : D → DS → Prop) : Prop := t d fun xs d1 => (xs ++ dds).length = n ∧ c (xs ++ dds) fun z => Q z d1
theorem repFlat {K O T H} : ∀ {dds : List D} {dvs : List V}, dds.map flatD = dvs.map some → RepL K O T H dds dvs
  | [], [], _ => rfl
  | x :: xs, v :: vs, e => by
    simp only [List.map_cons, List.cons.injEq] at e
    exact ⟨v, vs, rfl, Rep.flat e.1, repFlat e.2⟩
  | [], v :: vs, e => by cases e
  | x :: xs, [], e => by cases e
theorem de_callD (F : FnOk X.prog X.w X.K X.mg X.base CX0 k f fd ps (spD tk X.K n c)) (hr : Room k X.A) (hg : Gl X x) (hm : X.mg x = some (.ref f)) (hk : PySem.W.keepIn X.K (.ref f) = true) (hb : Binds X.K fd ps ds) (hd : Vals dvs ds) (hdd : dds.map flatD = dvs.map some) (hn : ps.length = n)
    (ha : DA tk X (e :: es) t) (hdb : (x == ("__debug__" : Str)) = false := by decide) (he : starEach (e :: es) X.env = (false, eval e X.env) :: starEach es X.env := by rfl) (hpl : (backTo pos (starEach es X.env)).any (·.1) = false := by rfl) :
    DE tk X (.Call (.Name x p) (e :: es) [] pos) (dCall n c dds t) := by
  refine pe_imp (pe_call F hr hg hm hk hb hd pass0 ha hdb he hpl) ?_
  rintro σ H k ⟨F, pn, d, Q, I, q, c'⟩
  refine upA_at I q fun vs H1 xs d1 hl I1 q1 => ?_
  obtain ⟨O, T, I1⟩ := I1
  have rl : RepL X.K O T H1 (xs ++ dds) (vs ++ dvs) := (I1.args hl).append (repFlat hdd)
  have J := I1.less
  exact ⟨by rw [rl.length]; exact q1.1, O, T, xs ++ dds, J.dom, J.tok, rl, _, q1.2, fun y v H' qy ret => c' v H' y d1 (J.back ret) qy⟩
end

/-! ### statements -/
structure DEn where
  nx : DS → Prop
  rt : D → Prop
  bk : DS → Prop := fun _ => False
  ct : DS → Prop := fun _ => False
abbrev DTS := DEn → DS → Prop
/-- what a frame wants at its ends, by data -/
structure EndOk (tk : Tk) (K : PySem.W.Frag) (F : FrC) (pn : Pn) (E : DEn) (D : Ends) : Prop where
  nx : ∀ σ H d, DI tk K F pn σ H d → E.nx d → D.nx σ H
  rt : ∀ v H x, RetOk tk K F v H x → E.rt x → D.rt v H
  bk : ∀ σ H d, DI tk K F pn σ H d → E.bk d → D.bk σ H
  ct : ∀ σ H d, DI tk K F pn σ H d → E.ct d → D.ct σ H
def upS (tk : Tk) (K : PySem.W.Frag) (t : DTS) : TS := fun D σ H => ∃ F pn d E, DI tk K F pn σ H d ∧ t E d ∧ EndOk tk K F pn E D
abbrev DSt (tk : Tk) (X : Cx) (st : Stmt) (t : DTS) : Prop := PS X st (upS tk X.K t)
abbrev DSs (tk : Tk) (X : Cx) (st : List Stmt) (t : DTS) : Prop := PSs X st (upS tk X.K t)
section
variable {tk : Tk} {X : Cx} {st : Stmt} {rest : List Stmt} {t u : DTS} {e : Expr} {te : DTE} {tf : DTA} {pos : Pos}
def sNext (E : DEn) (d : DS) : Prop := E.nx d
def sSeq (t u : DTS) (E : DEn) (d : DS) : Prop := t { E with nx := u E } d
theorem dss_nil : DSs tk X [] sNext := by
  refine pss_imp pss_nil ?_
  rintro σ H D ⟨F, pn, d, E, I, q, c⟩
  exact c.nx σ H d I q
theorem dss_cons (h1 : DSt tk X st t) (h2 : DSs tk X rest u) : DSs tk X (st :: rest) (sSeq t u) := by
  refine pss_imp (pss_cons h1 h2) ?_
  rintro σ H D ⟨F, pn, d, E, I, q, c⟩
  exact ⟨F, pn, d, _, I, q, ⟨fun σ H d I q => ⟨F, pn, d, E, I, q, c⟩, c.rt, c.bk, c.ct⟩⟩
theorem dss_one (h1 : DSt tk X st t) : DSs tk X [st] t := pss_one h1
def sBreak (E : DEn) (d : DS) : Prop := E.bk d
def sCont (E : DEn) (d : DS) : Prop := E.ct d
theorem ds_pass : DSt tk X (.Pass pos) sNext := by
  refine ps_imp ps_pass ?_
  rintro σ H D ⟨F, pn, d, E, I, q, c⟩
  exact c.nx σ H d I q
theorem ds_break : DSt tk X (.Break pos) sBreak := by
  refine ps_imp ps_break ?_
  rintro σ H D ⟨F, pn, d, E, I, q, c⟩
  exact c.bk σ H d I q
theorem ds_continue : DSt tk X (.Continue pos) sCont := by
  refine ps_imp ps_continue ?_
  rintro σ H D ⟨F, pn, d, E, I, q, c⟩
  exact c.ct σ H d I q
def sRet (te : DTE) (E : DEn) (d : DS) : Prop := te d fun x _ => E.rt x
theorem ds_ret (he : DE tk X e te) : DSt tk X (.Return (some e) pos) (sRet te) := by
  refine ps_imp (ps_ret he) ?_
  rintro σ H D ⟨F, pn, d, E, I, q, c⟩
  exact upE_at I q fun v H1 x d1 I1 q1 => c.rt v H1 x ⟨pn, σ, d1, I1.bare⟩ q1
def sRetN (E : DEn) (_ : DS) : Prop := E.rt .non
theorem ds_retN : DSt tk X (.Return none pos) sRetN := by
  refine ps_imp ps_retN ?_
  rintro σ H D ⟨F, pn, d, E, ⟨O, T, I⟩, q, c⟩
  exact c.rt .non H .non ⟨pn, σ, d, (DI.add (x := .non) (v := .non) I rfl).bare⟩ q
def sIf (c : DTT) (t u : DTS) (E : DEn) (d : DS) : Prop := c d fun b d1 => if b = true then t E d1 else u E d1
theorem ds_if {c : Expr} {a b : List Stmt} {tc : DTT} (hc : DT tk X c tc) (ha : DSs tk X a t) (hb : DSs tk X b u) : DSt tk X (.If c a b pos) (sIf tc t u) := by
  refine ps_imp (ps_if hc ha hb) ?_
  rintro σ H D ⟨F, pn, d, E, I, q, c⟩
  refine upT_at I q fun z H1 d1 I1 q1 => ?_
  cases z with
  | true => exact ⟨F, pn, d1, E, I1, q1, c⟩
  | false => exact ⟨F, pn, d1, E, I1, q1, c⟩
def sNever (_ : DEn) (_ : DS) : Prop := False
theorem ds_never : DSt tk X st sNever := by
  refine ps_imp ps_never ?_
  rintro σ H D ⟨F, pn, d, E, I, q, c⟩
  exact q.elim
theorem dss_never {sts : List Stmt} : DSs tk X sts sNever := by
  refine pss_imp pss_never ?_
  rintro σ H D ⟨F, pn, d, E, I, q, c⟩
  exact q.elim
/-- an expression whose value is dropped -/
def sDrop (te : DTE) (E : DEn) (d : DS) : Prop := te d fun _ d1 => E.nx d1
theorem ds_expr (he : DE tk X e te) (hs : swapsWith e none pos.line X.env = pure false := by rfl) : DSt tk X (.Expr e pos) (sDrop te) := by
  refine ps_imp (ps_expr he hs) ?_
  rintro σ H D ⟨F, pn, d, E, I, q, c⟩
  exact upE_at I q fun v H1 x d1 I1 q1 => c.nx σ H1 d1 I1.tail q1
/-- name = e -/
def sSet (i : Nat) (te : DTE) (E : DEn) (d : DS) : Prop := te d fun x d1 => E.nx (d1.set i (some (.sh x)))
theorem ds_set {i : Nat} {x : Str} {pos' : Pos} (hN : X.N.Nodup) (hi : X.N[i]? = some x) (hx : Loc X.env.scope x) (he : DE tk X e te) (hs : swapsWith e (some (.Name x pos')) pos.line X.env = pure false := by rfl) (hf : X.fn x = true ∨ X.env.scope.names.lookup x = some .local := by first | exact .inl rfl | exact .inr rfl | assumption) :
    DSt tk X (.Assign [.Name x pos'] e pos) (sSet i te) := by
  refine ps_imp (ps_set hN hi hx he hs hf) ?_
  rintro σ H D ⟨F, pn, d, E, I, q, c⟩
  exact upE_at I q fun v H1 x d1 I1 q1 => let ⟨O, T, J⟩ := I1; c.nx _ H1 _ ⟨O, T, J.toSlot⟩ q1
/-- name = a fresh list -/
def sSetF (i : Nat) (tf : DTA) (E : DEn) (d : DS) : Prop := tf d fun xs d1 => E.nx (d1.set i (some (.ow xs)))
theorem ds_setF {i : Nat} {x : Str} {pos' : Pos} (hN : X.N.Nodup) (hi : X.N[i]? = some x) (hx : Loc X.env.scope x) (he : DF tk X e tf) (hs : swapsWith e (some (.Name x pos')) pos.line X.env = pure false := by rfl) (hf : X.fn x = true ∨ X.env.scope.names.lookup x = some .local := by first | exact .inl rfl | exact .inr rfl | assumption) :
    DSt tk X (.Assign [.Name x pos'] e pos) (sSetF i tf) := by
  refine ps_imp (ps_set hN hi hx he hs hf) ?_
  rintro σ H D ⟨F, pn, d, E, I, q, c⟩
  exact upF_at I q fun v H1 x d1 I1 q1 => let ⟨O, T, J⟩ := I1; c.nx _ H1 _ ⟨O, T, J.toSlot⟩ q1
/-- name op= e, of ints -/
def sAug (i : Nat) (te : DTE) (f : Int → Int → Int) (E : DEn) (d : DS) : Prop := match dPk i d with
  | some (.int z) => te d fun y d1 => match y with
    | .int w => E.nx (d1.set i (some (.sh (.int (f z w)))))
    | _ => False
  | _ => False
theorem ds_aug {i : Nat} {x : Str} {op : Operator} {f : Int → Int → Int} {pos' : Pos} (ho : PIp X op (ipI f)) (hN : X.N.Nodup) (hi : X.N[i]? = some x) (hx : Loc X.env.scope x) (he : DE tk X e te) (hf : X.fn x = true ∨ X.env.scope.names.lookup x = some .local := by first | exact .inl rfl | exact .inr rfl | assumption) :
    DSt tk X (.AugAssign (.Name x pos') op e pos) (sAug i te f) := by
  refine ps_imp (ps_aug hN hi hx he ho hf) ?_
  rintro σ H D ⟨F, pn, d, E, I, q, c⟩
  unfold sAug at q
  split at q
  · rename_i z ez
    obtain ⟨O, T, J⟩ := id I
    obtain ⟨v, hv⟩ := J.pkv ez
    have rv : v = .int z := J.pk ez hv
    subst rv
    refine ⟨.int z, hv, upE_at I q fun u H1 y d1 I1 q1 => ?_⟩
    obtain ⟨O, T, I1⟩ := I1
    have r1 : Rep X.K O T H1 y u := I1.pe (u, .sh y) (by simp)
    cases y with
    | int w =>
      refine ⟨z, w, rfl, r1, ?_⟩
      have J2 := DIx.add (x := .int (f z w)) (v := .int (f z w)) (I1.drop (pn' := pn) (by simp)) rfl
      exact c.nx _ H1 _ ⟨O, T, J2.toSlot⟩ q1
    | _ => exact q1.elim
  · exact q.elim
end

/-! ### targets -/
abbrev DTG := D → DS → (DS → Prop) → Prop
abbrev DTGs := List D → DS → (DS → Prop) → Prop
def upG (tk : Tk) (K : PySem.W.Frag) (g : DTG) : TG := fun v σ H k => ∃ F pn d x R, DI tk K F ((v, .sh x) :: pn) σ H d ∧ g x d R ∧ ∀ σ' H' d', DI tk K F pn σ' H' d' → R d' → k σ' H'
def upGs (tk : Tk) (K : PySem.W.Frag) (g : DTGs) : TGs := fun vs σ H k => ∃ F pn d xs R, vs.length = xs.length ∧ DI tk K F (pz vs xs ++ pn) σ H d ∧ g xs d R ∧ ∀ σ' H' d', DI tk K F pn σ' H' d' → R d' → k σ' H'
abbrev DG (tk : Tk) (X : Cx) (tg : Expr) (g : DTG) : Prop := PG X tg (upG tk X.K g)
abbrev DGs (tk : Tk) (X : Cx) (tg : List Expr) (g : DTGs) : Prop := PGs X tg (upGs tk X.K g)
section
variable {tk : Tk} {X : Cx} {e : Expr} {es : List Expr} {g : DTG} {gs : DTGs} {te : DTE} {pos : Pos}
def gNm (i : Nat) (x : D) (d : DS) (R : DS → Prop) : Prop := R (d.set i (some (.sh x)))
theorem dg_name {i : Nat} {x : Str} (hN : X.N.Nodup) (hi : X.N[i]? = some x) (hx : Loc X.env.scope x) (hf : X.fn x = true ∨ X.env.scope.names.lookup x = some .local := by first | exact .inl rfl | exact .inr rfl | assumption) : DG tk X (.Name x pos) (gNm i) := by
  refine pg_imp (pg_name hN hi hx hf) ?_
  rintro v σ H k ⟨F, pn, d, x, R, ⟨O, T, I⟩, q, c⟩
  exact c _ H _ ⟨O, T, I.toSlot⟩ q
def gsNil (xs : List D) (d : DS) (R : DS → Prop) : Prop := match xs with
  | [] => R d
  | _ => False
def gsCons (g : DTG) (gs : DTGs) (xs : List D) (d : DS) (R : DS → Prop) : Prop := match xs with
  | x :: xs => g x d fun d' => gs xs d' R
  | [] => False
theorem dgs_nil : DGs tk X [] gsNil := by
  refine pgs_imp pgs_nil ?_
  rintro vs σ H k ⟨F, pn, d, xs, R, hl, I, q, c⟩
  cases xs with
  | nil =>
    have z : vs = [] := List.eq_nil_of_length_eq_zero hl
    subst z
    exact ⟨rfl, c σ H d I q⟩
  | cons x xs => exact q.elim
theorem dgs_cons (h1 : DG tk X e g) (h2 : DGs tk X es gs) (hs : (assignEach (e :: es) X.env).map (·.2) = assign e X.env :: (assignEach es X.env).map (·.2) := by rfl) : DGs tk X (e :: es) (gsCons g gs) := by
  refine pgs_imp (pgs_cons h1 h2 hs) ?_
  rintro vs σ H k ⟨F, pn, d, xs, R, hl, I, q, c⟩
  cases xs with
  | nil => exact q.elim
  | cons x xs =>
    cases vs with
    | nil => cases hl
    | cons v vs =>
      exact ⟨v, vs, rfl, F, _, d, x, _, I, q, fun σ' H' d' I' q' => ⟨F, pn, d', xs, R, by simpa using hl, I', q', c⟩⟩
def gTp (gs : DTGs) (x : D) (d : DS) (R : DS → Prop) : Prop := match x with
  | .tup xs => gs xs d R
  | _ => False
theorem gs_len {n : Nat} : ∀ {es : List Expr} {gs : DTGs}, es.length = n → True := fun _ => trivial
theorem pz_rep {K : PySem.W.Frag} {F : FrC} {pn : Pn} {σ : St} {H : Hp} {d : DS} {O : Addr → Prop} {T : Tks} (I : DIx tk K F pn σ H d O T) : ∀ {xs : List D} {vs : List V}, RepL K O T H xs vs → DIx tk K F (pz vs xs ++ pn) σ H d O T
  | [], vs, h => by rw [show vs = [] from h]; exact I
  | x :: xs, vs, h => by
    obtain ⟨v, r, rfl, h1, h2⟩ := h
    exact (pz_rep I h2).add h1
theorem dg_tup {k n : Nat} (hc : X.calm = true) (h : DGs tk X es gs) (hl : ∀ xs d R, gs xs d R → xs.length = n)
    (hn : (assignEach es X.env).length = n := by rfl) (hst : (assignEach es X.env).findIdx? (·.1) = none := by rfl) : DG tk X (.Tuple es k pos) (gTp gs) := by
  refine pg_imp (pg_tup hc h hn hst) ?_
  rintro v σ H k ⟨F, pn, d, x, R, ⟨O, T, I⟩, q, c⟩
  have r1 : Rep X.K O T H x v := I.pe (v, .sh x) (by simp)
  cases x with
  | tup xs =>
    obtain ⟨a, vs, rfl, ha, rv⟩ := r1
    exact ⟨a, vs, rfl, ha.sq, by rw [rv.length]; exact hl _ _ _ q, F, pn, d, xs, R, rv.length, ⟨O, T, pz_rep (I.drop (by simp)) rv⟩, q, c⟩
  | _ => exact q.elim
/-- target = e -/
def sAsg (te : DTE) (g : DTG) (E : DEn) (d : DS) : Prop := te d fun x d1 => g x d1 E.nx
theorem ds_asg {tg : Expr} (he : DE tk X e te) (hg : DG tk X tg g) (hs : swapsWithSole [tg] e pos.line X.env = pure false := by rfl) (hw : swappedStores [tg] e X.env = pure none := by rfl)
    (h1 : (assignEach [tg] X.env).map (·.2) = [assign tg X.env] := by rfl) : DSt tk X (.Assign [tg] e pos) (sAsg te g) := by
  refine ps_imp (ps_asg he hg hs hw h1) ?_
  rintro σ H D ⟨F, pn, d, E, I, q, c⟩
  exact upE_at I q fun v H1 x d1 I1 q1 => ⟨F, pn, d1, x, _, I1, q1, fun σ' H' d' I' q' => c.nx σ' H' d' I' q'⟩
end
end DL
set_option Elab.async false
set_option linter.all false
set_option maxRecDepth 100000
set_option maxHeartbeats 4000000
/-! DL5: loops, comprehensions, lists that are written, objects that are made, a def by its body. -/
namespace DL
open PySem L2

/-! ### what is walked -/
section
variable (tk : Tk) (K : PySem.W.Frag)
def ItemsOk (F : FrC) (J : It) (items : List D) (ps : Pn) : Prop := ∃ (G : Hp → Prop) (Y : Nat → Hp → V → Hp → Prop), Walk J items.length G Y ∧ (∀ pn σ H d, DI tk K F (ps ++ pn) σ H d → G H) ∧
  ∀ (i : Nat) (H : Hp) (x : V) (H' : Hp) (pn : Pn) (σ : St) (d : DS), i < items.length → DI tk K F (ps ++ pn) σ H d → Y i H x H' → ∃ y, items[i]? = some y ∧ DI tk K F ((x, .sh y) :: (ps ++ pn)) σ H' d
abbrev DSr0 := DS → (List D → DS → Prop) → Prop
def upI (src : DSr0) : TI := fun σ H R => ∃ F pn d Q, DI tk K F pn σ H d ∧ src d Q ∧ ∀ J H' items d' ps, ItemsOk tk K F J items ps → DI tk K F (ps ++ pn) σ H' d' → Q items d' → R J H'
end
abbrev DSr (tk : Tk) (X : Cx) (tg it : Expr) (src : DSr0) : Prop := PI X tg it (upI tk X.K src)
section
variable {tk : Tk} {K : PySem.W.Frag} {F : FrC}
theorem items_lst {a : Addr} {xs : List D} {v : V} (ev : v = .ref a) : ItemsOk tk K F (Itl K a) xs [(v, .sh (.lst xs))] := by
  subst ev
  refine ⟨fun H => ∃ vs, SqL K H a vs ∧ vs.length = xs.length, fun i H x H' => H' = H ∧ ∀ vs, SqL K H a vs → vs[i]? = some x, ⟨fun i H hi h => ?_, fun H h => ?_, fun i H x H' hi h y => y⟩, fun pn σ H d I => ?_, fun i H x H' pn σ d hi I y => ?_⟩
  · obtain ⟨vs, h1, h2⟩ := h
    exact ⟨vs, vs[i]'(by omega), h1, by simp [show i < vs.length by omega]⟩
  · obtain ⟨vs, h1, h2⟩ := h
    exact ⟨vs, h1, by omega⟩
  · obtain ⟨O, T, I⟩ := I
    obtain ⟨b, vs, e, hb, r⟩ := (I.pe (.ref a, .sh (.lst xs)) (by simp) : Rep K O T H (.lst xs) (.ref a))
    cases e
    exact ⟨vs, SqL.of hb.2, r.length⟩
  · obtain ⟨O, T, I⟩ := I
    obtain ⟨b, vs, e, hb, r⟩ := (I.pe (.ref a, .sh (.lst xs)) (by simp) : Rep K O T H (.lst xs) (.ref a))
    cases e
    obtain ⟨rfl, y⟩ := y
    obtain ⟨z, h1, h2⟩ := r.get (y vs (SqL.of hb.2))
    exact ⟨z, h1, DI.add I h2⟩
theorem items_tup {a : Addr} {xs : List D} {v : V} (ev : v = .ref a) : ItemsOk tk K F (Itt K a) xs [(v, .sh (.tup xs))] := by
  subst ev
  refine ⟨fun H => ∃ vs, SqT K H a vs ∧ vs.length = xs.length, fun i H x H' => H' = H ∧ ∀ vs, SqT K H a vs → vs[i]? = some x, ⟨fun i H hi h => ?_, fun H h => ?_, fun i H x H' hi h y => y⟩, fun pn σ H d I => ?_, fun i H x H' pn σ d hi I y => ?_⟩
  · obtain ⟨vs, h1, h2⟩ := h
    exact ⟨vs, vs[i]'(by omega), h1, by simp [show i < vs.length by omega]⟩
  · obtain ⟨vs, h1, h2⟩ := h
    exact ⟨vs, h1, by omega⟩
  · obtain ⟨O, T, I⟩ := I
    obtain ⟨b, vs, e, hb, r⟩ := (I.pe (.ref a, .sh (.tup xs)) (by simp) : Rep K O T H (.tup xs) (.ref a))
    cases e
    exact ⟨vs, hb.sq, r.length⟩
  · obtain ⟨O, T, I⟩ := I
    obtain ⟨b, vs, e, hb, r⟩ := (I.pe (.ref a, .sh (.tup xs)) (by simp) : Rep K O T H (.tup xs) (.ref a))
    cases e
    obtain ⟨rfl, y⟩ := y
    obtain ⟨z, h1, h2⟩ := r.get (y vs hb.sq)
    exact ⟨z, h1, DI.add I h2⟩
theorem items_rng {lo : Int} {n : Nat} : ItemsOk tk K F (Itr lo n) ((List.range n).map fun i : Nat => D.int (lo + i)) [] := by
  have hl : ((List.range n).map fun i : Nat => D.int (lo + i)).length = n := by rw [List.length_map, List.length_range]
  refine ⟨fun _ => True, YFn fun i => .int (lo + i), by rw [hl]; exact walk_range, fun _ _ _ _ _ => trivial, fun i H x H' pn σ d hi I y => ?_⟩
  obtain ⟨rfl, rfl⟩ := y
  obtain ⟨O, T, I⟩ := I
  rw [hl] at hi
  refine ⟨.int (lo + i), ?_, DI.add I rfl⟩
  rw [List.getElem?_map, List.getElem?_range hi]
  rfl
end
section
variable {X : Cx} {tg : Expr}
/-- a list or a tuple that is walked -/
def iSeq (K : PySem.W.Frag) (tl : TE) : TI := fun σ H R => tl σ H fun x H1 => ∃ a, x = .ref a ∧ ((∃ xs, SqL K H1 a xs) ∧ R (Itl K a) H1 ∨ (∃ xs, SqT K H1 a xs) ∧ R (Itt K a) H1)
theorem pi_seq {l : Expr} {tl : TE} (hl : PE X l tl) : PI X tg l (iSeq X.K tl) := by
  constructor
  intro pins s σ H R I h
  apply thn (hl.run pins s σ H _ I h)
  rintro v s1 ⟨x, H1, I1, r1, a, rfl, q⟩
  obtain rfl : v = Value.ref a := r1
  have kp : ∀ (o : Obj), Inv X pins σ H1 { s1 with heap := s1.heap.push o } := fun o => I1.kept (t' := s1.toks) fun _ _ e => Heap.get?_push_of_some _ e
  have fp : ∀ b ∈ [s1.heap.objs.size], FpOk X pins H1 b := by
    intro b hb
    rw [List.mem_singleton.mp hb]
    exact I1.fpOk (Nat.le_refl _) (I1.hok.fresh (Nat.le_refl _))
  rcases q with ⟨⟨xs, hq⟩, q⟩ | ⟨⟨xs, hq⟩, q⟩
  · obtain ⟨its, _, p, _⟩ := I1.list hq
    apply wpAny_pyIter_list p.isList
    exact ⟨_, _, _, _, _, rfl, kp _, turn_list a _, ⟨_, Heap.get?_push_size _ rfl, rfl, rfl⟩, fp, q⟩
  · obtain ⟨its, _, p, _⟩ := I1.tuple hq
    apply wpAny_pyIter_tuple (items := its.toArray) p
    exact ⟨_, _, _, _, _, rfl, kp _, turn_tuple a _, ⟨_, Heap.get?_push_size _ rfl, rfl, rfl⟩, fp, q⟩
end
section
variable {tk : Tk} {X : Cx} {tg e : Expr} {te : DTE} {t : DTA} {p pos : Pos} {a b : Expr}
def srcE (te : DTE) (d : DS) (Q : List D → DS → Prop) : Prop := te d fun x d1 => match x with
  | .lst xs => Q xs d1
  | .tup xs => Q xs d1
  | _ => False
theorem sr_e (he : DE tk X e te) : DSr tk X tg e (srcE te) := by
  refine pi_imp (pi_seq he) ?_
  rintro σ H k ⟨F, pn, d, Q, I, q, c⟩
  refine upE_at I q fun v H1 x d1 I1 q1 => ?_
  obtain ⟨O, T, J⟩ := id I1
  have r1 : Rep X.K O T H1 x v := J.pe (v, .sh x) (by simp)
  cases x with
  | lst xs =>
    obtain ⟨a, vs, e, hb, r⟩ := id r1
    exact ⟨a, e, .inl ⟨⟨vs, SqL.of hb.2⟩, c _ H1 xs d1 [(v, .sh (.lst xs))] (items_lst e) I1 q1⟩⟩
  | tup xs =>
    obtain ⟨a, vs, e, hb, r⟩ := id r1
    exact ⟨a, e, .inr ⟨⟨vs, hb.sq⟩, c _ H1 xs d1 [(v, .sh (.tup xs))] (items_tup e) I1 q1⟩⟩
  | _ => exact q1.elim
def rngD (lo : Int) (n : Nat) : List D := (List.range n).map fun i : Nat => D.int (lo + i)
theorem rngD_len (lo : Int) (n : Nat) : (rngD lo n).length = n := by unfold rngD; rw [List.length_map, List.length_range]
theorem rngD_at {lo : Int} {n i : Nat} {y : D} (h : (rngD lo n)[i]? = some y) : i < n ∧ y = .int (lo + i) := by
  unfold rngD at h
  rw [List.getElem?_map] at h
  by_cases hi : i < n
  · rw [List.getElem?_range hi] at h
    exact ⟨hi, (Option.some.inj h).symm⟩
  · rw [List.getElem?_eq_none (by simpa using hi)] at h
    cases h
def srcR1 (t : DTA) (d : DS) (Q : List D → DS → Prop) : Prop := t d fun xs d1 => match xs with
  | [.int j] => (-(2 ^ 62) ≤ j ∧ j < 2 ^ 62) ∧ Q (rngD 0 j.toNat) d1
  | _ => False
def srcR2 (t : DTA) (d : DS) (Q : List D → DS → Prop) : Prop := t d fun xs d1 => match xs with
  | [.int i, .int j] => (-(2 ^ 62) ≤ i ∧ i < 2 ^ 62 ∧ -(2 ^ 62) ≤ j ∧ j < 2 ^ 62) ∧ Q (rngD i (j - i).toNat) d1
  | _ => False
theorem sr_r1 (hg : Gl X "range") (hm : X.mg "range" = none) (ha : DA tk X [a] t) (hs : starEach [a] X.env = [(false, eval a X.env)] := by rfl) : DSr tk X tg (.Call (.Name "range" p) [a] [] pos) (srcR1 t) := by
  refine pi_imp (pi_range1 hg hm ha hs) ?_
  rintro σ H k ⟨F, pn, d, Q, I, q, c⟩
  refine upA_at I q fun vs H1 xs d1 hl I1 q1 => ?_
  split at q1
  · rename_i j
    obtain ⟨O, T, J⟩ := id I1
    obtain ⟨v, r, rfl, h1, h2⟩ := J.args hl
    obtain rfl : v = .int j := h1
    obtain rfl : r = [] := h2
    exact ⟨j, rfl, q1.1.1, q1.1.2, c _ H1 _ d1 [] items_rng (I1.drop (by simp)) q1.2⟩
  · exact q1.elim
theorem sr_r2 (hg : Gl X "range") (hm : X.mg "range" = none) (ha : DA tk X [a, b] t) (hs : starEach [a, b] X.env = [(false, eval a X.env), (false, eval b X.env)] := by rfl) (hs2 : starEach [b] X.env = [(false, eval b X.env)] := by rfl) : DSr tk X tg (.Call (.Name "range" p) [a, b] [] pos) (srcR2 t) := by
  refine pi_imp (pi_range2 hg hm ha hs hs2) ?_
  rintro σ H k ⟨F, pn, d, Q, I, q, c⟩
  refine upA_at I q fun vs H1 xs d1 hl I1 q1 => ?_
  split at q1
  · rename_i i j
    obtain ⟨O, T, J⟩ := id I1
    obtain ⟨v, r, rfl, h1, w, r', rfl, h2, h3⟩ := J.args hl
    obtain rfl : v = .int i := h1
    obtain rfl : w = .int j := h2
    obtain rfl : r' = [] := h3
    exact ⟨i, j, rfl, q1.1, c _ H1 _ d1 [] items_rng (I1.drop (by simp)) q1.2⟩
  · exact q1.elim
end

/-! ### for, while -/
section
variable {tk : Tk} {X : Cx} {tg iter : Expr} {body : List Stmt} {src : DSr0} {g : DTG} {tb : DTS} {pos : Pos}
def sFor (src : DSr0) (g : DTG) (tb : DTS) (E : DEn) (d : DS) : Prop := src d fun items d1 => ∃ R : Nat → DS → Prop, R 0 d1 ∧
  (∀ (i : Nat) (y : D) (d : DS), items[i]? = some y → R i d → g y d fun d2 => tb { E with nx := R (i + 1), ct := R (i + 1), bk := E.nx } d2) ∧ ∀ d, R items.length d → E.nx d
theorem ds_for (hp : PassesOwn (model X.prog X.w) X.A X.env X.xe) (hc : X.calm = true) (hi : DSr tk X tg iter src) (hg : DG tk X tg g) (hb : DSs tk X body tb)
    (hs : ∀ x, foldedSetIterable iter X.env x = pure x := by intro _; rfl) : DSt tk X (.For tg iter body [] pos) (sFor src g tb) := by
  refine ps_imp (ps_for hp hc hi hg hb hs) ?_
  rintro σ H D ⟨F, pn, d, E, I, q, c⟩
  refine ⟨F, pn, d, _, I, q, fun J H1 items d1 ps ok I1 ⟨R, r0, rs, rd⟩ => ?_⟩
  obtain ⟨G, Y, wk, hG, hY⟩ := ok
  refine for_it wk (fun i σ H => ∃ d, DI tk X.K F (ps ++ pn) σ H d ∧ R i d) ⟨d1, I1, r0⟩ (fun i σ H _ ⟨d, I, _⟩ => hG pn σ H d I) (fun i x σ H H' hi ⟨d, I, r⟩ y => ?_) (fun σ H ⟨d, I, r⟩ => ?_)
  · obtain ⟨z, ez, I2⟩ := hY i H x H' pn σ d hi I y
    refine ⟨F, ps ++ pn, d, z, _, I2, rs i z d ez r, fun σ2 H2 d2 I3 q3 => ⟨F, ps ++ pn, d2, _, I3, q3, ⟨fun σ H d I q => ⟨d, I, q⟩, c.rt, fun σ H d I q => ?_, fun σ H d I q => ⟨d, I, q⟩⟩⟩⟩
    exact c.nx σ H d (I.drop (List.sublist_append_right _ _)) q
  · exact c.nx σ H d (I.drop (List.sublist_append_right _ _)) (rd d r)
def sWhile (c : DTT) (tb : DTS) (E : DEn) (d : DS) : Prop := ∃ W : Nat → DS → Prop, (∃ m, W m d) ∧ ∀ m d, W m d → c d fun b d1 =>
  if b = true then tb { E with nx := fun d' => ∃ m', m' < m ∧ W m' d', ct := fun d' => ∃ m', m' < m ∧ W m' d', bk := E.nx } d1 else E.nx d1
theorem ds_while {ce : Expr} {tc : DTT} (hp : PassesOwn (model X.prog X.w) X.A X.env X.xe) (hc : DT tk X ce tc) (hb : DSs tk X body tb) : DSt tk X (.While ce body [] pos) (sWhile tc tb) := by
  refine ps_imp (ps_while hp hc hb) ?_
  rintro σ H D ⟨F, pn, d, E, I, ⟨W, ⟨m0, w0⟩, turn⟩, c⟩
  refine ⟨fun m σ H => ∃ d, DI tk X.K F pn σ H d ∧ W m d, ⟨m0, d, I, w0⟩, ?_⟩
  rintro m σ H ⟨d, I, w⟩
  refine upT_at I (turn m d w) fun b H1 d1 I1 q1 => ?_
  cases b with
  | true =>
    rw [if_pos rfl] at q1 ⊢
    refine ⟨fun σ' H' => ∃ d', DI tk X.K F pn σ' H' d' ∧ ∃ m', m' < m ∧ W m' d', fun σ' H' ⟨d', I', m', h1, h2⟩ => ⟨m', h1, d', I', h2⟩, F, pn, d1, _, I1, q1, ⟨fun σ H d I q => ⟨d, I, q⟩, c.rt, c.nx, fun σ H d I q => ⟨d, I, q⟩⟩⟩
  | false => exact c.nx σ H1 d1 I1 q1
end

/-! ### lists that a name owns are written -/
section
variable {tk : Tk} {X : Cx} {e : Expr} {es : List Expr} {te ti : DTE} {tf : DTA} {pos apos cpos pos2 : Pos} {i : Nat} {x : Expr}
def isOw (i : Nat) (d : DS) : Bool := match d[i]? with
  | some (some (.ow _)) => true
  | _ => false
theorem isOw_at {K : PySem.W.Frag} {F : FrC} {pn : Pn} {σ : St} {H : Hp} {d : DS} {O : Addr → Prop} {T : Tks} (I : DIx tk K F pn σ H d O T) (h : isOw i d = true) : ∃ a vs, σ[i]? = some (some (.ref a)) ∧ H a = some (.lst vs) := by
  unfold isOw at h
  split at h
  · rename_i xs e
    obtain ⟨v, h1, a, vs, rfl, _, _, _, h2, _⟩ := I.sl _ _ e
    exact ⟨a, vs, h1, h2⟩
  · cases h
theorem DIx.mut {K : PySem.W.Frag} {F : FrC} {pn : Pn} {σ : St} {H : Hp} {d : DS} {O : Addr → Prop} {T : Tks} {xs ys : List D} {a : Addr} {ws : List V} (I : DIx tk K F pn σ H d O T) (e : d[i]? = some (some (.ow xs))) (ha : σ[i]? = some (some (.ref a))) (r : RepL K O T H ys ws) :
    DIx tk K F pn σ (upd H a (.lst ws)) (d.set i (some (.ow ys))) O T := by
  obtain ⟨v, h1, J⟩ := I.lift e
  have ev : v = .ref a := Option.some.inj (Option.some.inj (h1.symm.trans ha))
  have J2 := DIx.land (i := i) (J.mutP ev r) h1
  rw [List.set_set] at J2
  exact J2
theorem ow_at {K : PySem.W.Frag} {F : FrC} {pn : Pn} {σ : St} {H : Hp} {d : DS} {O : Addr → Prop} {T : Tks} {xs : List D} {a : Addr} (I : DIx tk K F pn σ H d O T) (e : d[i]? = some (some (.ow xs))) (ha : σ[i]? = some (some (.ref a))) : ∃ vs, H a = some (.lst vs) ∧ RepL K O T H xs vs := by
  obtain ⟨v, h1, b, vs, eb, _, _, _, h2, h3⟩ := I.sl _ _ e
  have : a = b := V.ref.inj (Option.some.inj (Option.some.inj (ha.symm.trans (h1.trans (by rw [eb])))))
  subst this
  exact ⟨vs, h2, h3⟩
/-- x.append(e) -/
def dApp (i : Nat) (te : DTE) (d : DS) (Q : D → DS → Prop) : Prop := match d[i]? with
  | some (some (.ow _)) => te d fun y d1 => match d1[i]? with
    | some (some (.ow xs)) => xs.length < sizeLine ∧ Q .non (d1.set i (some (.ow (xs ++ [y]))))
    | _ => False
  | _ => False
theorem de_append (hx : PE X x (tVar i)) (he : DE tk X e te) (hbase : attributeBase x "append" X.env (eval x X.env) = eval x X.env := by rfl)
    (hfew : ((backTo cpos (starEach [e] X.env)).all (fun x => !x.1) && (backToKw cpos (keywordEach [] X.env)).all (fun x => x.1.isSome)
      && decide ([e].length + ([] : List Keyword).length + (if ([] : List Keyword).isEmpty then 0 else 1) < 30)) = true := by rfl)
    (hline : (apos.endLine == cpos.line) = true := by rfl) (hs : starEach [e] X.env = (false, eval e X.env) :: starEach [] X.env := by rfl) (hplain : (backTo cpos (starEach [] X.env)).any (·.1) = false := by rfl) :
    DE tk X (.Call (.Attribute x "append" apos) [e] [] cpos) (dApp i te) := by
  refine pe_imp (pe_bm PySem.F.plainAttrs_list PySem.F.slot_list_append PySem.F.type_list_append mt_append hx (pa_cons he pa_nil hs) hbase hfew hline hs hplain) ?_
  rintro σ H k ⟨F, pn, d, Q, ⟨O, T, I⟩, q, c⟩
  unfold dApp at q
  split at q
  case h_2 => exact q.elim
  rename_i xs0 e0
  obtain ⟨a, vs, h1, h2⟩ := isOw_at (i := i) I (by unfold isOw; rw [e0])
  refine ⟨.ref a, h1, .inl ⟨rfl, vs, SqL.of h2⟩, upE_at ⟨O, T, I⟩ q fun v H1 y d1 I1 q1 => ?_⟩
  obtain ⟨O, T, I1⟩ := I1
  have r1 : Rep X.K O T H1 y v := I1.pe (v, .sh y) (by simp)
  split at q1
  · rename_i xs es
    obtain ⟨ws, h3, h4⟩ := ow_at I1 es h1
    refine ⟨a, ws, v, rfl, rfl, h3, by rw [h4.length]; exact q1.1, ?_⟩
    have J := (I1.drop (pn' := pn) (by simp)).mut es h1 (RepL.append (es := [y]) (ws := [v]) h4 ⟨v, [], rfl, r1, rfl⟩)
    exact c .non _ .non _ (DI.add J rfl) q1.2
  · exact q1.elim
/-- x.pop() -/
def dPop0 (i : Nat) (d : DS) (Q : D → DS → Prop) : Prop := match d[i]? with
  | some (some (.ow xs)) => match xs[xs.length - 1]? with
    | some y => Q y (d.set i (some (.ow xs.dropLast)))
    | none => False
  | _ => False
theorem de_pop0 (hx : PE X x (tVar i)) (hbase : attributeBase x "pop" X.env (eval x X.env) = eval x X.env := by rfl) (hline : (apos.endLine == cpos.line) = true := by rfl) : DE tk X (.Call (.Attribute x "pop" apos) [] [] cpos) (dPop0 i) := by
  refine pe_imp (pe_bm0 PySem.F.plainAttrs_list PySem.F.slot_list_pop PySem.F.type_list_pop mt_pop hx hbase hline) ?_
  rintro σ H k ⟨F, pn, d, Q, ⟨O, T, I⟩, q, c⟩
  unfold dPop0 at q
  split at q
  · rename_i xs es
    split at q
    · rename_i y ey
      obtain ⟨a, vs, h1, h2⟩ := isOw_at (i := i) I (by unfold isOw; rw [es])
      obtain ⟨ws, h3, h4⟩ := ow_at I es h1
      have e : vs = ws := by rw [h2] at h3; cases h3; rfl
      subst e
      obtain ⟨u, h5, h6⟩ := h4.at ey
      refine ⟨.ref a, h1, .inl ⟨rfl, vs, SqL.of h2⟩, a, vs, u, rfl, rfl, h2, by rw [h4.length]; exact h5, ?_⟩
      have J := (I.add h6).mut es h1 (RepL.dropLast h4)
      exact c u _ y _ ⟨O, T, J⟩ q
    · exact q.elim
  · exact q.elim
/-- x.pop(e) -/
def dPopAt (i : Nat) (te : DTE) (d : DS) (Q : D → DS → Prop) : Prop := match d[i]? with
  | some (some (.ow _)) => te d fun y d1 => match y, d1[i]? with
    | .int z, some (some (.ow xs)) => ∃ j, 0 ≤ z ∧ z < 2 ^ 63 ∧ z = (j : Nat) ∧ match xs[j]? with
      | some u => Q u (d1.set i (some (.ow (xs.eraseIdx j))))
      | none => False
    | _, _ => False
  | _ => False
theorem de_popAt (hx : PE X x (tVar i)) (he : DE tk X e te) (hbase : attributeBase x "pop" X.env (eval x X.env) = eval x X.env := by rfl)
    (hfew : ((backTo cpos (starEach [e] X.env)).all (fun x => !x.1) && (backToKw cpos (keywordEach [] X.env)).all (fun x => x.1.isSome)
      && decide ([e].length + ([] : List Keyword).length + (if ([] : List Keyword).isEmpty then 0 else 1) < 30)) = true := by rfl)
    (hline : (apos.endLine == cpos.line) = true := by rfl) (hs : starEach [e] X.env = (false, eval e X.env) :: starEach [] X.env := by rfl) (hplain : (backTo cpos (starEach [] X.env)).any (·.1) = false := by rfl) :
    DE tk X (.Call (.Attribute x "pop" apos) [e] [] cpos) (dPopAt i te) := by
  refine pe_imp (pe_bm PySem.F.plainAttrs_list PySem.F.slot_list_pop PySem.F.type_list_pop mt_popAt hx (pa_cons he pa_nil hs) hbase hfew hline hs hplain) ?_
  rintro σ H k ⟨F, pn, d, Q, ⟨O, T, I⟩, q, c⟩
  unfold dPopAt at q
  split at q
  case h_2 => exact q.elim
  rename_i xs0 e0
  obtain ⟨a, vs, h1, h2⟩ := isOw_at (i := i) I (by unfold isOw; rw [e0])
  refine ⟨.ref a, h1, .inl ⟨rfl, vs, SqL.of h2⟩, upE_at ⟨O, T, I⟩ q fun v H1 y d1 I1 q1 => ?_⟩
  obtain ⟨O, T, I1⟩ := I1
  have r1 : Rep X.K O T H1 y v := I1.pe (v, .sh y) (by simp)
  split at q1
  · rename_i y' o' z xs es
    obtain ⟨j, z0, z1, rfl, q1⟩ := q1
    split at q1
    · rename_i u eu
      obtain ⟨ws, h3, h4⟩ := ow_at I1 es h1
      obtain ⟨w, h5, h6⟩ := h4.at eu
      have hj : j < ws.length := (List.getElem?_eq_some_iff.mp h5).1
      have hix : ixN ws.length (j : Int) = some j := by unfold ixN; rw [if_pos (by omega), if_pos (by omega)]; rfl
      obtain rfl : v = .int (j : Int) := r1
      refine ⟨a, ws, (j : Int), j, w, rfl, rfl, h3, by omega, z1, (ixN_seq hix).1, h5, ?_⟩
      have J := ((I1.drop (pn' := pn) (by simp)).add h6).mut es h1 (RepL.eraseIdx j h4)
      exact c w _ u _ ⟨O, T, J⟩ q1
    · exact q1.elim
  · exact q1.elim
/-- x[k] = e -/
def sSetIx (i : Nat) (te ti : DTE) (E : DEn) (d : DS) : Prop := te d fun y d1 => match d1[i]? with
  | some (some (.ow _)) => ti d1 fun z d2 => match z, d2[i]? with
    | .int k, some (some (.ow xs)) => match ixN xs.length k with
      | some j => E.nx (d2.set i (some (.ow (xs.set j y))))
      | none => False
    | _, _ => False
  | _ => False
theorem ds_setIx {iE : Expr} {p2 : Pos} (hx : PE X x (tVar i)) (he : DE tk X e te) (hi : DE tk X iE ti)
    (h1 : PG X (.Subscript x iE p2) (gSub (tVar i) (upE tk X.K ti) rSetL)) (hs : swapsWithSole [.Subscript x iE p2] e pos.line X.env = pure false := by rfl) (hw : swappedStores [.Subscript x iE p2] e X.env = pure none := by rfl)
    (h2 : (assignEach [.Subscript x iE p2] X.env).map (·.2) = [assign (.Subscript x iE p2) X.env] := by rfl) : DSt tk X (.Assign [.Subscript x iE p2] e pos) (sSetIx i te ti) := by
  refine ps_imp (ps_asg he h1 hs hw h2) ?_
  rintro σ H D ⟨F, pn, d, E, I, q, c⟩
  refine upE_at I q fun v H1 y d1 I1 q1 => ?_
  obtain ⟨O, T, J1⟩ := id I1
  split at q1
  case h_2 => exact q1.elim
  rename_i xs0 e0
  obtain ⟨a, vs, h3, h4⟩ := isOw_at (i := i) J1 (by unfold isOw; rw [e0])
  refine ⟨.ref a, h3, upE_at I1 q1 fun w H2 z d2 I2 q2 => ?_⟩
  obtain ⟨O, T, I2⟩ := I2
  have r1 : Rep X.K O T H2 z w := I2.pe (w, .sh z) (by simp)
  have r2 : Rep X.K O T H2 y v := I2.pe (v, .sh y) (by simp)
  split at q2
  · rename_i z' o' k' xs es
    split at q2
    · rename_i j ej
      obtain ⟨ws, h5, h6⟩ := ow_at I2 es h3
      refine ⟨a, ws, k', j, rfl, r1, h5, by rw [h6.length]; exact ej, ?_⟩
      exact c.nx _ _ _ ⟨O, T, (I2.drop (pn' := pn) (by simp)).mut es h3 (RepL.set j r2 h6)⟩ q2
    · exact q2.elim
  · exact q2.elim
end

/-! ### two or three names at once -/
section
variable {tk : Tk} {X : Cx} {e : Expr} {es : List Expr} {te : DTE} {tf : DTA} {pos : Pos}
abbrev DTV := DS → (List SV → DS → Prop) → Prop
def upV (tk : Tk) (K : PySem.W.Frag) (t : DTV) : TA := fun σ H k => ∃ F pn d Q, DI tk K F pn σ H d ∧ t d Q ∧ ∀ vs H' ss d', vs.length = ss.length → DI tk K F (vs.zip ss ++ pn) σ H' d' → Q ss d' → k vs H'
abbrev DV (tk : Tk) (X : Cx) (es : List Expr) (t : DTV) : Prop := PA X es (upV tk X.K t)
def vNil (d : DS) (Q : List SV → DS → Prop) : Prop := Q [] d
def vCons (te : DTE) (t : DTV) (d : DS) (Q : List SV → DS → Prop) : Prop := te d fun x d1 => t d1 fun ss d2 => Q (.sh x :: ss) d2
def vConsF (tf : DTA) (t : DTV) (d : DS) (Q : List SV → DS → Prop) : Prop := tf d fun xs d1 => t d1 fun ss d2 => Q (.ow xs :: ss) d2
theorem dv_nil : DV tk X [] vNil := by
  refine pa_imp pa_nil ?_
  rintro σ H k ⟨F, pn, d, Q, I, q, c⟩
  exact c [] H [] d rfl I q
theorem dv_cons {t : DTV} (ha : DE tk X e te) (hr : DV tk X es t) (hs : starEach (e :: es) X.env = (false, eval e X.env) :: starEach es X.env := by rfl) : DV tk X (e :: es) (vCons te t) := by
  refine pa_imp (pa_cons ha hr hs) ?_
  rintro σ H k ⟨F, pn, d, Q, I, q, c⟩
  refine upE_at I q fun v H1 x d1 I1 q1 => ⟨F, _, d1, _, I1, q1, fun vs H2 ss d2 hl I2 q2 => ?_⟩
  exact c (v :: vs) H2 (.sh x :: ss) d2 (by simp [hl]) (I2.perm List.perm_middle) q2
theorem dv_consF {t : DTV} (ha : DF tk X e tf) (hr : DV tk X es t) (hs : starEach (e :: es) X.env = (false, eval e X.env) :: starEach es X.env := by rfl) : DV tk X (e :: es) (vConsF tf t) := by
  refine pa_imp (pa_cons ha hr hs) ?_
  rintro σ H k ⟨F, pn, d, Q, I, q, c⟩
  refine upF_at I q fun v H1 x d1 I1 q1 => ⟨F, _, d1, _, I1, q1, fun vs H2 ss d2 hl I2 q2 => ?_⟩
  exact c (v :: vs) H2 (.ow x :: ss) d2 (by simp [hl]) (I2.perm List.perm_middle) q2
def sPar (i j : Nat) (t : DTV) (E : DEn) (d : DS) : Prop := t d fun ss d1 => match ss with
  | [s, u] => E.nx ((d1.set i (some s)).set j (some u))
  | _ => False
theorem ds_par {i j : Nat} {x y : Str} {a b : Expr} {t : DTV} {px py pt : Pos} {kt k2 pt2} (hc : X.calm = true) (hN : X.N.Nodup) (hi : X.N[i]? = some x) (hj : X.N[j]? = some y) (hij : i ≠ j)
    (hx : X.env.scope.names.lookup x = some .local) (hy : X.env.scope.names.lookup y = some .local) (ha : DV tk X [a, b] t)
    (hw : swappedStores [.Tuple [.Name x px, .Name y py] kt pt] (.Tuple [a, b] k2 pt2) X.env = pure (some [x, y]))
    (hs : swapsWithSole [.Tuple [.Name x px, .Name y py] kt pt] (.Tuple [a, b] k2 pt2) pos.line X.env = pure false := by rfl) :
    DSt tk X (.Assign [.Tuple [.Name x px, .Name y py] kt pt] (.Tuple [a, b] k2 pt2) pos) (sPar i j t) := by
  refine ps_imp (ps_par hc hN hi hj hij hx hy ha hw hs) ?_
  rintro σ H D ⟨F, pn, d, E, I, q, c⟩
  refine ⟨F, pn, d, _, I, q, fun vs H1 ss d1 hl I1 q1 => ?_⟩
  split at q1
  · rename_i s u
    match vs, hl with
    | [v, w], _ =>
      obtain ⟨O, T, J⟩ := I1
      exact ⟨v, w, rfl, c.nx _ H1 _ ⟨O, T, DIx.toSlot (DIx.toSlot J)⟩ q1⟩
  · exact q1.elim
def sPar3 (i j l : Nat) (t : DTV) (E : DEn) (d : DS) : Prop := t d fun ss d1 => match ss with
  | [s, u, w] => E.nx (((d1.set i (some s)).set j (some u)).set l (some w))
  | _ => False
end
end DL
set_option Elab.async false
set_option linter.all false
set_option maxRecDepth 100000
set_option maxHeartbeats 4000000
/-! DL6: comprehensions, objects that are made, a def by its body. -/
namespace DL
open PySem L2

section
variable {tk : Tk} {X : Cx} {pos : Pos}
theorem ds_par3 {i j l : Nat} {x y z : Str} {a b c : Expr} {t : DTV} {px py pz pt : Pos} {kt k2 pt2} (hc : X.calm = true) (hN : X.N.Nodup) (hi : X.N[i]? = some x) (hj : X.N[j]? = some y) (hl : X.N[l]? = some z) (hij : i ≠ j) (hil : i ≠ l) (hjl : j ≠ l)
    (hx : X.env.scope.names.lookup x = some .local) (hy : X.env.scope.names.lookup y = some .local) (hz : X.env.scope.names.lookup z = some .local) (ha : DV tk X [a, b, c] t)
    (hw : swappedStores [.Tuple [.Name x px, .Name y py, .Name z pz] kt pt] (.Tuple [a, b, c] k2 pt2) X.env = pure (some [x, y, z]))
    (hs : swapsWithSole [.Tuple [.Name x px, .Name y py, .Name z pz] kt pt] (.Tuple [a, b, c] k2 pt2) pos.line X.env = pure false := by rfl) :
    DSt tk X (.Assign [.Tuple [.Name x px, .Name y py, .Name z pz] kt pt] (.Tuple [a, b, c] k2 pt2) pos) (sPar3 i j l t) := by
  refine ps_imp (ps_par3 hc hN hi hj hl hij hil hjl hx hy hz ha hw hs) ?_
  rintro σ H D ⟨F, pn, d, E, I, q, c⟩
  refine ⟨F, pn, d, _, I, q, fun vs H1 ss d1 hl I1 q1 => ?_⟩
  split at q1
  · rename_i s u w
    match vs, hl with
    | [v1, v2, v3], _ =>
      obtain ⟨O, T, J⟩ := I1
      exact ⟨v1, v2, v3, rfl, c.nx _ H1 _ ⟨O, T, DIx.toSlot (DIx.toSlot (DIx.toSlot J))⟩ q1⟩
  · exact q1.elim
end

/-! ### comprehensions -/
section
variable {tk : Tk} {K : PySem.W.Frag} {F : FrC} {pn : Pn} {σ σ' : St} {H : Hp} {d : DS} {O : Addr → Prop} {T : Tks}
def wipeD : List Nat → DS → DS
  | [], d => d
  | v :: vs, d => (wipeD vs d).set v none
theorem wipeD_length (d : DS) : ∀ vs, (wipeD vs d).length = d.length
  | [] => rfl
  | v :: vs => by unfold wipeD; rw [List.length_set, wipeD_length d vs]
theorem wipeD_some {i : Nat} {s : SV} : ∀ {vs : List Nat}, (wipeD vs d)[i]? = some (some s) → d[i]? = some (some s) ∧ i ∉ vs
  | [], h => ⟨h, by simp⟩
  | v :: vs, h => by
    unfold wipeD at h
    by_cases hi : v = i
    · subst hi
      by_cases hv : v < (wipeD vs d).length
      · rw [List.getElem?_set_self hv] at h; cases h
      · rw [List.getElem?_eq_none (by simpa using hv)] at h; cases h
    · rw [List.getElem?_set_ne hi] at h
      obtain ⟨h1, h2⟩ := wipeD_some h
      exact ⟨h1, by simp only [List.mem_cons, not_or]; exact ⟨fun e => hi e.symm, h2⟩⟩
/-- names that nothing is known of may change -/
theorem DIx.sig (I : DIx tk K F pn σ H d O T) (hl : σ'.length = σ.length) (h : ∀ (j : Nat) (s : SV), d[j]? = some (some s) → σ'[j]? = σ[j]?) : DIx tk K F pn σ' H d O T :=
  { I with
    len := I.len.trans hl.symm
    sl := fun i s e => by rw [h i s e]; exact I.sl i s e
    ss := fun i j s t v n e w e' w' q => by rw [h j t e']; rw [h i s e] at q; exact I.ss i j s t v n e w e' w' q
    sp := fun i s v e w q => by rw [h i s e] at q; exact I.sp i s v e w q }
theorem DIx.forgets (I : DIx tk K F pn σ H d O T) : ∀ vs, DIx tk K F pn σ H (wipeD vs d) O T
  | [] => I
  | v :: vs => (DIx.forgets I vs).forget v
theorem wipe_at {i : Nat} : ∀ {vs : List Nat}, i ∉ vs → (wipe σ vs)[i]? = σ[i]?
  | [], _ => rfl
  | v :: vs, h => by
    simp only [List.mem_cons, not_or] at h
    unfold wipe
    rw [List.getElem?_set_ne (fun e => h.1 e.symm)]
    exact wipe_at h.2
theorem wipe_in {i : Nat} : ∀ {vs : List Nat}, i ∈ vs → i < σ.length → (wipe σ vs)[i]? = some none
  | v :: vs, h, hl => by
    unfold wipe
    by_cases e : v = i
    · subst e
      rw [List.getElem?_set_self (by rw [wipe_length]; exact hl)]
    · rw [List.getElem?_set_ne e]
      rcases List.mem_cons.mp h with z | z
      · exact absurd z.symm e
      · exact wipe_in z hl
theorem wipe_set {vs : List Nat} {i : Nat} {x : Option V} (hi : i ∈ vs) : wipe ((wipe σ vs).set i x) vs = wipe σ vs := by
  apply List.ext_getElem?
  intro j
  by_cases hj : j ∈ vs
  · by_cases hl : j < σ.length
    · rw [wipe_in hj (by rw [List.length_set, wipe_length]; exact hl), wipe_in hj hl]
    · rw [List.getElem?_eq_none (by rw [wipe_length, List.length_set, wipe_length]; omega), List.getElem?_eq_none (by rw [wipe_length]; omega)]
  · rw [wipe_at hj, List.getElem?_set_ne (fun e => hj (by rw [← e]; exact hi)), wipe_at hj]
/-- the names of a comprehension are laid by -/
theorem DI.stash (I : DI tk K F pn σ H d) : ∀ vs, ∃ ps, DI tk K F (ps ++ pn) σ H (wipeD vs d) ∧ ∀ pn2 H', DI tk K F (ps ++ pn2) σ H' (wipeD vs d) → DI tk K F pn2 σ H' d
  | [] => ⟨[], I, fun _ _ J => J⟩
  | v :: vs => by
    obtain ⟨ps, J, back⟩ := DI.stash I vs
    cases e : (wipeD vs d)[v]? with
    | none =>
      have z : wipeD (v :: vs) d = wipeD vs d := by
        show (wipeD vs d).set v none = wipeD vs d
        exact List.set_eq_of_length_le (List.getElem?_eq_none_iff.mp e)
      rw [z]
      exact ⟨ps, J, back⟩
    | some o =>
      have hl : v < (wipeD vs d).length := (List.getElem?_eq_some_iff.mp e).1
      cases o with
      | none =>
        have z : wipeD (v :: vs) d = wipeD vs d := by
          show (wipeD vs d).set v none = wipeD vs d
          apply List.ext_getElem?
          intro j
          by_cases q : v = j
          · subst q; rw [List.getElem?_set_self hl, e]
          · rw [List.getElem?_set_ne q]
        rw [z]
        exact ⟨ps, J, back⟩
      | some s =>
        obtain ⟨O, T, J⟩ := J
        obtain ⟨u, h1, J2⟩ := J.lift e
        refine ⟨(u, s) :: ps, ⟨O, T, J2⟩, fun pn2 H' ⟨O', T', J3⟩ => back pn2 H' ⟨O', T', ?_⟩⟩
        have J4 := DIx.land (i := v) J3 h1
        have z : ((wipeD (v :: vs) d)).set v (some s) = wipeD vs d := by
          show ((wipeD vs d).set v none).set v (some s) = wipeD vs d
          rw [List.set_set]
          apply List.ext_getElem?
          intro j
          by_cases q : v = j
          · subst q; rw [List.getElem?_set_self hl, e]
          · rw [List.getElem?_set_ne q]
        rw [z] at J4
        exact J4
/-- targets of a comprehension: names -/
def gNms : List Nat → TGs
  | [] => gNil
  | i :: is => gCons (gName i) (gNms is)
def setAll (σ : St) : List Nat → List V → St
  | i :: is, v :: vs => setAll (σ.set i (some v)) is vs
  | _, _ => σ
theorem gNms_iff {Q : St → Hp → Prop} : ∀ {is : List Nat} {vs : List V} {σ : St}, vs.length = is.length → Q (setAll σ is vs) H → gNms is vs σ H Q
  | [], [], σ, _, q => ⟨rfl, q⟩
  | i :: is, v :: vs, σ, hl, q => ⟨v, vs, rfl, gNms_iff (is := is) (vs := vs) (by simpa using hl) q⟩
theorem setAll_at {j : Nat} : ∀ {is : List Nat} {vs : List V} {σ : St}, j ∉ is → (setAll σ is vs)[j]? = σ[j]?
  | [], vs, σ, _ => by unfold setAll; rfl
  | i :: is, [], σ, _ => by unfold setAll; rfl
  | i :: is, v :: vs, σ, h => by
    simp only [List.mem_cons, not_or] at h
    show (setAll (σ.set i (some v)) is vs)[j]? = _
    rw [setAll_at h.2, List.getElem?_set_ne (fun e => h.1 e.symm)]
theorem setAll_length : ∀ {is : List Nat} {vs : List V} {σ : St}, (setAll σ is vs).length = σ.length
  | [], vs, σ => by unfold setAll; rfl
  | i :: is, [], σ => by unfold setAll; rfl
  | i :: is, v :: vs, σ => by
    show (setAll (σ.set i (some v)) is vs).length = _
    rw [setAll_length, List.length_set]
theorem wipe_setAll {is vs : List Nat} {ws : List V} (h : ∀ i ∈ is, i ∈ vs) : wipe (setAll (wipe σ vs) is ws) vs = wipe σ vs := by
  apply List.ext_getElem?
  intro j
  by_cases hj : j ∈ vs
  · by_cases hl : j < σ.length
    · rw [wipe_in hj (by rw [setAll_length, wipe_length]; exact hl), wipe_in hj hl]
    · rw [List.getElem?_eq_none (by rw [wipe_length, setAll_length, wipe_length]; omega), List.getElem?_eq_none (by rw [wipe_length]; omega)]
  · rw [wipe_at hj, setAll_at (fun z => hj (h j z))]
def setAllD (d : DS) : List Nat → List D → DS
  | i :: is, v :: vs => setAllD (d.set i (some (.sh v))) is vs
  | _, _ => d
theorem DIx.setAll : ∀ {is : List Nat} {ws : List V} {xs : List D} {σ : St} {d : DS}, ws.length = xs.length → DIx tk K F (pz ws xs ++ pn) σ H d O T → DIx tk K F pn (setAll σ is ws) H (setAllD d is xs) O T
  | [], ws, xs, σ, d, _, I => by unfold DL.setAll setAllD; exact I.less
  | i :: is, [], [], σ, d, _, I => I
  | i :: is, w :: ws, x :: xs, σ, d, hl, I => DIx.setAll (is := is) (ws := ws) (xs := xs) (by simpa using hl) (DIx.toSlot I)
/-- the tests of a comprehension -/
abbrev DTs (tk : Tk) (X : Cx) (ifs : List Expr) (t : DTT) : Prop := PTs X ifs (upT tk X.K t)
theorem pts_imp {X : Cx} {ifs : List Expr} {t t' : TT} (h : PTs X ifs t) (w : ∀ σ H k, t' σ H k → t σ H k) : PTs X ifs t' := ⟨fun pins s σ H Q I q => h.run pins s σ H Q I (w σ H Q q)⟩
def dYes (d : DS) (Q : Bool → DS → Prop) : Prop := Q true d
theorem dts_nil {X : Cx} : DTs tk X [] dYes := by
  refine pts_imp pts_nil ?_
  rintro σ H k ⟨F, pn, d, Q, I, q, c⟩
  exact c true H d I q
theorem dts_one {X : Cx} {c : Expr} {t : DTT} (h : DT tk X c t) : DTs tk X [c] t := pts_one h
/-- what a turn sets: the names' data out of the item -/
def cNm (i : Nat) (y : D) (d : DS) (R : DS → Prop) : Prop := R (d.set i (some (.sh y)))
def cTp (is : List Nat) (y : D) (d : DS) (R : DS → Prop) : Prop := match y with
  | .tup xs => xs.length = is.length ∧ R (setAllD d is xs)
  | _ => False
/-- one turn of a comprehension -/
def lcTurn (tt : DTT) (te : DTE) (d0 : DS) (vs : List Nat) (acc : List D) (R : List D → Prop) (d2 : DS) : Prop := tt d2 fun b d3 =>
  if b = true then te d3 fun z d4 => wipeD vs d4 = d0 ∧ acc.length < sizeLine ∧ R (acc ++ [z]) else wipeD vs d3 = d0 ∧ R acc
def dLc (src : DSr0) (g : D → DS → (DS → Prop) → Prop) (tt : DTT) (te : DTE) (vs : List Nat) (d : DS) (Q : List D → DS → Prop) : Prop := src d fun items d1 => ∃ R : Nat → List D → Prop, R 0 [] ∧
  (∀ (i : Nat) (y : D) (acc : List D), items[i]? = some y → R i acc → g y (wipeD vs d1) (lcTurn tt te (wipeD vs d1) vs acc (R (i + 1)))) ∧ ∀ acc, R items.length acc → Q acc d1
/-- how the target is set, in both layers -/
def GOk (tk : Tk) (K : PySem.W.Frag) (vs : List Nat) (graw : TG) (g : D → DS → (DS → Prop) → Prop) : Prop :=
  ∀ (F : FrC) (pn : Pn) (σ : St) (H : Hp) (d : DS) (x : V) (y : D) (R : DS → Prop) (k : St → Hp → Prop), DI tk K F ((x, .sh y) :: pn) (wipe σ vs) H d → g y d R →
    (∀ σ2 d2, σ2.length = σ.length → wipe σ2 vs = wipe σ vs → DI tk K F pn σ2 H d2 → R d2 → k σ2 H) → graw x (wipe σ vs) H k
theorem gok_nm {vs : List Nat} {i : Nat} (hi : i ∈ vs) : GOk tk K vs (gName i) (cNm i) := by
  rintro F pn σ H d x y R k ⟨O, T, I⟩ q c
  exact c _ _ (by rw [List.length_set, wipe_length]) (wipe_set hi) ⟨O, T, I.toSlot⟩ q
theorem gok_tp {vs is : List Nat} (hi : ∀ i ∈ is, i ∈ vs) : GOk tk K vs (gTup K is.length (gNms is)) (cTp is) := by
  rintro F pn σ H d x y R k ⟨O, T, I⟩ q c
  unfold cTp at q
  split at q
  · rename_i xs
    have r1 : Rep K O T H (.tup xs) x := I.pe (x, .sh (.tup xs)) (by simp)
    obtain ⟨a, ws, rfl, ha, r⟩ := r1
    refine ⟨a, ws, rfl, ha.sq, by rw [r.length]; exact q.1, gNms_iff (by rw [r.length]; exact q.1) ?_⟩
    exact c _ _ (by rw [setAll_length, wipe_length]) (wipe_setAll hi) ⟨O, T, DIx.setAll r.length (pz_rep (I.drop (by simp)) r)⟩ q.2
  · exact q.elim
theorem lc_D {J0 : True} {wi : TI} {src : DSr0} {graw : TG} {g : D → DS → (DS → Prop) → Prop} {tt : DTT} {te : DTE} {vs : List Nat} (hwi : wi = upI tk K src) (hG : GOk tk K vs graw g) : ∀ σ H k, upF tk K (dLc src g tt te vs) σ H k → tLc wi graw (upT tk K tt) (upE tk K te) vs σ H k := by
  subst hwi
  rintro σ H k ⟨F, pn, d, Q, I, q, c⟩
  refine ⟨F, pn, d, _, I, q, fun J H1 items d1 ps ok I1 ⟨R, r0, rs, rd⟩ D hD => ?_⟩
  obtain ⟨G, Y, wk, hg, hY⟩ := ok
  obtain ⟨st, I2, back⟩ := I1.stash vs
  have per : ∀ {p : V × SV}, List.Perm (p :: (st ++ (ps ++ pn))) (ps ++ (p :: (st ++ pn))) := fun {p} => by
    refine List.Perm.trans ?_ List.perm_middle.symm
    refine List.Perm.cons p ?_
    rw [← List.append_assoc, ← List.append_assoc]
    exact List.Perm.append_right pn List.perm_append_comm
  obtain ⟨O2, T2, I2⟩ := I2
  have I3 : DI tk K F ((.ref D, .ow []) :: (st ++ (ps ++ pn))) σ (upd H1 D (.lst [])) (wipeD vs d1) := DI.newO (vs := []) (xs := []) I2 hD rfl
  refine lc_it wk (fun i H => ∃ acc, DI tk K F (ps ++ ((.ref D, .ow acc) :: (st ++ pn))) σ H (wipeD vs d1) ∧ R i acc) ⟨[], I3.perm per, r0⟩ (fun i H _ ⟨acc, I, _⟩ => hg _ σ H _ I) (fun i x H H' hi ⟨acc, I, r⟩ y => ?_) (fun H ⟨acc, I, r⟩ => ?_)
  · obtain ⟨z, ez, I4⟩ := hY i H x H' _ σ _ hi I y
    have I5 : DI tk K F ((x, .sh z) :: (ps ++ ((.ref D, .ow acc) :: (st ++ pn)))) (wipe σ vs) H' (wipeD vs d1) := by
      obtain ⟨O, T, I4⟩ := I4
      exact ⟨O, T, I4.sig (wipe_length _ _) fun j s e => wipe_at (wipeD_some e).2⟩
    refine hG F _ σ H' _ x z _ _ I5 (rs i z acc ez r) fun σ2 d2 hl hw I6 q6 => ⟨hw, upT_at I6 q6 fun b H3 d3 I7 q7 => ?_⟩
    have restore : ∀ {pn' : Pn} {H : Hp} {d : DS}, DI tk K F pn' σ2 H d → wipeD vs d = wipeD vs d1 → DI tk K F pn' σ H (wipeD vs d1) := fun {pn' H d} I e => by
      obtain ⟨O, T, I⟩ := I
      have J := I.forgets vs
      rw [e] at J
      refine ⟨O, T, J.sig hl.symm fun j s e => ?_⟩
      have nj := (wipeD_some e).2
      rw [← wipe_at (σ := σ) nj, ← hw, wipe_at nj]
    cases b with
    | true =>
      rw [if_pos rfl] at q7 ⊢
      refine upE_at I7 q7 fun v H4 y d4 I8 q8 => ?_
      have I9 : DI tk K F ((.ref D, .ow acc) :: (v, .sh y) :: (st ++ (ps ++ pn))) σ2 H4 d4 := by
        refine I8.perm ?_
        refine List.Perm.trans (List.Perm.cons _ per.symm) ?_
        exact List.Perm.swap _ _ _
      obtain ⟨O, T, I9⟩ := I9
      obtain ⟨a, ws, ea, _, _, _, h1, h2⟩ := I9.pe (.ref D, .ow acc) (by simp)
      cases ea
      have ry : Rep K O T H4 y v := I9.pe (v, .sh y) (by simp)
      have J := I9.mutP (ys := acc ++ [y]) rfl (RepL.append (es := [y]) (ws := [v]) h2 ⟨v, [], rfl, ry, rfl⟩)
      refine ⟨ws, h1, by rw [h2.length]; exact q8.2.1, acc ++ [y], ?_, q8.2.2⟩
      refine DI.perm (restore ⟨O, T, J.drop (pn' := (.ref D, .ow (acc ++ [y])) :: (st ++ (ps ++ pn))) ?_⟩ q8.1) per
      exact List.Sublist.cons_cons _ (List.sublist_cons_self _ _)
    | false =>
      exact ⟨acc, restore I7 q7.1, q7.2⟩
  · refine c (.ref D) H acc d1 ?_ (rd acc r)
    have J := I.perm per.symm
    refine DI.drop (pn := (.ref D, .ow acc) :: (ps ++ pn)) (back _ _ (J.perm ?_)) ?_
    · exact List.perm_middle.symm
    · exact List.Sublist.cons_cons _ (List.sublist_append_right _ _)
end
section
variable {tk : Tk} {X : Cx} {elt tg iter : Expr} {ifs : List Expr} {scope : Scope} {own : List (Str × Nat)} {pos spos py : Pos} {src : DSr0} {graw : TG} {g : D → DS → (DS → Prop) → Prop} {tt : DTT} {te : DTE} {i : Nat} {y : Str}
theorem df_lc {vs : List Nat} (hvs : own.map (·.2) = vs) (hc : X.calm = true) (hN : X.N.Nodup) (hi : DSr tk X tg iter src) (ok : BlkOk X.N X.env.scope scope own) (hG : GOk tk X.K (own.map (·.2)) graw g)
    (hg : ∀ (s : Shared) (H : Hp) (C : Addr) (cl : List (Str × Addr)) (fp : List Addr), PG (X.blk s H scope (compEnvC scope cl C X.env) fp) tg graw) (ht : ∀ (s : Shared) (H : Hp) (C : Addr) (cl : List (Str × Addr)) (fp : List Addr), DTs tk (X.blk s H scope (compEnvC scope cl C X.env) fp) ifs tt)
    (he : ∀ (s : Shared) (H : Hp) (C : Addr) (cl : List (Str × Addr)) (fp : List Addr), DE tk (X.blk s H scope (compEnvC scope cl C X.env) fp) elt te) (hs : ∀ x, foldedSetIterable iter X.env x = pure x := by intro _; rfl) :
    DF tk X (.ListComp elt [⟨tg, iter, ifs, 0⟩] scope pos) (dLc src g tt te vs) := by
  subst hvs
  exact pe_imp (pe_lc hc hN hi ok hg ht he hs) (lc_D (J0 := trivial) rfl hG)
theorem ds_setLc {vs : List Nat} (hvs : own.map (·.2) = vs) (hc : X.calm = true) (hN : X.N.Nodup) (hy : X.N[i]? = some y) (hyl : X.env.scope.names.lookup y = some .local)
    (hsw : swapsWith (.ListComp elt [⟨tg, iter, ifs, 0⟩] scope pos) (some (.Name y py)) spos.line X.env = pure true) (hi : DSr tk X tg iter src) (ok : BlkOk X.N X.env.scope scope own) (hG : GOk tk X.K (own.map (·.2)) graw g)
    (hg : ∀ (s : Shared) (H : Hp) (C : Addr) (cl : List (Str × Addr)) (fp : List Addr), PG (X.blk s H scope (compEnvC scope cl C X.env) fp) tg graw) (ht : ∀ (s : Shared) (H : Hp) (C : Addr) (cl : List (Str × Addr)) (fp : List Addr), DTs tk (X.blk s H scope (compEnvC scope cl C X.env) fp) ifs tt)
    (he : ∀ (s : Shared) (H : Hp) (C : Addr) (cl : List (Str × Addr)) (fp : List Addr), DE tk (X.blk s H scope (compEnvC scope cl C X.env) fp) elt te) (hs : ∀ x, foldedSetIterable iter X.env x = pure x := by intro _; rfl) :
    DSt tk X (.Assign [.Name y py] (.ListComp elt [⟨tg, iter, ifs, 0⟩] scope pos) spos) (sSetF i (dLc src g tt te vs)) := by
  subst hvs
  refine ps_imp (ps_setLc (tt := upT tk X.K tt) (te := upE tk X.K te) hc hN hy hyl hsw hi ok hg ht he hs) ?_
  rintro σ H D ⟨F, pn, d, E, I, q, c⟩
  refine lc_D (J0 := trivial) rfl hG σ H _ (upF_at I q fun v H1 xs d1 I1 q1 => ?_)
  obtain ⟨O, T, J⟩ := I1
  exact c.nx _ H1 _ ⟨O, T, J.toSlot⟩ q1
end

/-! ### a def by its body -/
def startD (N : List Str) (ss : List SV) : DS := ss.map some ++ List.replicate (N.length - ss.length) none
section
variable {tk : Tk} {K : PySem.W.Frag} {F : FrC} {H : Hp} {O : Addr → Prop} {T : Tks}
theorem startD_at {N : List Str} {ss : List SV} {i : Nat} {s : SV} (h : (startD N ss)[i]? = some (some s)) : ss[i]? = some s := by
  unfold startD at h
  by_cases hi : i < ss.length
  · rw [List.getElem?_append_left (by simpa using hi), List.getElem?_map] at h
    cases e : ss[i]? with
    | none => rw [e] at h; cases h
    | some a => rw [e] at h; cases h; rfl
  · rw [List.getElem?_append_right (by simpa using hi), List.getElem?_replicate] at h
    split at h <;> cases h
theorem start_at {N : List Str} {vs : List V} {i : Nat} {v : V} (h : vs[i]? = some v) : (L2.start N vs)[i]? = some (some v) := by
  unfold L2.start
  have hi : i < vs.length := (List.getElem?_eq_some_iff.mp h).1
  rw [List.getElem?_append_left (by simpa using hi), List.getElem?_map, h]
  rfl
theorem DIx.enter {N : List Str} {vs : List V} {ss : List SV} (hl : vs.length = ss.length) (I : DIx tk K F (vs.zip ss) [] H [] O T) : DIx tk K F [] (L2.start N vs) H (startD N ss) O T := by
  have at_ : ∀ {i : Nat} {s : SV}, (startD N ss)[i]? = some (some s) → ∃ v, vs[i]? = some v ∧ (L2.start N vs)[i]? = some (some v) ∧ (vs.zip ss)[i]? = some (v, s) := fun {i s} e => by
    have h1 := startD_at e
    have hi : i < ss.length := (List.getElem?_eq_some_iff.mp h1).1
    have h2 : vs[i]? = some (vs[i]'(by omega)) := List.getElem?_eq_getElem (by omega)
    exact ⟨_, h2, start_at h2, by rw [List.getElem?_zip_eq_some]; exact ⟨h2, h1⟩⟩
  have apart : ∀ {i j : Nat} {v : V} {s t : SV}, i ≠ j → (vs.zip ss)[i]? = some (v, s) → (vs.zip ss)[j]? = some (v, t) → s.own = true → t.own = true → False := fun {i j v s t} n e1 e2 w1 w2 => by
    have P := List.pairwise_iff_getElem.mp I.pp
    obtain ⟨h1, e1⟩ := List.getElem?_eq_some_iff.mp e1
    obtain ⟨h2, e2⟩ := List.getElem?_eq_some_iff.mp e2
    rcases Nat.lt_or_gt_of_ne n with h | h
    · exact P i j h1 h2 h (by rw [e1]; exact w1) (by rw [e2]; exact w2) (by rw [e1, e2])
    · exact P j i h2 h1 h (by rw [e2]; exact w2) (by rw [e1]; exact w1) (by rw [e1, e2])
  refine { I with len := by unfold startD L2.start; simp [hl], sl := fun i s e => ?_, pe := fun p hp => by simp at hp, ss := fun i j s t v n ei wi ej wj ev ev' => ?_, sp := fun i s v e w ev q hq => by simp at hq, pp := List.Pairwise.nil }
  · obtain ⟨v, h1, h2, h3⟩ := at_ e
    exact ⟨v, h2, I.pe (v, s) (List.mem_of_getElem? h3)⟩
  · obtain ⟨v1, _, h2, h3⟩ := at_ ei
    obtain ⟨v2, _, h5, h6⟩ := at_ ej
    rw [h2] at ev; cases ev
    rw [h5] at ev'; cases ev'
    exact apart n h3 h6 wi wj
theorem base_DI (hf : tk.fr ⟨H, O, T⟩) (hd : ∀ a, O a → H a ≠ none) (ht : ∀ p ∈ T, O p.1 ∧ O p.2 ∧ tk.ok H p.1 p.2) : DIx tk K ⟨H, O, T⟩ [] [] H [] O T where
  len := rfl
  ext := fun a o e _ => e
  keep := fun a e => e
  up := fun a e => e
  fdom := hd
  dom := hd
  new := fun a e => .inl e
  sub := fun p hp => hp
  tnew := fun p hp => .inl hp
  tok := ht
  sl := fun i s e => by simp at e
  pe := fun p hp => by simp at hp
  ss := fun i j s t v n e => by simp at e
  sp := fun i s v e => by simp at e
  pp := List.Pairwise.nil
  fx := hf
theorem pz_zip : ∀ {vs : List V} {xs : List D}, pz vs xs = vs.zip (xs.map SV.sh)
  | [], xs => by unfold pz; simp
  | v :: vs, [] => by unfold pz; simp
  | v :: vs, x :: xs => by
    show (v, SV.sh x) :: pz vs xs = _
    rw [pz_zip]
    rfl
end
section
variable {P : Program} {w : World} {K : PySem.W.Frag} {mg : Str → Option Value} {base : Heap} {tk : Tk}
/-- THE RULE for a def over data (nothing is raised out of it) -/
theorem fn_D (hf : ∀ F, tk.fr F) {x qual : Str} {params : Arguments} {body : List Stmt} {scope : Scope} {dvs : List V} {kws : List (Str × V)} {f : Addr} {fd : FuncData} {N ps : List Str} {k : Nat} {c : DSp} {t : DTS} (F : FunD K x qual params body scope dvs kws f fd) (S : FnScope N ps scope)
    (hb : ∀ (cdv : Value) (A : Around) (outer : List Env) (s : Shared) (H : Hp) (E : XK), Room k (A.deeper (PyProof.Rows.envOfC qual scope s.heap.objs.size f cdv)) → DSs tk (cxOf CX0 P w K mg base N qual scope f cdv A outer s H E).nox body t)
    (hc : ∀ xs Q, xs.length = ps.length → c xs Q → t ⟨fun _ => Q .non, Q, fun _ => False, fun _ => False⟩ (startD N (xs.map SV.sh))) : FnOk P w K mg base CX0 (k + 1) f fd ps (spD tk K ps.length c) := by
  refine F.ok S (fun vs H Q E h => h.1) fun cdv A outer s H vs Q E hr h => ?_
  obtain ⟨hl, O, T, xs, hd, ht, rl, Qd, q, ret⟩ := h
  have I0 : DIx tk K ⟨H, O, T⟩ (vs.zip (xs.map SV.sh)) [] H [] O T := by
    have J := pz_rep (base_DI (K := K) (hf _) hd ht) rl
    rw [List.append_nil, pz_zip] at J
    exact J
  have I := DIx.enter (N := N) (by rw [List.length_map, rl.length]) I0
  refine ⟨_, (hb cdv A outer s H E hr).nox, ⟨H, O, T⟩, [], _, ⟨fun _ => Qd .non, Qd, fun _ => False, fun _ => False⟩, ⟨O, T, I⟩, hc xs Qd (by rw [← rl.length]; exact hl) q, ⟨fun σ H' d J q => ?_, fun v H' x r q => ret x v H' q r, fun σ H d J q => q.elim, fun σ H d J q => q.elim⟩⟩
  obtain ⟨O', T', J⟩ := J
  exact ret .non .non H' q ⟨_, σ, d, (DI.bare ⟨O', T', J.add (x := .non) (v := .non) rfl⟩)⟩
end
end DL
set_option Elab.async false
set_option linter.all false
set_option maxRecDepth 100000
set_option maxHeartbeats 4000000
/-! DL7: enumerate of a tuple or a list, objects that are made. -/
namespace DL
open PySem L2 PyProof.Rows

/-! ### enumerate -/
theorem meetsEnumB {v : Value} {o : Obj} {G : Heap → Prop} (B : Begins v o G) :
    Meets (Builtin.«enumerate.__new__» ⟨[.type "enumerate", v], []⟩) (fun _ R s => G s.heap ∧
      R (.ok (.ret (.ref (s.heap.push o).objs.size))) { s with heap := (s.heap.push o).push { cls := .type "enumerate", data := .fields #[.none, .bool false, .ref s.heap.objs.size, rawInt 0, .none, .none] } }) :=
  .of_wp fun prog w A R s h => by
    obtain ⟨hp, g, d, tk, os⟩ := s
    obtain ⟨hg, h⟩ := h
    have hsub := sub_enumerate
    have it1 : ∀ {A' : Around} {E : Value → Shared → Prop} {Q : Value → Shared → Prop}, Q (.ref hp.objs.size) ⟨hp.push o, g, d, tk, os⟩ → wpAny (model prog w) A' (pyIter v) Q E ⟨hp, g, d, tk, os⟩ := fun q => B.iter prog w _ _ ⟨hp, g, d, tk, os⟩ _ hg q
    wp_walk using it1
    refine wpAny_stack_any fun st => wpAny_pure ?_
    split
    · rename_i c _ _ _ _ _
      cases (c == Value.type "enumerate") <;> (wp_walk using it1; exact ⟨_, rfl, h⟩)
    · wp_walk using it1
      exact ⟨_, rfl, h⟩
theorem enumB {prog : Program} {w : World} {A : Around} {E : Value → Shared → Prop} {s : Shared} {v : Value} {o : Obj} {G : Heap → Prop} {Q : Value → Shared → Prop} (B : Begins v o G) (hg : G s.heap)
    (h : ∀ h', IsEnum h' (s.heap.objs.size + 1) s.heap.objs.size 0 .none → h'.get? s.heap.objs.size = some o → (∀ b u, s.heap.get? b = some u → h'.get? b = some u) → Q (.ref (s.heap.objs.size + 1)) { s with heap := h' }) :
    wpAny (model prog w) A (call (.type "enumerate") [v]) Q E s := by
  refine callType_new F.called_enumerate (by decide) (F.typeCall_enumerate_1 _) (F.newCall_enumerate_1 _) (fun obj => F.args_object_init_2 obj _) F.entry_enumerate_new (meetsEnumB B) ⟨hg, ?_⟩
  have sz : (s.heap.push o).objs.size = s.heap.objs.size + 1 := Heap.size_push ..
  show _ ∧ _
  rw [sz]
  have e1 := Heap.get?_push_size (s.heap.push o) (o := { cls := .type "enumerate", data := .fields #[.none, .bool false, .ref s.heap.objs.size, rawInt 0, .none, .none] }) rfl
  rw [sz] at e1
  exact ⟨⟨_, e1, rfl⟩, h _ e1 (Heap.get?_push_of_some _ (Heap.get?_push_size _ B.free)) fun b u z => Heap.get?_push_of_some _ (Heap.get?_push_of_some _ z)⟩
/-- enumerate of the tuple at a -/
def IteT (K : PySem.W.Frag) (a : Addr) : It :=
  ⟨fun i H => ∃ (xs : List V) (x : V), SqT K H a xs ∧ xs[i]? = some x, fun i H v H' => ∃ T x, v = .ref T ∧ H T = none ∧ H' = upd H T (.tup [.int (i : Nat), x]) ∧ ∀ xs, SqT K H a xs → xs[i]? = some x, fun i H => ∃ xs : List V, SqT K H a xs ∧ xs.length ≤ i⟩
theorem turn_enumT {P : Program} {w : World} {K : PySem.W.Frag} {elts : List Expr} {kk : Nat} {tpos : Pos} (a e it : Addr) :
    Turn P w K (.Tuple elts kk tpos) (IteT K a) [e, it] e (fun i h => (∃ old, IsEnum h e it ((i : Nat) : Int) old) ∧ h.IsTupleIter it a i ∧ e ≠ it ∧ a ≠ it ∧ a ≠ e) where
  mem := List.mem_cons_self
  obj := fun i h st b hb => by
    obtain ⟨⟨old, he⟩, ⟨o, ho, hc, hd⟩, _⟩ := st
    simp only [List.mem_cons, List.not_mem_nil, or_false] at hb
    rcases hb with rfl | rfl
    · exact ⟨_, he, fun v q => nomatch q⟩
    · exact ⟨o, ho, fun v q => by rw [hd] at q; cases q⟩
  keep := fun i h h' st k => let ⟨⟨old, he⟩, hi, r⟩ := st; ⟨⟨old, k e (by simp) _ he⟩, hi.at fun o q => k it (by simp) o q, r⟩
  item := by
    intro X hP hw hK hc i pins s σ H E I hf st hg
    subst hP hw hK
    obtain ⟨⟨old, he⟩, hit, hne, hai, hae⟩ := st
    obtain ⟨xs, x, hq, hx⟩ := hg
    obtain ⟨its, rv, pt, hz⟩ := I.tuple hq
    obtain ⟨u, hu, ru⟩ := rv.get hx
    have hil : i < its.toArray.size := by
      have := (List.getElem?_eq_some_iff.mp hu).1
      simpa using this
    have hd1 : X.A.in1.handled = none := I.ok.hd hc
    have le : e < s.heap.objs.size := Heap.lt_size he
    have li : it < s.heap.objs.size := by obtain ⟨_, q, _⟩ := hit; exact Heap.lt_size q
    refine wpAny_pyNext_enum_itemD (Draws.tuple (prog := X.prog) (w := X.w) hd1 it a hai its.toArray) he ⟨hit, pt⟩ hil hne (by simp [hne, Ne.symm hae]) fun y h' t hy ho hs' hT hsz hk => ?_
    obtain rfl : y = u := by
      have q : its.toArray[i]? = some u := by simpa using hu
      exact Option.some.inj (hy.symm.trans q)
    refine ⟨_, rfl, wpAny_letOwnedTupleGo_enum (s := { s with heap := h', toks := t + 1 }) ho fun h'' he' sb => ?_⟩
    have hT2 : h''.get? s.heap.objs.size = some { cls := .type "tuple", data := .seq #[.int i t, y] } := (sb.2 _ (Nat.ne_of_gt le)).trans hT
    have new : ObjOk X.prog X.w (upd H s.heap.objs.size (.tup [.int (i : Nat), x])) h'' s.heap.objs.size (.tup [.int (i : Nat), x]) :=
      ⟨by show 2 ≤ sizeLine; decide, _, .cons ⟨_, rfl⟩ (.cons ru .nil), ⟨_, hT2, rfl, _, rfl⟩⟩
    have I1 : Inv X pins σ (upd H s.heap.objs.size (.tup [.int (i : Nat), x])) { s with heap := h'', toks := t + 1 } :=
      I.turnedNew (ch := [e, it]) (fun b ob hb q => by
        simp only [List.mem_cons, List.not_mem_nil, or_false, not_or] at hb
        exact (sb.2 b hb.1).trans (hk b ob hb.1 hb.2 q)) hf (Nat.le_refl _) new
    refine ⟨.ref s.heap.objs.size, _, I1, rfl, ⟨_, x, rfl, I.hok.fresh (Nat.le_refl _), rfl, fun ys hy => by rw [I.tuple_inj hy hq]; exact hx⟩, ⟨⟨y, ?_⟩, hs'.1.at fun o q => (sb.2 it (Ne.symm hne)).trans q, hne, hai, hae⟩, fun b hb => ?_⟩
    · rw [show ((i + 1 : Nat) : Int) = (i : Int) + 1 by omega]
      exact he'
    · have lb : b < s.heap.objs.size := by
        simp only [List.mem_cons, List.not_mem_nil, or_false] at hb
        rcases hb with rfl | rfl
        · exact le
        · exact li
      rw [upd_ne (Nat.ne_of_lt lb)]
      exact (hf b hb).1
  done := by
    intro X hP hw hK hc i pins s σ H E I hf st hg
    subst hP hw hK
    obtain ⟨⟨old, he⟩, hit, hne, hai, hae⟩ := st
    obtain ⟨xs, hq, hx⟩ := hg
    obtain ⟨its, rv, pt, hz⟩ := I.tuple hq
    obtain ⟨f0, f1, f2, f3, f4, f5⟩ := hf it (by simp)
    have hl := rv.length
    have hd1 : X.A.in1.handled = none := I.ok.hd hc
    unfold pyNext
    have hT : s.TypeIs (.ref e) "enumerate" := ⟨_, he, rfl⟩
    refine wpAny_bind (wpAny_attempt (wpAny_callSpecial?_slot (name := Str.ofString "__next__") hT F.slot_enumerate_next (wpAny_call_entry F.slot_enumerate_next hT F.entry_enumerate_next ?_ (F.args_enumerate_next_1 _))))
    show wpAny _ _ (field (.ref e) 2 >>= _) _ _ _
    refine wpAny_bind (wpAny_field he rfl (x := .ref it) rfl ?_)
    refine wpAny_bind (wpAny_nextOf_tuple_end hd1 hit pt (by simp; omega) fun h' x hx' ex => ?_)
    obtain ⟨o, ho, hcl⟩ := ex
    refine wpAny_bind (wpAny_isInstance (T := "StopIteration") (b := true) ⟨o, ho, hcl⟩ isSubtype_stop ?_)
    exact wpAny_pure ⟨rfl, I.turned (t' := s.toks) (fun b o hb q => hx' b o hb q) f0 f1 f3 f4 f5⟩
  self := fun A i s Q E st h => let ⟨⟨_, he⟩, _⟩ := st; wpAny_pyIter_enum he h

section
variable {X : Cx} {p pos tpos : Pos} {elts : List Expr} {kk : Nat} {e : Expr} {ta : TA}
def iEnumA (K : PySem.W.Frag) (ta : TA) : TI := fun σ H R => ta σ H fun vs H1 => ∃ a, vs = [.ref a] ∧ ((∃ xs, SqL K H1 a xs) ∧ R (Ite K a) H1 ∨ (∃ xs, SqT K H1 a xs) ∧ R (IteT K a) H1)
theorem pi_enumA (hg : Gl X "enumerate") (hm : X.mg "enumerate" = none) (ha : PA X [e] ta) (hs : starEach [e] X.env = [(false, eval e X.env)] := by rfl) : PI X (.Tuple elts kk tpos) (.Call (.Name "enumerate" p) [e] [] pos) (iEnumA X.K ta) := by
  constructor
  intro pins s σ H R I h
  refine Call_ (ld_blt I hg hm boot_enumerate ?_)
  refine PyProof.Rows.callWith_type1 (thn (ha.run pos pins s σ H _ I h) ?_) hs rfl
  rintro us s1 ⟨vs, H1, I1, r1, a, rfl, q⟩
  obtain ⟨u, rfl, ru⟩ := Vals.one r1
  obtain rfl : u = Value.ref a := ru
  have le : ∀ b ∈ [s1.heap.objs.size + 1, s1.heap.objs.size], FpOk X pins H1 b := by
    intro b hb
    have z : s1.heap.objs.size ≤ b := by
      simp only [List.mem_cons, List.not_mem_nil, or_false] at hb
      rcases hb with rfl | rfl
      · exact Nat.le_succ _
      · exact Nat.le_refl _
    exact I1.fpOk z (I1.hok.fresh z)
  rcases q with ⟨⟨xs, hq⟩, q⟩ | ⟨⟨xs, hq⟩, q⟩
  · obtain ⟨its, rv, pl, hz⟩ := I1.list hq
    refine enumB (begins_list a its.toArray) pl.isList fun h' he ho hk => wpAny_pyIter_enum he ?_
    exact ⟨_, _, _, _, H1, rfl, I1.kept (t' := s1.toks) hk, turn_enum a (s1.heap.objs.size + 1) s1.heap.objs.size, ⟨⟨.none, he⟩, ⟨_, ho, rfl, rfl⟩, Nat.succ_ne_self _⟩, le, q⟩
  · obtain ⟨its, rv, pt, hz⟩ := I1.tuple hq
    have la : a < s1.heap.objs.size := IsTup.lt pt
    refine enumB (begins_tuple a its.toArray) pt fun h' he ho hk => wpAny_pyIter_enum he ?_
    exact ⟨_, _, _, _, H1, rfl, I1.kept (t' := s1.toks) hk, turn_enumT a (s1.heap.objs.size + 1) s1.heap.objs.size, ⟨⟨.none, he⟩, ⟨_, ho, rfl, rfl⟩, Nat.succ_ne_self _, Nat.ne_of_lt la, Nat.ne_of_lt (Nat.lt_succ_of_lt la)⟩, le, q⟩
end
def enumD (k : Int) : List D → List D
  | [] => []
  | x :: xs => .tup [.int k, x] :: enumD (k + 1) xs
theorem enumD_len : ∀ {k : Int} {xs : List D}, (enumD k xs).length = xs.length
  | k, [] => rfl
  | k, x :: xs => by
    show (enumD (k + 1) xs).length + 1 = _
    rw [enumD_len]; rfl
theorem enumD_at : ∀ {k : Int} {xs : List D} {i : Nat} {x : D}, xs[i]? = some x → (enumD k xs)[i]? = some (.tup [.int (k + (i : Nat)), x])
  | k, [], i, x, h => by simp at h
  | k, y :: xs, 0, x, h => by
    have e : y = x := Option.some.inj h
    subst e
    show some (D.tup [.int k, y]) = _
    rw [show k + ((0 : Nat) : Int) = k by simp]
  | k, y :: xs, i + 1, x, h => by
    have ih := enumD_at (k := k + 1) (xs := xs) (i := i) (x := x) h
    show (enumD (k + 1) xs)[i]? = _
    rw [ih]
    have : k + 1 + (i : Nat) = k + ((i + 1 : Nat) : Int) := by omega
    rw [this]
theorem enumD_of {k : Int} {xs : List D} {i : Nat} {y : D} (h : (enumD k xs)[i]? = some y) : ∃ x, xs[i]? = some x ∧ y = .tup [.int (k + (i : Nat)), x] := by
  have hi : i < xs.length := by
    have := (List.getElem?_eq_some_iff.mp h).1
    rwa [enumD_len] at this
  have e : xs[i]? = some xs[i] := List.getElem?_eq_getElem hi
  rw [enumD_at e] at h
  exact ⟨_, e, (Option.some.inj h).symm⟩
section
variable {tk : Tk} {K : PySem.W.Frag} {F : FrC}
theorem items_enum {a : Addr} {xs : List D} {v : V} (ev : v = .ref a) : ItemsOk tk K F (Ite K a) (enumD 0 xs) [(v, .sh (.lst xs))] := by
  subst ev
  refine ⟨fun H => ∃ vs, SqL K H a vs ∧ vs.length = xs.length, (Ite K a).yld, ⟨fun i H hi h => ?_, fun H h => ?_, fun i H x H' hi h y => y⟩, fun pn σ H d I => ?_, fun i H x H' pn σ d hi I y => ?_⟩
  · obtain ⟨vs, h1, h2⟩ := h
    rw [enumD_len] at hi
    exact ⟨vs, vs[i]'(by omega), h1, by simp [show i < vs.length by omega]⟩
  · obtain ⟨vs, h1, h2⟩ := h
    exact ⟨vs, h1, by rw [enumD_len]; omega⟩
  · obtain ⟨O, T, I⟩ := I
    obtain ⟨b, vs, e, hb, r⟩ := (I.pe (.ref a, .sh (.lst xs)) (by simp) : Rep K O T H (.lst xs) (.ref a))
    cases e
    exact ⟨vs, SqL.of hb.2, r.length⟩
  · obtain ⟨O, T, I⟩ := I
    obtain ⟨b, vs, e, hb, r⟩ := (I.pe (.ref a, .sh (.lst xs)) (by simp) : Rep K O T H (.lst xs) (.ref a))
    cases e
    obtain ⟨t, u, rfl, ht, rfl, y⟩ := y
    obtain ⟨z, h1, h2⟩ := r.get (y vs (SqL.of hb.2))
    refine ⟨_, enumD_at h1, DI.newT (xs := [.int (i : Nat), z]) (vs := [.int (i : Nat), u]) I ht ⟨_, _, rfl, rfl, _, _, rfl, h2, rfl⟩ |> fun q => ?_⟩
    rw [show (0 : Int) + (i : Nat) = (i : Nat) by omega]
    exact q
theorem items_enumT {a : Addr} {xs : List D} {v : V} (ev : v = .ref a) : ItemsOk tk K F (IteT K a) (enumD 0 xs) [(v, .sh (.tup xs))] := by
  subst ev
  refine ⟨fun H => ∃ vs, SqT K H a vs ∧ vs.length = xs.length, (IteT K a).yld, ⟨fun i H hi h => ?_, fun H h => ?_, fun i H x H' hi h y => y⟩, fun pn σ H d I => ?_, fun i H x H' pn σ d hi I y => ?_⟩
  · obtain ⟨vs, h1, h2⟩ := h
    rw [enumD_len] at hi
    exact ⟨vs, vs[i]'(by omega), h1, by simp [show i < vs.length by omega]⟩
  · obtain ⟨vs, h1, h2⟩ := h
    exact ⟨vs, h1, by rw [enumD_len]; omega⟩
  · obtain ⟨O, T, I⟩ := I
    obtain ⟨b, vs, e, hb, r⟩ := (I.pe (.ref a, .sh (.tup xs)) (by simp) : Rep K O T H (.tup xs) (.ref a))
    cases e
    exact ⟨vs, hb.sq, r.length⟩
  · obtain ⟨O, T, I⟩ := I
    obtain ⟨b, vs, e, hb, r⟩ := (I.pe (.ref a, .sh (.tup xs)) (by simp) : Rep K O T H (.tup xs) (.ref a))
    cases e
    obtain ⟨t, u, rfl, ht, rfl, y⟩ := y
    obtain ⟨z, h1, h2⟩ := r.get (y vs hb.sq)
    refine ⟨_, enumD_at h1, DI.newT (xs := [.int (i : Nat), z]) (vs := [.int (i : Nat), u]) I ht ⟨_, _, rfl, rfl, _, _, rfl, h2, rfl⟩ |> fun q => ?_⟩
    rw [show (0 : Int) + (i : Nat) = (i : Nat) by omega]
    exact q
end
section
variable {tk : Tk} {X : Cx} {p pos tpos : Pos} {elts : List Expr} {kk : Nat} {e : Expr} {te : DTE}
def srcEnum (te : DTE) (d : DS) (Q : List D → DS → Prop) : Prop := te d fun x d1 => match x with
  | .lst xs => Q (enumD 0 xs) d1
  | .tup xs => Q (enumD 0 xs) d1
  | _ => False
theorem sr_enum (hg : Gl X "enumerate") (hm : X.mg "enumerate" = none) (he : DE tk X e te) (hs : starEach [e] X.env = [(false, eval e X.env)] := by rfl) : DSr tk X (.Tuple elts kk tpos) (.Call (.Name "enumerate" p) [e] [] pos) (srcEnum te) := by
  refine pi_imp (pi_enumA hg hm (pa_cons he pa_nil hs) hs) ?_
  rintro σ H k ⟨F, pn, d, Q, I, q, c⟩
  refine upE_at I q fun v H1 x d1 I1 q1 => ?_
  obtain ⟨O, T, J⟩ := id I1
  have r1 : Rep X.K O T H1 x v := J.pe (v, .sh x) (by simp)
  cases x with
  | lst xs =>
    obtain ⟨a, vs, e, hb, r⟩ := id r1
    exact ⟨a, by rw [e], .inl ⟨⟨vs, SqL.of hb.2⟩, c _ H1 _ d1 [(v, .sh (.lst xs))] (items_enum e) I1 q1⟩⟩
  | tup xs =>
    obtain ⟨a, vs, e, hb, r⟩ := id r1
    exact ⟨a, by rw [e], .inr ⟨⟨vs, hb.sq⟩, c _ H1 _ d1 [(v, .sh (.tup xs))] (items_enumT e) I1 q1⟩⟩
  | _ => exact q1.elim
end

/-! ### objects that are made -/
section
variable {tk : Tk} {X : Cx} {p pos pos' : Pos} {e o : Expr} {es : List Expr} {te : DTE} {t : DTA} {f : Str}
def putD (f : Str) (x : D) : List (Str × D) → List (Str × D)
  | [] => [(f, x)]
  | (g, y) :: r => if g = f then (g, x) :: r else (g, y) :: putD f x r
theorem RepF.put {K O T H} {f : Str} {x : D} {v : V} (r : Rep K O T H x v) : ∀ {fs : List (Str × D)} {gs : List (Str × V)}, RepF K O T H fs gs → RepF K O T H (putD f x fs) (putF f v gs)
  | [], gs, h => by rw [show gs = [] from h]; exact ⟨v, [], rfl, r, rfl⟩
  | (g, y) :: fs, gs, h => by
    obtain ⟨w, q, rfl, h1, h2⟩ := h
    unfold putD putF
    by_cases z : g = f
    · rw [if_pos z, if_pos z]; exact ⟨v, q, rfl, r, h2⟩
    · rw [if_neg z, if_neg z]; exact ⟨w, _, rfl, h1, RepF.put r h2⟩
/-- self.f = e, self in slot i -/
def sFldI (K : PySem.W.Frag) (i : Nat) (f : Str) (te : DTE) (E : DEn) (d : DS) : Prop := te d fun x d1 => match d1[i]? with
  | some (some (.ob a C fs)) => AtOk K C f ∧ fs.length < 1000 ∧ E.nx (d1.set i (some (.ob a C (putD f x fs))))
  | _ => False
theorem ds_fldI (K : PySem.W.Frag) {i : Nat} (ho : PE X o (tVar i)) (he : DE tk X e te) (hs : swapsWith e (some (.Attribute o f pos')) pos.line X.env = pure false := by rfl) (hK : X.K = K := by rfl) : DSt tk X (.Assign [.Attribute o f pos'] e pos) (sFldI K i f te) := by
  subst hK
  refine ps_imp (ps_fld ho he hs) ?_
  rintro σ H D ⟨F, pn, d, E, I, q, c⟩
  refine upE_at I q fun v H1 x d1 I1 q1 => ?_
  obtain ⟨O, T, I1⟩ := I1
  have r1 : Rep X.K O T H1 x v := I1.pe (v, .sh x) (by simp)
  split at q1
  · rename_i a C fs es
    obtain ⟨u, h1, J⟩ := (I1.drop (pn' := pn) (by simp)).lift es
    obtain ⟨dx, gs, eu, h2, h3, h4, h5, h6⟩ := J.pe (u, .ob a C fs) (by simp)
    obtain rfl : u = .ref a := eu
    refine ⟨.ref a, h1, a, C, dx, gs, rfl, h5, q1.1.1, q1.1.2, by rw [h6.length]; exact q1.2.1, ?_⟩
    have J2 := DIx.land (i := i) (J.mutO (dx := dx) (h6.put (f := f) r1)) h1
    rw [List.set_set] at J2
    exact c.nx _ _ _ ⟨O, T, J2⟩ q1.2.2
  · exact q1.elim
/-- self.f, self in slot i, being made -/
def dFldI (K : PySem.W.Frag) (i : Nat) (f : Str) (d : DS) (Q : D → DS → Prop) : Prop := match d[i]? with
  | some (some (.ob _ C fs)) => AtOk K C f ∧ match fs.lookup f with
    | some y => Q y d
    | none => False
  | _ => False
theorem de_fldI (K : PySem.W.Frag) {i : Nat} (ho : PE X o (tVar i)) (hb : attributeBase o f X.env (eval o X.env) = eval o X.env) (hK : X.K = K := by rfl) : DE tk X (.Attribute o f pos) (dFldI K i f) := by
  subst hK
  refine pe_imp (pe_fld ho hb) ?_
  rintro σ H k ⟨F, pn, d, Q, ⟨O, T, I⟩, q, c⟩
  unfold dFldI at q
  split at q
  · rename_i a C fs es
    obtain ⟨v, h1, dx, gs, e1, h2, h3, h4, h5, h6⟩ := I.sl _ _ es
    obtain ⟨q0, q⟩ := q
    split at q
    · rename_i y ey
      obtain ⟨u, h7, h8⟩ := h6.lookup ey
      exact ⟨v, h1, a, C, dx, gs, u, e1, h5, q0.1, q0.2, h7, c u H y d (DI.add I h8) q⟩
    · exact q.elim
  · exact q.elim
/-- the promise of an __init__ over data: the fields that it leaves -/
abbrev DMk := List D → (List (Str × D) → Prop) → Prop
def spI (tk : Tk) (K : PySem.W.Frag) (C : Addr) (n : Nat) (c : DMk) : Sp := fun vs H Q _ => vs.length = n + 1 ∧ ∃ (x dx : Addr) (H1 : Hp) (rest : List V) (O : Addr → Prop) (T : Tks) (xs : List D),
  vs = .ref x :: rest ∧ H1 x = none ∧ H1 dx = none ∧ dx ≠ x ∧ H = upd (upd H1 dx (.own x)) x (.ins C dx []) ∧ (∀ a, O a → H1 a ≠ none) ∧ (∀ p ∈ T, O p.1 ∧ O p.2 ∧ tk.ok H1 p.1 p.2) ∧ RepL K O T H1 xs rest ∧
  ∃ Qd : List (Str × D) → Prop, c xs Qd ∧ ∀ fs H', Qd fs → (∃ pn σ d, DI tk.b K ⟨H1, O, T⟩ ((.ref x, .ob x C fs) :: pn) σ H' d) → Q .non H'
def dMake (n : Nat) (C : Addr) (c : DMk) (dds : List D) (t : DTA) (d : DS) (Q : D → DS → Prop) : Prop := t d fun xs d1 => (xs ++ dds).length = n ∧ c (xs ++ dds) fun fs => Q (.obj C fs) d1
theorem de_make {CX : CXT} {k n : Nat} {g C : Addr} {fd : FuncData} {ps : List Str} {c : DMk} {x : Str} {dvs : List V} {ds : List Value} {dds : List D} (M : Mk X.K C g) (F : FnOk X.prog X.w X.K X.mg X.base CX0 k g fd ps (spI tk X.K C n c)) (hr : Room (k + 1) X.A) (hg : Gl X x) (hm : X.mg x = some (.ref C)) (hb : Binds X.K fd ps ds) (hd : Vals dvs ds) (hdd : dds.map flatD = dvs.map some)
    (ha : DA tk X (e :: es) t) (hdb : (x == ("__debug__" : Str)) = false := by decide) (he : starEach (e :: es) X.env = (false, eval e X.env) :: starEach es X.env := by rfl) (hpl : (backTo pos (starEach es X.env)).any (·.1) = false := by rfl) :
    DE tk X (.Call (.Name x p) (e :: es) [] pos) (dMake n C c dds t) := by
  refine pe_imp (pe_make M F hr hg hm hb hd pass0 ha hdb he hpl) ?_
  rintro σ H k ⟨F, pn, d, Q, I, q, c'⟩
  refine upA_at I q fun vs H1 xs d1 hl I1 q1 y dx hy hdx hne => ?_
  obtain ⟨O, T, I1⟩ := I1
  have rl : RepL X.K O T H1 (xs ++ dds) (vs ++ dvs) := (I1.args hl).append (repFlat hdd)
  have J := I1.less
  refine ⟨by rw [List.length_cons, rl.length, q1.1], y, dx, H1, vs ++ dvs, O, T, xs ++ dds, rfl, hy, hdx, hne, rfl, J.dom, J.tok, rl, _, q1.2, fun fs H' qf mk => ⟨rfl, ?_⟩⟩
  obtain ⟨pn', σ', d', MI⟩ := mk
  exact c' (.ref y) H' (.obj C fs) d1 (J.back ⟨pn', σ', d', DI.freezeP MI⟩) qf
end
section
variable {P : Program} {w : World} {K : PySem.W.Frag} {mg : Str → Option Value} {base : Heap} {tk : Tk}
theorem DIx.newOb {F : FrC} {pn : Pn} {σ : L2.St} {H : Hp} {d : DS} {O : Addr → Prop} {T : Tks} {x C dx : Addr} (I : DIx tk K F pn σ H d O T) (hx : H x = none) : DIx tk K F ((.ref x, .ob x C []) :: pn) σ (upd H x (.ins C dx [])) d (fun a => O a ∨ a = x) T := by
  have J := I.own (o := .ins C dx []) hx
  have far : ∀ {s : SV} {v : V}, RepS K F O T H s v → s.own = true → v ≠ .ref x := fun {s v} q w e => by
    obtain ⟨b, eb, ob, _, _, nb⟩ := q.ownAt w
    have z : b = x := V.ref.inj (eb.symm.trans e)
    exact nb (by rw [z]; exact hx)
  refine { J with pe := fun q hq => ?_, sp := fun i s u a b c q hq w => ?_, pp := List.Pairwise.cons (fun q hq w w' e => far (I.pe q hq) w' e.symm) I.pp }
  · rcases List.mem_cons.mp hq with e | hq
    · subst e
      exact ⟨dx, [], rfl, .inr rfl, I.freshF hx, I.freshT hx, upd_same, rfl⟩
    · exact J.pe q hq
  · rcases List.mem_cons.mp hq with e | hq
    · subst e
      obtain ⟨v, e1, r1⟩ := I.sl i s a
      have : u = v := Option.some.inj (Option.some.inj (c.symm.trans e1))
      subst this
      exact fun z => far r1 b z.symm
    · exact I.sp i s u a b c q hq w
/-- THE RULE for an __init__ over data (nothing is raised out of it); its body ends without return -/
theorem fn_I (hf : ∀ F, tk.fr F) {x qual : Str} {params : Arguments} {body : List Stmt} {scope : Scope} {dvs : List V} {kws : List (Str × V)} {f C : Addr} {fd : FuncData} {N ps : List Str} {k n : Nat} {c : DMk} {t : DTS} (F : FunD K x qual params body scope dvs kws f fd) (S : FnScope N ps scope) (hn : ps.length = n + 1)
    (hb : ∀ (cdv : Value) (A : Around) (outer : List Env) (s : Shared) (H : Hp) (E : XK), Room k (A.deeper (PyProof.Rows.envOfC qual scope s.heap.objs.size f cdv)) → DSs tk (cxOf CX0 P w K mg base N qual scope f cdv A outer s H E).nox body t)
    (hc : ∀ (y : Addr) xs Q, xs.length = n → c xs Q → t ⟨fun d => ∃ fs, d[0]? = some (some (.ob y C fs)) ∧ Q fs, fun _ => False, fun _ => False, fun _ => False⟩ (startD N (.ob y C [] :: xs.map SV.sh))) : FnOk P w K mg base CX0 (k + 1) f fd ps (spI tk K C n c) := by
  refine F.ok S (fun vs H Q E h => by rw [hn]; exact h.1) fun cdv A outer s H vs Q E hr h => ?_
  obtain ⟨hl, y, dx, H1, rest, O, T, xs, rfl, hy, hdx, hne, rfl, hd, ht, rl, Qd, q, ret⟩ := h
  have J0 := (pz_rep (base_DI (K := K) (hf _) hd ht) rl).fresh (o := .own y) hdx
  have hy1 : upd H1 dx (.own y) y = none := by rw [upd_ne (Ne.symm hne)]; exact hy
  have J1 := J0.newOb (C := C) (dx := dx) hy1
  rw [List.append_nil, pz_zip] at J1
  have J1 : DIx tk K ⟨H1, O, T⟩ ((V.ref y :: rest).zip (.ob y C [] :: xs.map SV.sh)) [] (upd (upd H1 dx (.own y)) y (.ins C dx [])) [] (fun a => O a ∨ a = y) T := J1
  have I := DIx.enter (N := N) (by rw [List.length_cons, List.length_cons, List.length_map, rl.length]) J1
  refine ⟨_, (hb cdv A outer s _ E hr).nox, ⟨H1, O, T⟩, [], _, _, ⟨_, T, I⟩, hc y xs Qd (by rw [← rl.length]; simpa using hl) q, ⟨fun σ H' d J q => ?_, fun v H' x r q => q.elim, fun σ H d J q => q.elim, fun σ H d J q => q.elim⟩⟩
  obtain ⟨fs, e, q⟩ := q
  obtain ⟨O', T', J⟩ := J
  obtain ⟨u, h1, h2⟩ := J.lift e
  obtain ⟨dx', gs, eu, _⟩ := h2.pe (u, .ob y C fs) (by simp)
  obtain rfl : u = .ref y := eu
  exact ret fs H' q ⟨_, σ, _, O', T', h2.bare⟩
end
end DL
set_option Elab.async false
set_option linter.all false
set_option maxRecDepth 100000
set_option maxHeartbeats 4000000
/-! DL8: the source of draws (family A): [[digits], stir, count]. -/
namespace DL
open PySem L2

theorem canLay_ints : ∀ ns : List Int, PyData.canLay0 (.list (ns.map PyData.int)) = true ∧ True := by
  intro ns
  refine ⟨?_, trivial⟩
  induction ns with
  | nil => rfl
  | cons n ns ih => exact ih
theorem depth_ints : ∀ ns : List Int, PyData.depth (.list (ns.map PyData.int)) = 1 := by
  intro ns
  induction ns with
  | nil => rfl
  | cons n ns ih =>
    have e : PyData.depth (.list ((n :: ns).map PyData.int)) = PyData.depth (.list (ns.map PyData.int)) := by
      show max 0 (PyData.depthAll (ns.map PyData.int)) + 1 = _
      rw [Nat.zero_max]; rfl
    rw [e, ih]
theorem shaped_ints (ns : List Int) : SeqAt.shaped (.list (ns.map PyData.int)) = true := by
  unfold SeqAt.shaped
  rw [(canLay_ints ns).1, depth_ints]
  rfl
theorem eqv_ints_nil (ns : List Int) : PyData.eqv (.list (ns.map PyData.int)) (.list []) = ns.isEmpty := by
  cases ns <;> rfl
theorem dp_ints {K : PySem.W.Frag} {H : Hp} : ∀ ns : List Int, DpAll K H (ns.map V.int) (ns.map PyData.int)
  | [] => .nil
  | n :: ns => .cons (.int n) (dp_ints ns)

def tokA : Tk where
  ok := fun H a b => ∃ (ds : List Int) (s c : Int), H a = some (.lst [.ref b, .int s, .int c]) ∧ H b = some (.lst (ds.map V.int)) ∧ ds.length ≤ 63
  loc := fun H H' a b e1 e2 ⟨ds, s, c, h1, h2, h3⟩ => ⟨ds, s, c, by rw [e1]; exact h1, by rw [e2]; exact h2, h3⟩
  there := fun H a b ⟨ds, s, c, h1, h2, _⟩ => ⟨by rw [h1]; exact Option.some_ne_none _, by rw [h2]; exact Option.some_ne_none _⟩
/-- what stands is kept but for sources of draws, whose shape is kept -/
structure ShA (a b : Addr) (H H' : Hp) : Prop where
  keep : ∀ c o, c ≠ a → c ≠ b → H c = some o → H' c = some o
  src : ∃ (ds : List Int) (s c : Int), H' a = some (.lst [.ref b, .int s, .int c]) ∧ H' b = some (.lst (ds.map V.int)) ∧ ds.length ≤ 63
theorem ints_ref {ds : List Int} {b : Addr} {x y : V} (h : ds.map V.int = [.ref b, x, y]) : False := by
  cases ds with
  | nil => cases h
  | cons d ds => simp at h
theorem ShA.ne {a b : Addr} {H H' : Hp} (s : ShA a b H H') : a ≠ b := by
  obtain ⟨ds, st, c, h1, h2, _⟩ := s.src
  intro e
  rw [e, h2] at h1
  exact ints_ref (HO.lst.inj (Option.some.inj h1))
theorem ShA.tok {a b : Addr} {H H' : Hp} (h0 : tokA.ok H a b) (s : ShA a b H H') {p : Addr × Addr} (h : tokA.ok H p.1 p.2) : tokA.ok H' p.1 p.2 := by
  obtain ⟨ds, st, c, h1, h2, h3⟩ := h0
  obtain ⟨ds', st', c', g1, g2, g3⟩ := s.src
  obtain ⟨es, su, cu, k1, k2, k3⟩ := h
  by_cases e1 : p.1 = a
  · have e2 : p.2 = b := by
      rw [e1, h1] at k1
      injection k1 with k1; injection k1 with k1; injection k1 with k1 _; injection k1 with k1
      exact k1.symm
    rw [e1, e2]
    exact ⟨ds', st', c', g1, g2, g3⟩
  · have n1 : p.1 ≠ b := fun z => by
      rw [z, h2] at k1
      exact ints_ref (HO.lst.inj (Option.some.inj k1))
    have k1' := s.keep _ _ e1 n1 k1
    have n2 : p.2 ≠ a := fun z => by
      rw [z, h1] at k2
      exact ints_ref (HO.lst.inj (Option.some.inj k2)).symm
    by_cases e3 : p.2 = b
    · exact ⟨ds', su, cu, k1', by rw [e3]; exact g2, g3⟩
    · exact ⟨es, su, cu, k1', s.keep _ _ n2 e3 k2, k3⟩
theorem ShA.ret {K : PySem.W.Frag} {H H' : Hp} {O : Addr → Prop} {T : Tks} {a b : Addr} (s : ShA a b H H') (hd : ∀ a, O a → H a ≠ none) (ht : ∀ p ∈ T, O p.1 ∧ O p.2 ∧ tokA.ok H p.1 p.2) (hab : (a, b) ∈ T) {v : V} {x : D} (r : Rep K O T H x v) (hx : flatD x = some v) : RetOk tokA K ⟨H, O, T⟩ v H' x := by
  have oab := ht _ hab
  have kp : ∀ c, H c ≠ none → H' c ≠ none := fun c hc => by
    by_cases e : c = a
    · obtain ⟨_, _, _, g1, _⟩ := s.src
      rw [e, g1]; exact Option.some_ne_none _
    · by_cases e2 : c = b
      · obtain ⟨_, _, _, _, g2, _⟩ := s.src
        rw [e2, g2]; exact Option.some_ne_none _
      · cases q : H c with
        | none => exact absurd q hc
        | some o => rw [s.keep c o e e2 q]; exact Option.some_ne_none _
  refine ⟨[], [], [], O, T, DIx.add (x := x) (v := v) ?_ (Rep.flat hx)⟩
  refine { fx := True.intro, len := rfl, ext := fun c o e f => s.keep c o (f _ hab).1 (f _ hab).2 e, keep := kp, up := fun a e => e, fdom := hd, dom := fun c z => kp c (hd c z), new := fun a e => .inl e, sub := fun p hp => hp, tnew := fun p hp => .inl hp, tok := fun p hp => ⟨(ht p hp).1, (ht p hp).2.1, s.tok oab.2.2 (ht p hp).2.2⟩, sl := fun i s e => by simp at e, pe := fun p hp => by simp at hp, ss := fun i j s t v n e => by simp at e, sp := fun i s v e => by simp at e, pp := List.Pairwise.nil }

/-- xs[i], i from 0 on, for xs[i] op= e -/
def rGetL (K : PySem.W.Frag) : V → V → Hp → VK → Prop := fun x y H Q => ∃ p xs, ∃ (i : Nat), ∃ v, x = .ref p ∧ y = .int (i : Int) ∧ i < 2 ^ 60 ∧ SqL K H p xs ∧ xs[i]? = some v ∧ Q v H
theorem get_lst {X : Cx} : PGet X (rGetL X.K) := by
  rintro pins s σ H o i ov iv Q I r1 r2 ⟨p, xs, j, v, rfl, rfl, hj, hq, hv, q⟩
  obtain rfl : ov = Value.ref p := r1
  obtain ⟨t, rfl⟩ := r2
  obtain ⟨its, rv, pl, hz⟩ := I.list hq
  obtain ⟨u, hu, ru⟩ := rv.get hv
  exact wpAny_getItem_list pl.isList (by omega) (by omega) (x := u) (by simpa using hu) ⟨v, H, I, ru, q⟩

/-- a draw: any number below the bound -/
def cDraw (xs : List D) (Q : D → Prop) : Prop := match xs with
  | [.tok _ _, .int n] => (0 < n ∧ n < 2 ^ 64) ∧ ∀ r : Int, 0 ≤ r → r < n → Q (.int r)
  | _ => False
theorem log2_lt64 {n : Int} (h0 : 0 < n) (h : n < 2 ^ 64) : n.natAbs.log2 < 9000 := by
  have e : n.natAbs < 2 ^ 64 := by omega
  have : n.natAbs.log2 < 64 := (Nat.log2_lt (by omega)).mpr e
  omega
section
variable {P : Program} {w : World} {K : PySem.W.Frag} {mg : Str → Option Value} {base : Heap}
/-- the source as it stands within a draw -/
def SrcA (a b : Addr) (ds : List Int) (s c : Int) (H : Hp) : Prop := H a = some (.lst [.ref b, .int s, .int c]) ∧ H b = some (.lst (ds.map V.int)) ∧ ds.length ≤ 63
theorem SrcA.new {a b : Addr} {ds : List Int} {s c : Int} {H : Hp} (h : SrcA a b ds s c H) {p : Addr} {o : HO} (hp : H p = none) : SrcA a b ds s c (upd H p o) :=
  ⟨by rw [upd_ne (ne_of_none h.1 hp)]; exact h.1, by rw [upd_ne (ne_of_none h.2.1 hp)]; exact h.2.1, h.2.2⟩
theorem SrcA.neq {a b : Addr} {ds : List Int} {s c : Int} {H : Hp} (h : SrcA a b ds s c H) : a ≠ b := fun e => by
  have h1 := h.1
  rw [e, h.2.1] at h1
  exact ints_ref (HO.lst.inj (Option.some.inj h1))
theorem last_ints {ds : List Int} (h : ds ≠ []) : ∃ es z, ds = es ++ [z] ∧ L2.atI (ds.map V.int) (-1) = some (.int z) ∧ (ds.map V.int)[(ds.map V.int).length - 1]? = some (.int z) ∧ (ds.map V.int).dropLast = es.map V.int := by
  refine ⟨ds.dropLast, ds.getLast h, (List.dropLast_concat_getLast h).symm, ?_, ?_, ?_⟩
  · have e := List.dropLast_concat_getLast h
    have : ds.map V.int = ds.dropLast.map V.int ++ [V.int (ds.getLast h)] := by
      conv => lhs; rw [← e]
      rw [List.map_append]; rfl
    rw [this]
    exact atI_last _ _
  · have e := List.dropLast_concat_getLast h
    have : ds.map V.int = ds.dropLast.map V.int ++ [V.int (ds.getLast h)] := by
      conv => lhs; rw [← e]
      rw [List.map_append]; rfl
    rw [this]
    simp
  · rw [List.map_dropLast]
end
section
variable {X : Cx} {e1 e2 e3 : Expr} {t1 : DTA} {t2 t3 : DTE} {pos : Pos}
/-- a new source -/
def dTokA (t1 : DTA) (t2 t3 : DTE) (d : DS) (Q : D → DS → Prop) : Prop := t1 d fun xs d1 => t2 d1 fun y d2 => t3 d2 fun z d3 => match y, z with
  | .int _, .int _ => (∃ ns : List Int, xs = ns.map D.int ∧ ns.length ≤ 63) ∧ ∀ a b, Q (.tok a b) d3
  | _, _ => False
theorem de_tokA (h1 : DF tokA X e1 t1) (h2 : DE tokA X e2 t2) (h3 : DE tokA X e3 t3)
    (hs1 : starEach [e1, e2, e3] X.env = (false, eval e1 X.env) :: starEach [e2, e3] X.env := by rfl) (hs2 : starEach [e2, e3] X.env = (false, eval e2 X.env) :: starEach [e3] X.env := by rfl) (hs3 : starEach [e3] X.env = (false, eval e3 X.env) :: starEach [] X.env := by rfl) : DE tokA X (.List [e1, e2, e3] pos) (dTokA t1 t2 t3) := by
  refine pe_imp (pe_lst (pa_cons h1 (pa_cons h2 (pa_cons h3 pa_nil hs3) hs2) hs1)) ?_
  rintro σ H k ⟨F, pn, d, Q, I, q, c⟩
  refine upF_at I q fun v H1 xs d1 I1 q1 => upE_at I1 q1 fun w H2 y d2 I2 q2 => upE_at I2 q2 fun u H3 z d3 I3 q3 => ?_
  split at q3
  · rename_i i j
    obtain ⟨⟨ns, rfl, hl⟩, q3⟩ := q3
    obtain ⟨O, T, I3⟩ := I3
    obtain ⟨b, vs, eb, ob, nb, fb, hb, rb⟩ := I3.pe (v, .ow (ns.map D.int)) (by simp)
    obtain rfl : v = .ref b := eb
    have ry : w = .int i := I3.pe (w, .sh (.int i)) (by simp)
    have rz : u = .int j := I3.pe (u, .sh (.int j)) (by simp)
    subst ry
    subst rz
    obtain rfl : vs = ns.map V.int := rb.ints
    refine ⟨by show 3 ≤ sizeLine; decide, fun p hp => ?_⟩
    have I4 := (I3.drop (pn' := (.ref b, .ow (ns.map D.int)) :: pn) (by simp)).own (o := .lst [.ref b, .int i, .int j]) hp
    have bp : b ≠ p := ne_of_none hb hp
    have hb' : upd H3 p (.lst [.ref b, .int i, .int j]) b = some (.lst (ns.map V.int)) := by rw [upd_ne bp]; exact hb
    refine c (.ref p) _ (.tok p b) d3 ⟨fun a => O a ∨ a = p, (p, b) :: T, DIx.add ?_ ⟨rfl, List.mem_cons_self⟩⟩ (q3 p b)
    have off : ∀ a, offT T a → (∀ o, H3 a = some o → a ≠ b → True) → a ≠ p → a ≠ b → offT ((p, b) :: T) a := fun a f _ n1 n2 r hr => by
      rcases List.mem_cons.mp hr with e | hr
      · subst e; exact ⟨n1, n2⟩
      · exact f r hr
    have mv : ∀ {s : SV} {x : V}, RepS X.K F (fun a => O a ∨ a = p) T (upd H3 p (.lst [.ref b, .int i, .int j])) s x → (s.own = true → x ≠ .ref p ∧ x ≠ .ref b) → RepS X.K F (fun a => O a ∨ a = p) ((p, b) :: T) (upd H3 p (.lst [.ref b, .int i, .int j])) s x := fun {s x} r hw =>
      r.mono (fun _ _ e _ => e) (fun _ z => .inl z) (fun _ z => List.mem_cons_of_mem _ z) fun w a e => by
        obtain ⟨a', e', oa, _, fa, _⟩ := r.ownAt w
        have q : a = a' := V.ref.inj (e.symm.trans e')
        subst q
        exact ⟨rfl, oa, off a fa (fun _ _ _ => trivial) (fun z => (hw w).1 (by rw [e, z])) fun z => (hw w).2 (by rw [e, z])⟩
    have nop : ∀ {s : SV} {x : V}, RepS X.K F O T H3 s x → s.own = true → x ≠ .ref p := fun {s x} r w e => by
      obtain ⟨a', e', _, _, _, na⟩ := r.ownAt w
      have z : a' = p := V.ref.inj (e'.symm.trans e)
      exact na (by rw [z]; exact hp)
    have J := I4.drop (pn' := pn) (by simp)
    refine { J with sub := fun r hr => List.mem_cons_of_mem _ (J.sub r hr), tnew := fun r hr => ?_, tok := fun r hr => ?_, sl := fun n s es => ?_, pe := fun r hr => ?_ }
    · rcases List.mem_cons.mp hr with e | hr
      · subst e; exact .inr ⟨I3.freshF hp, nb⟩
      · exact J.tnew r hr
    · rcases List.mem_cons.mp hr with e | hr
      · subst e; exact ⟨.inr rfl, .inl ob, ns, i, j, upd_same, hb', hl⟩
      · exact J.tok r hr
    · obtain ⟨x, h1, h2⟩ := J.sl n s es
      obtain ⟨x', h1', h2'⟩ := I3.sl n s es
      have ex : x = x' := Option.some.inj (Option.some.inj (h1.symm.trans h1'))
      subst ex
      exact ⟨x, h1, mv h2 fun w => ⟨nop h2' w, fun z => I3.sp n s x es w h1 (.ref b, .ow (ns.map D.int)) (by simp) rfl z.symm⟩⟩
    · refine mv (J.pe r hr) fun w => ⟨nop (I3.pe r (by simp [hr])) w, fun z => ?_⟩
      exact (List.pairwise_cons.mp (I3.drop (pn' := (.ref b, .ow (ns.map D.int)) :: pn) (by simp)).pp).1 r hr rfl w z.symm
  · exact q3.elim
/-- an item of some, drawn -/
def cPick (xs : List D) (Q : D → Prop) : Prop := match xs with
  | [.tok _ _, .tup ys] => (0 < ys.length ∧ ys.length < 2 ^ 60) ∧ ∀ y ∈ ys, Q y
  | [.tok _ _, .lst ys] => (0 < ys.length ∧ ys.length < 2 ^ 60) ∧ ∀ y ∈ ys, Q y
  | _ => False
theorem atI_draw {ys : List D} {r : Int} (h0 : 0 ≤ r) (h : r < (ys.length : Int)) : ∃ y, y ∈ ys ∧ L2.atI ys r = some y := by
  obtain ⟨j, rfl⟩ : ∃ j : Nat, r = (j : Int) := ⟨r.toNat, by omega⟩
  have hj : j < ys.length := by omega
  exact ⟨ys[j], List.getElem_mem hj, atI_nat (List.getElem?_eq_getElem hj)⟩
end
end DL
set_option Elab.async false
set_option linter.all false
set_option maxRecDepth 100000
set_option maxHeartbeats 4000000
/-! DL9: defs and classes of the text, chains, the end. -/
namespace DL
open PySem L2

/-- a def of the module as it stands behind the top -/
structure FnT (K : PySem.W.Frag) (mg : Str → Option Value) (x qual : Str) (st : Stmt) (dvs : List V) (f : Addr) (fd : FuncData) : Prop where
  at_ : mg x = some (.ref f)
  fn : FunD K x qual (defArgs st) (defBody st) (defScope st) dvs [] f fd
theorem FnT.mk0 {K : PySem.W.Frag} {mg : Str → Option Value} {x qual : Str} {st : Stmt} {f : Addr} {oc : Value} {od an : Option Addr} {osl : Array (Option Value)} {kV doc pm cdv ct : Value} (m : mg x = some (.ref f)) (l : K.lookup f = some ⟨oc, od, .func (PySem.W.fnOf x qual (defArgs st) (defBody st) (defScope st) .none kV doc pm an cdv ct), osl⟩)
    (c : PySem.W.codeIn K cdv qual = true) (k : PySem.W.keepIn K (.ref f) = true) : FnT K mg x qual st [] f (PySem.W.fnOf x qual (defArgs st) (defBody st) (defScope st) .none kV doc pm an cdv ct) :=
  ⟨m, ⟨⟨oc, od, _, kV, doc, pm, an, cdv, ct, osl, rfl, l, c, .inl ⟨rfl, rfl⟩, .inl rfl⟩, k⟩⟩
theorem FnT.mkD {K : PySem.W.Frag} {mg : Str → Option Value} {x qual : Str} {st : Stmt} {f T : Addr} {oc oc2 : Value} {od od2 an : Option Addr} {osl osl2 : Array (Option Value)} {kV doc pm cdv ct : Value} {dvs : List V} {its : List Value} {n : Nat} (m : mg x = some (.ref f)) (l : K.lookup f = some ⟨oc, od, .func (PySem.W.fnOf x qual (defArgs st) (defBody st) (defScope st) (.ref T) kV doc pm an cdv ct), osl⟩)
    (l2 : K.lookup T = some ⟨oc2, od2, .seq its.toArray n, osl2⟩) (hv : Vals dvs its) (hne : dvs ≠ []) (c : PySem.W.codeIn K cdv qual = true) (k : PySem.W.keepIn K (.ref f) = true) : FnT K mg x qual st dvs f (PySem.W.fnOf x qual (defArgs st) (defBody st) (defScope st) (.ref T) kV doc pm an cdv ct) :=
  ⟨m, ⟨⟨oc, od, _, kV, doc, pm, an, cdv, ct, osl, rfl, l, c, .inr ⟨hne, T, _, its, n, rfl, l2, rfl, hv⟩, .inl rfl⟩, k⟩⟩
/-- a def with defaults, all of its parameters written -/
theorem bindsAll {K : PySem.W.Frag} {x qual : Str} {params : Arguments} {body : List Stmt} {scope : Scope} {dvs : List V} {f : Addr} {fd : FuncData} {ps : List Str} {n j : Nat} (F : FunD K x qual params body scope dvs [] f fd) (hd : dvs ≠ []) (hj : dvs.length - j = 0) (hn : n + (dvs.length - j) = ps.length)
    (h : ∀ (T : Addr) (kV doc pm : Value) (an : Option Addr) (cdv ct : Value) (us its : List Value), us.length = n → its.length = dvs.length →
      ∃ k, bindArgs (PySem.W.fnOf x qual params body scope (.ref T) kV doc pm an cdv ct) ⟨us, []⟩ = seqItems? (.ref T) >>= k ∧ k (some its.toArray) = pure (ps.zip (us ++ its.drop j))) : Binds K fd ps [] := by
  obtain ⟨ds, hv, hb⟩ := F.binds1 n j hd hn h
  have z : ds = [] := by
    have e := hv.length
    rw [List.length_drop, hj] at e
    exact List.eq_nil_of_length_eq_zero e.symm
  rw [z] at hb
  exact hb
/-- what a caller wants of a def: its contract over data -/
structure DFn (tk : Tk) (P : Program) (w : World) (K : PySem.W.Frag) (mg : Str → Option Value) (base : Heap) (x : Str) (lv n : Nat) (ps : List Str) (f : Addr) (fd : FuncData) (c : DSp) : Prop where
  at_ : mg x = some (.ref f)
  kp : PySem.W.keepIn K (.ref f) = true
  ok : FnOk P w K mg base CX0 lv f fd ps (spD tk K n c)
  len : ps.length = n
section
variable {tk : Tk} {P : Program} {w : World} {K : PySem.W.Frag} {mg : Str → Option Value} {base : Heap}
theorem DFn.of (hf : ∀ F, tk.fr F) {x qual : Str} {st : Stmt} {dvs : List V} {f : Addr} {fd : FuncData} {N ps : List Str} {k n : Nat} {c : DSp} {t : DTS} (F : FnT K mg x qual st dvs f fd) (S : FnScope N ps (defScope st)) (hn : ps.length = n)
    (hb : ∀ (cdv : Value) (A : Around) (outer : List Env) (s : Shared) (H : Hp) (E : XK), Room k (A.deeper (PyProof.Rows.envOfC qual (defScope st) s.heap.objs.size f cdv)) → DSs tk (cxOf CX0 P w K mg base N qual (defScope st) f cdv A outer s H E).nox (defBody st) t)
    (hc : ∀ xs Q, xs.length = n → c xs Q → t ⟨fun _ => Q .non, Q, fun _ => False, fun _ => False⟩ (startD N (xs.map SV.sh))) : DFn tk P w K mg base x (k + 1) n ps f fd c := by
  subst hn
  exact ⟨F.at_, F.fn.kp, fn_D hf F.fn S hb hc, rfl⟩
theorem DFn.mono {x : Str} {j k n : Nat} {ps : List Str} {f : Addr} {fd : FuncData} {c : DSp} (F : DFn tk P w K mg base x j n ps f fd c) (h : j ≤ k) : DFn tk P w K mg base x k n ps f fd c := ⟨F.at_, F.kp, F.ok.mono h, F.len⟩
end
section
variable {tk : Tk} {X : Cx} {pos p : Pos} {e : Expr} {es : List Expr} {t : DTA} {x : Str} {k n : Nat} {ps : List Str} {f : Addr} {fd : FuncData} {c : DSp} {dvs : List V} {ds : List Value} {dds : List D}
theorem de_fn (G : DFn tk X.prog X.w X.K X.mg X.base x k n ps f fd c) (hb : Binds X.K fd ps []) (hr : Room k X.A) (ha : DA tk X (e :: es) t) (hg : Gl X x := by rfl) (hdb : (x == ("__debug__" : Str)) = false := by decide) (he : starEach (e :: es) X.env = (false, eval e X.env) :: starEach es X.env := by rfl) (hpl : (backTo pos (starEach es X.env)).any (·.1) = false := by rfl) :
    DE tk X (.Call (.Name x p) (e :: es) [] pos) (dCall n c [] t) := de_callD G.ok hr hg G.at_ G.kp hb .nil rfl G.len ha hdb he hpl
theorem de_fnD (G : DFn tk X.prog X.w X.K X.mg X.base x k n ps f fd c) (hb : Binds X.K fd ps ds) (hd : Vals dvs ds) (hdd : dds.map flatD = dvs.map some) (hr : Room k X.A) (ha : DA tk X (e :: es) t) (hg : Gl X x := by rfl) (hdb : (x == ("__debug__" : Str)) = false := by decide) (he : starEach (e :: es) X.env = (false, eval e X.env) :: starEach es X.env := by rfl) (hpl : (backTo pos (starEach es X.env)).any (·.1) = false := by rfl) :
    DE tk X (.Call (.Name x p) (e :: es) [] pos) (dCall n c dds t) := de_callD G.ok hr hg G.at_ G.kp hb hd hdd G.len ha hdb he hpl
/-- a class of the text -/
structure ClT (K : PySem.W.Frag) (mg : Str → Option Value) (x qual : Str) (st : Stmt) (dvs : List V) (C f : Addr) (fd : FuncData) : Prop where
  at_ : mg x = some (.ref C)
  cl : Cls K C
  made : Mk K C f
  fn : FunD K "__init__" qual (defArgs st) (defBody st) (defScope st) dvs [] f fd
theorem ClT.mk0 {K : PySem.W.Frag} {mg : Str → Option Value} {x qual : Str} {st : Stmt} {C f : Addr} {oc : Value} {od an : Option Addr} {osl : Array (Option Value)} {kV doc pm cdv ct : Value} (m : mg x = some (.ref C)) (pg : PySem.W.plainGet K C Str.empty = true) (hd : PySem.W.hasDictIn K C = true) (po : PySem.W.plainOver K C = true) (sa : PySem.W.findIn K (.ref C) "__setattr__" = some (some (.builtin "object.__setattr__")))
    (mk : PySem.W.makesIn K C = true) (a : PySem.W.findIn K (.ref C) "__init__" = some (some (.ref f))) (i : PySem.W.isFn K (.ref f) = true) (kc : PySem.W.keepIn K (.ref C) = true) (l : K.lookup f = some ⟨oc, od, .func (PySem.W.fnOf "__init__" qual (defArgs st) (defBody st) (defScope st) .none kV doc pm an cdv ct), osl⟩)
    (c : PySem.W.codeIn K cdv qual = true) (k : PySem.W.keepIn K (.ref f) = true) : ClT K mg x qual st [] C f (PySem.W.fnOf "__init__" qual (defArgs st) (defBody st) (defScope st) .none kV doc pm an cdv ct) :=
  ⟨m, ⟨pg, hd, po, sa⟩, ⟨mk, a, i, kc⟩, ⟨⟨oc, od, _, kV, doc, pm, an, cdv, ct, osl, rfl, l, c, .inl ⟨rfl, rfl⟩, .inl rfl⟩, k⟩⟩
structure DCl (tk : Tk) (P : Program) (w : World) (K : PySem.W.Frag) (mg : Str → Option Value) (base : Heap) (x : Str) (lv n : Nat) (ps : List Str) (C f : Addr) (fd : FuncData) (c : DMk) : Prop where
  at_ : mg x = some (.ref C)
  made : Mk K C f
  ok : FnOk P w K mg base CX0 lv f fd ps (spI tk K C n c)
theorem DCl.of {tk : Tk} (hf : ∀ F, tk.fr F) {P : Program} {w : World} {K : PySem.W.Frag} {mg : Str → Option Value} {base : Heap} {x qual : Str} {st : Stmt} {dvs : List V} {f C : Addr} {fd : FuncData} {N ps : List Str} {k n : Nat} {c : DMk} {t : DTS} (F : ClT K mg x qual st dvs C f fd) (S : FnScope N ps (defScope st)) (hn : ps.length = n + 1)
    (hb : ∀ (cdv : Value) (A : Around) (outer : List Env) (s : Shared) (H : Hp) (E : XK), Room k (A.deeper (PyProof.Rows.envOfC qual (defScope st) s.heap.objs.size f cdv)) → DSs tk (cxOf CX0 P w K mg base N qual (defScope st) f cdv A outer s H E).nox (defBody st) t)
    (hc : ∀ (y : Addr) xs Q, xs.length = n → c xs Q → t ⟨fun d => ∃ fs, d[0]? = some (some (.ob y C fs)) ∧ Q fs, fun _ => False, fun _ => False, fun _ => False⟩ (startD N (.ob y C [] :: xs.map SV.sh))) : DCl tk P w K mg base x (k + 1) n ps C f fd c :=
  ⟨F.at_, F.made, fn_I hf F.fn S hn hb hc⟩
theorem de_cl {C : Addr} {c : DMk} (G : DCl tk X.prog X.w X.K X.mg X.base x k n ps C f fd c) (hb : Binds X.K fd ps []) (hr : Room (k + 1) X.A) (ha : DA tk X (e :: es) t) (hg : Gl X x := by rfl) (hdb : (x == ("__debug__" : Str)) = false := by decide) (he : starEach (e :: es) X.env = (false, eval e X.env) :: starEach es X.env := by rfl) (hpl : (backTo pos (starEach es X.env)).any (·.1) = false := by rfl) :
    DE tk X (.Call (.Name x p) (e :: es) [] pos) (dMake n C c [] t) := de_make (CX := CX0) G.made G.ok hr hg G.at_ hb .nil rfl ha hdb he hpl
end

/-! ### a < b < c -/
section
variable {tk : Tk} {X : Cx} {pos : Pos} {a b e : Expr} {ta tb tc : DTE}
def dChain (f g : DR2) (ta tb tc : DTE) (d : DS) (Q : D → DS → Prop) : Prop := ta d fun x d1 => tb d1 fun y d2 => f x y fun z => match z with
  | .bl k => if k = true then tc d2 fun u d3 => g y u fun z' => Q z' d3 else Q (.bl false) d2
  | _ => False
theorem tChain_D {r r' : R2} {f g : DR2} (hf : OpD tk X.K r f) (hg : OpD tk X.K r' g) : ∀ σ H k, upE tk X.K (dChain f g ta tb tc) σ H k → tChain r r' (upE tk X.K ta) (upE tk X.K tb) (upE tk X.K tc) σ H k := by
  rintro σ H k ⟨F, pn, d, Q, I, q, c⟩
  refine upE_at I q fun v H1 x d1 I1 q1 => upE_at I1 q1 fun w H2 y d2 I2 q2 => ?_
  obtain ⟨O, T, I2⟩ := I2
  have r1 : Rep X.K O T H2 x v := I2.pe (v, .sh x) (by simp)
  have r2 : Rep X.K O T H2 y w := I2.pe (w, .sh y) (by simp)
  refine hf F ((w, .sh y) :: pn) σ H2 d2 O T x y v w _ _ (I2.drop (by simp)) r1.r r2.r q2 fun z u H3 I3 q3 => ?_
  obtain ⟨O3, T3, I3⟩ := I3
  have r3 : Rep X.K O3 T3 H3 u z := I3.pe (z, .sh u) (by simp)
  cases u with
  | bl b =>
    refine ⟨b, r3, ?_⟩
    cases b with
    | true =>
      rw [if_pos rfl]
      replace q3 : tc d2 fun u d3 => g y u fun z' => Q z' d3 := q3
      refine upE_at (pn := (w, .sh y) :: pn) ⟨O3, T3, I3.drop (by simp)⟩ q3 fun w' H4 u' d4 I4 q4 => ?_
      obtain ⟨O4, T4, I4⟩ := I4
      have r4 : Rep X.K O4 T4 H4 u' w' := I4.pe (w', .sh u') (by simp)
      have r5 : Rep X.K O4 T4 H4 y w := I4.pe (w, .sh y) (by simp)
      exact hg F pn σ H4 d4 O4 T4 y u' w w' _ k (I4.drop (by simp)) r5.r r4.r q4 fun z u H' J q => c z H' u d4 J q
    | false => exact c _ H3 _ d2 (DI.bl (I3.drop (pn' := pn) (by simp)) false) q3
  | _ => exact q3.elim
theorem de_chain {op op' : CmpOp} {r r' : R2} {f g : DR2} {c : Expr} (ho : OpR X (compareOp op) r) (ho' : OpR X (compareOp op') r') (hf : OpD tk X.K r f) (hg : OpD tk X.K r' g) (ha : DE tk X a ta) (hb : DE tk X b tb) (hc : DE tk X c tc)
    (hm : lastMarks [op, op'] [b, c] = false := by with_unfolding_all rfl) : DE tk X (.Compare a [op, op'] [b, c] pos) (dChain f g ta tb tc) := pe_imp (pe_chain ho ho' ha hb hc hm) (tChain_D hf hg)
theorem dt_chain {op op' : CmpOp} {r r' : R2} {f g : DR2} {c : Expr} (ho : OpR X (compareOp op) r) (ho' : OpR X (compareOp op') r') (hf : OpD tk X.K r f) (hg : OpD tk X.K r' g) (ha : DE tk X a ta) (hb : DE tk X b tb) (hc : DE tk X c tc)
    (hm : lastMarks [op, op'] [b, c] = false := by with_unfolding_all rfl) : DT tk X (.Compare a [op, op'] [b, c] pos) (dTest (dChain f g ta tb tc)) := by
  refine pt_imp (pt_chain ho ho' ha hb hc hm) fun σ H k h => ?_
  obtain ⟨F, pn, d, Q, I, q, c⟩ := h
  refine tChain_D hf hg σ H _ ⟨F, pn, d, _, I, q, fun v H1 x d1 I1 q1 => ?_⟩
  obtain ⟨O, T, I1⟩ := I1
  have r1 : Rep X.K O T H1 x v := I1.pe (v, .sh x) (by simp)
  cases x with
  | bl z => exact ⟨z, r1, c z H1 d1 ⟨O, T, I1.drop (by simp)⟩ q1⟩
  | _ => exact q1.elim
end

/-! ### how many items a target takes -/
def GT (g : DTG) : Prop := ∀ (x : D) (d : DS) (R : DS → Prop), g x d R → ∃ d', R d'
def GL (gs : DTGs) (n : Nat) : Prop := ∀ (xs : List D) (d : DS) (R : DS → Prop), gs xs d R → xs.length = n ∧ ∃ d', R d'
theorem gt_nm {i : Nat} : GT (gNm i) := fun x d R h => ⟨_, h⟩
theorem gl_nil : GL gsNil 0 := fun xs d R h => by
  cases xs with
  | nil => exact ⟨rfl, d, h⟩
  | cons x xs => exact h.elim
theorem gl_cons {g : DTG} {gs : DTGs} {n : Nat} (h1 : GT g) (h2 : GL gs n) : GL (gsCons g gs) (n + 1) := fun xs d R h => by
  cases xs with
  | nil => exact h.elim
  | cons x xs =>
    obtain ⟨d', h'⟩ := h1 x d _ h
    obtain ⟨e, d2, q⟩ := h2 xs d' R h'
    exact ⟨by rw [List.length_cons, e], d2, q⟩
theorem gt_tp {gs : DTGs} {n : Nat} (h : GL gs n) : GT (gTp gs) := fun x d R q => by
  cases x with
  | tup xs => exact (h xs d R q).2
  | _ => exact q.elim
theorem GL.len {gs : DTGs} {n : Nat} (h : GL gs n) : ∀ xs d R, gs xs d R → xs.length = n := fun xs d R q => (h xs d R q).1

theorem ifT {b : Bool} {X Y : Prop} (h : b = true) (x : X) : if b = true then X else Y := by rw [if_pos h]; exact x
theorem ifF {b : Bool} {X Y : Prop} (h : b = false) (y : Y) : if b = true then X else Y := by rw [if_neg (by rw [h]; exact Bool.false_ne_true)]; exact y
theorem ifB {b : Bool} {X Y : Prop} (x : b = true → X) (y : b = false → Y) : if b = true then X else Y := by
  cases b with
  | true => exact x rfl
  | false => exact y rfl
/-- one statement, the rest folded -/
theorem sq {t u : DTS} {E : DEn} {d : DS} (h : t { E with nx := u E } d) : sSeq t u E d := h
theorem bl_eq {Q : D → Prop} {a b : Bool} (h : Q (.bl a)) (e : a = b) : Q (.bl b) := e ▸ h
theorem int_eq {Q : D → Prop} {a b : Int} (h : Q (.int a)) (e : a = b) : Q (.int b) := e ▸ h
theorem d_eq {Q : D → Prop} {a b : D} (h : Q a) (e : a = b) : Q b := e ▸ h

/-! ### the law's end -/
/-- the script is handed in, True comes out -/
def cLaw (xs : List D) (Q : D → Prop) : Prop := ∃ ns : List Int, xs = [.frz (ns.map D.int)] ∧ ns.length ≤ 63 ∧ Q (.bl true)
theorem repL_ints {K : PySem.W.Frag} {O : Addr → Prop} {T : Tks} {H : Hp} (ns : List Int) : RepL K O T H (ns.map D.int) (ns.map V.int) := RepL.ofInts ns
theorem law_sp {tk : Tk} {K : PySem.W.Frag} {H : Hp} {a : Addr} {ns : List Int} (hl : ns.length ≤ 63) (ho : Only H) (hs : SqL K H a (ns.map V.int)) {E : XK} : spD tk K 1 cLaw [.ref a] H (fun v _ => v = .bl true) E := by
  refine ⟨rfl, fun _ => False, [], [.frz (ns.map D.int)], fun _ z => z.elim, fun p hp => by simp at hp, ⟨.ref a, [], rfl, ⟨a, ns.map V.int, rfl, ?_, repL_ints ns⟩, rfl⟩, fun x => x = .bl true, ⟨ns, rfl, hl, rfl⟩, fun x v H' e r => ?_⟩
  · rcases hs with (h | ⟨o, h⟩) | h
    · rcases ho a with q | ⟨o, xs, q⟩
      · rw [q] at h; cases h
      · rw [q] at h; cases h
    · exact .inl ⟨fun z => z, o, h⟩
    · exact .inr h
  · subst e
    obtain ⟨pn, σ, d, O, T, J⟩ := r
    exact J.pe (v, .sh (.bl true)) (by simp)
end DL
set_option Elab.async false
set_option linter.all false
set_option maxRecDepth 100000
set_option maxHeartbeats 4000000
/-! DL10: one draw out of a source of family A, walked. -/
namespace DL
open PySem L2

/-- the cells as a draw found them, but for the source's two -/
structure Pz (H0 : Hp) (a b : Addr) (ds : List Int) (s c : Int) (H : Hp) : Prop where
  keep : ∀ e o, e ≠ a → e ≠ b → H0 e = some o → H e = some o
  src : SrcA a b ds s c H
section
variable {K : PySem.W.Frag} {H0 H : Hp} {a b : Addr} {ds : List Int} {s c : Int}
theorem Pz.new (z : Pz H0 a b ds s c H) {p : Addr} {o : HO} (hp : H p = none) : Pz H0 a b ds s c (upd H p o) :=
  ⟨fun e o' n1 n2 h => by
    have h2 := z.keep e o' n1 n2 h
    rw [upd_ne (ne_of_none h2 hp)]; exact h2, z.src.new hp⟩
theorem Pz.setB (z : Pz H0 a b ds s c H) {es : List Int} (hl : es.length ≤ 63) : Pz H0 a b es s c (upd H b (.lst (es.map V.int))) :=
  ⟨fun e o' n1 n2 h => by rw [upd_ne n2]; exact z.keep e o' n1 n2 h, by rw [upd_ne z.src.neq]; exact z.src.1, upd_same, hl⟩
theorem Pz.setA (z : Pz H0 a b ds s c H) {s' c' : Int} : Pz H0 a b ds s' c' (upd H a (.lst [.ref b, .int s', .int c'])) :=
  ⟨fun e o' n1 n2 h => by rw [upd_ne n1]; exact z.keep e o' n1 n2 h, upd_same, by rw [upd_ne z.src.neq.symm]; exact z.src.2.1, z.src.2.2⟩
theorem Pz.sh (z : Pz H0 a b ds s c H) : ShA a b H0 H := ⟨z.keep, ds, s, c, z.src.1, z.src.2.1, z.src.2.2⟩

abbrev tIx (K : PySem.W.Frag) (ta : TE) (z : Int) : TE := tOp (rIx K) ta (tC (.int z))
theorem ix0 {σ : St} {Q : VK} (hσ : σ[0]? = some (some (.ref a))) (z : Pz H0 a b ds s c H) (q : Q (.ref b) H) : tIx K (tVar 0) 0 σ H Q :=
  ⟨.ref a, hσ, .inl ⟨a, _, 0, .ref b, rfl, rfl, SqL.of z.src.1, rfl, q⟩⟩
theorem ix1 {σ : St} {Q : VK} (hσ : σ[0]? = some (some (.ref a))) (z : Pz H0 a b ds s c H) (q : Q (.int s) H) : tIx K (tVar 0) 1 σ H Q :=
  ⟨.ref a, hσ, .inl ⟨a, _, 1, .int s, rfl, rfl, SqL.of z.src.1, rfl, q⟩⟩
theorem ix2 {σ : St} {Q : VK} (hσ : σ[0]? = some (some (.ref a))) (z : Pz H0 a b ds s c H) (q : Q (.int c) H) : tIx K (tVar 0) 2 σ H Q :=
  ⟨.ref a, hσ, .inl ⟨a, _, 2, .int c, rfl, rfl, SqL.of z.src.1, rfl, q⟩⟩
/-- heap[0] != [] -/
abbrev tSome (K : PySem.W.Frag) : TT := tTest (tOp (rNeAll K) (tIx K (tVar 0) 0) (tLst tNil))
theorem some_ok {σ : St} {Q : Bool → Hp → Prop} (hσ : σ[0]? = some (some (.ref a))) (z : Pz H0 a b ds s c H) (q : ∀ H', Pz H0 a b ds s c H' → Q (!ds.isEmpty) H') : tSome K σ H Q := by
  refine ix0 hσ z ⟨Nat.zero_le _, fun p hp => .inr ⟨.list (ds.map PyData.int), .list [], ?_, ?_, shaped_ints ds, shaped_ints [], ⟨_, rfl, ?_⟩⟩⟩
  · exact .lst (SqL.of (z.new hp).src.2.1) (dp_ints ds)
  · exact .lst (SqL.of (upd_same (H := H))) .nil
  · rw [eqv_ints_nil]; exact q _ (z.new hp)
/-- heap[0][-1] == 0 -/
abbrev tLast (K : PySem.W.Frag) : TT := tTest (tOp (rEqAll K) (tOp (rIx K) (tIx K (tVar 0) 0) (tUn (rU fun i => .int (-i)) (tC (.int 1)))) (tC (.int 0)))
theorem last_ok {σ : St} {Q : Bool → Hp → Prop} (hσ : σ[0]? = some (some (.ref a))) (z : Pz H0 a b ds s c H) (hd : ds ≠ []) (q : ∀ k, Q k H) : tLast K σ H Q := by
  obtain ⟨es, x, e1, e2, e3, e4⟩ := last_ints hd
  refine ix0 hσ z ⟨1, rfl, .inl ⟨b, _, -1, .int x, rfl, rfl, SqL.of z.src.2.1, e2, .inl ⟨rfl, _, rfl, q _⟩⟩⟩
/-- heap[0].pop() -/
abbrev tPopB (K : PySem.W.Frag) : TE := tBM0 K "list" (fun x xs H Q => rPop x xs H Q) (tIx K (tVar 0) 0)
theorem pop_ok {σ : St} {Q : VK} (hσ : σ[0]? = some (some (.ref a))) (z : Pz H0 a b ds s c H) (hd : ds ≠ []) (q : ∀ es x H', ds = es ++ [x] → Pz H0 a b es s c H' → Q (.int x) H') : tPopB K σ H Q := by
  obtain ⟨es, x, e1, e2, e3, e4⟩ := last_ints hd
  refine ix0 hσ z ⟨.inl ⟨rfl, _, SqL.of z.src.2.1⟩, b, _, .int x, rfl, rfl, z.src.2.1, e3, ?_⟩
  rw [e4]
  refine q es x _ e1 (z.setB ?_)
  have := z.src.2.2
  rw [e1, List.length_append] at this
  simp at this
  omega
/-- a draw behind its while -/
def tDrawR (K : PySem.W.Frag) (r1 r2 : List V → Hp → VK → Prop) : TS :=
  (tSeq (tIfS (tSome K)
      (tSeq (tAsg (tPopB K) (gName 2))
      (tSeq (tDrop (tBM K "list" rAppend (tIx K (tVar 0) 0) (tCons (tOp (rI CDivW fun i j => .int (i / j)) (tVar 2) (tVar 1)) tNil)))
        (tRet (tOp (rI (fun _ j => 0 < j) fun i j => .int (i % j)) (tCB r1 (tCons (tVar 2) tNil)) (tVar 1)))))
      tNext)
  (tSeq (tAugS (tVar 0) (tC (.int 2)) (tC (.int 1)) (rGetL K) (ipI fun i j => i + j) rSetL)
  (tSeq (tAsg (tOp (rI (fun _ j => 0 < j) fun i j => .int (i % j)) (tCB r1 (tCons (tOp (rI0 fun i j => .int (i + j)) (tOp (rI0 fun i j => .int (i + j)) (tOp (rI CMul fun i j => .int (i * j)) (tIx K (tVar 0) 1) (tC (.int 48271))) (tC (.int 17))) (tIx K (tVar 0) 2)) tNil)) (tC (.int 2147483647)))
      (gSub (tVar 0) (tC (.int 1)) rSetL))
    (tRet (tOp (rI (fun _ j => 0 < j) fun i j => .int (i % j)) (tCB r2 (tCons (tOp (rI CDivW fun i j => .int (i / j)) (tIx K (tVar 0) 1) (tC (.int 32))) tNil)) (tVar 1))))))
abbrev rInt1 : List V → Hp → VK → Prop := fun xs H Q => (∃ i, xs = [.int i] ∧ Q (.int i) H) ∨ ∃ k, xs = [.bl k] ∧ Q (.int (if k then 1 else 0)) H
/-- the whole draw -/
def tDrawA (K : PySem.W.Frag) (r1 r2 : List V → Hp → VK → Prop) : TS := tSeq (tWhile (tAnd (tSome K) (tLast K)) (tDrop (tPopB K))) (tDrawR K r1 r2)
theorem drawR_ok {n : Int} {D : Ends} {x2 : Option V} (hn0 : 0 < n) (hn : n < 2 ^ 64) (q : ∀ (r : Int) ds s c H', 0 ≤ r → r < n → Pz H0 a b ds s c H' → D.rt (.int r) H') (z : Pz H0 a b ds s c H) :
    tDrawR K rInt1 rInt1 D [some (.ref a), some (.int n), x2] H := by
  dsimp only [tDrawR, tSeq, tIfS]
  refine some_ok rfl z fun H1 z1 => ?_
  by_cases e : ds = []
  · subst e
    rw [if_neg (by decide)]
    dsimp only [tNext, tSeq, gName, tAugS, List.set_cons_zero, List.set_cons_succ]
    refine ⟨.ref a, rfl, a, _, 2, .int c, rfl, rfl, by decide, SqL.of z1.src.1, rfl, c, 1, rfl, rfl, a, _, 2, 2, rfl, rfl, z1.src.1, rfl, ?_⟩
    have z2 := z1.setA (s' := s) (c' := c + 1)
    dsimp only [tNext, tSeq, gName, tAsg, List.set_cons_zero, List.set_cons_succ]
    refine ix1 rfl z2 ⟨s, 48271, rfl, rfl, .inr ⟨by decide, by decide⟩, _, 17, rfl, rfl, ?_⟩
    refine ix2 rfl z2 ⟨_, _, rfl, rfl, .inl ⟨_, rfl, _, 2147483647, rfl, rfl, by show (0 : Int) < 2147483647; decide, ?_⟩⟩
    refine ⟨.ref a, rfl, a, _, 1, 1, rfl, rfl, z2.src.1, rfl, ?_⟩
    have z3 := z2.setA (s' := (s * 48271 + 17 + (c + 1)) % 2147483647) (c' := c + 1)
    dsimp only [tNext, tSeq, gName, tRet, List.set_cons_zero, List.set_cons_succ]
    refine ix1 rfl z3 ⟨_, 32, rfl, rfl, ⟨by decide, by decide +kernel⟩, .inl ⟨_, rfl, .int n, rfl, _, n, rfl, rfl, hn0, ?_⟩⟩
    exact q _ _ _ _ _ (Int.emod_nonneg _ (by omega)) (Int.emod_lt_of_pos _ hn0) z3
  · have e' : (!ds.isEmpty) = true := by
      cases ds with
      | nil => exact absurd rfl e
      | cons d ds => rfl
    rw [if_pos e']
    dsimp only [tNext, tSeq, gName, tAsg, List.set_cons_zero, List.set_cons_succ]
    refine pop_ok rfl z1 e fun es x H2 e3 z2 => ?_
    dsimp only [tNext, tSeq, gName, tDrop, List.set_cons_zero, List.set_cons_succ]
    refine ix0 rfl z2 ⟨.inl ⟨rfl, _, SqL.of z2.src.2.1⟩, .int x, rfl, .int n, rfl, x, n, rfl, rfl, ⟨hn0, log2_lt64 hn0 hn⟩, b, _, .int (x / n), rfl, rfl, z2.src.2.1, ?_, ?_⟩
    · have := z2.src.2.2
      rw [List.length_map]
      exact Nat.lt_of_le_of_lt this (by decide)
    · have l1 := z1.src.2.2
      rw [e3, List.length_append] at l1
      have z3 := z2.setB (es := es ++ [x / n]) (by rw [List.length_append]; exact l1)
      rw [List.map_append] at z3
      dsimp only [tNext, tSeq, gName, tRet, List.set_cons_zero, List.set_cons_succ]
      refine ⟨.int x, rfl, .inl ⟨x, rfl, .int n, rfl, x, n, rfl, rfl, hn0, ?_⟩⟩
      exact q _ _ _ _ _ (Int.emod_nonneg _ (by omega)) (Int.emod_lt_of_pos _ hn0) z3
theorem drawA_ok {n : Int} {D : Ends} {x2 : Option V} (hn0 : 0 < n) (hn : n < 2 ^ 64) (z : Pz H0 a b ds s c H) (q : ∀ (r : Int) ds s c H', 0 ≤ r → r < n → Pz H0 a b ds s c H' → D.rt (.int r) H') :
    tDrawA K rInt1 rInt1 D [some (.ref a), some (.int n), x2] H := by
  unfold tDrawA tSeq tWhile
  refine ⟨fun m σ H => σ = [some (.ref a), some (.int n), x2] ∧ ∃ ds s c, m = ds.length ∧ Pz H0 a b ds s c H, ⟨_, rfl, ds, s, c, rfl, z⟩, ?_⟩
  clear z
  rintro m σ H ⟨rfl, ds, s, c, rfl, z⟩
  unfold tAnd
  refine some_ok rfl z fun H1 z1 => ?_
  by_cases e : ds = []
  · subst e
    exact drawR_ok hn0 hn q z1
  · have e' : (!ds.isEmpty) = true := by
      cases ds with
      | nil => exact absurd rfl e
      | cons d ds => rfl
    rw [if_pos e']
    refine last_ok rfl z1 e fun k => ?_
    cases k with
    | false => exact drawR_ok hn0 hn q z1
    | true =>
      rw [if_pos rfl]
      refine ⟨fun σ H => σ = [some (.ref a), some (.int n), x2] ∧ ∃ ds' s c, ds'.length < ds.length ∧ Pz H0 a b ds' s c H, fun σ' H' ⟨h1, ds', s', c', h2, h3⟩ => ⟨_, h2, h1, ds', s', c', rfl, h3⟩, ?_⟩
      refine pop_ok rfl z1 e fun es x H2 e3 z2 => ⟨rfl, es, s, c, ?_, z2⟩
      rw [e3, List.length_append]
      exact Nat.lt_succ_self _
/-- the def's promise out of its walk -/
theorem drawA_sp {vs : List V} {H : Hp} {Q : VK} {E : XK} {nx bk ct : St → Hp → Prop} (h : spD tokA K 2 cDraw vs H Q E) : tDrawA K rInt1 rInt1 ⟨nx, Q, bk, ct⟩ (start ["heap", "many", "rest"] vs) H := by
  obtain ⟨hl, O, T, xs, hd, ht, rl, Qd, q, ret⟩ := h
  unfold cDraw at q
  split at q
  · rename_i a b n
    obtain ⟨⟨n0, n1⟩, q⟩ := q
    obtain ⟨v, r, rfl, hv, hr⟩ := rl
    obtain ⟨w, r', rfl, hw, hr'⟩ := hr
    obtain rfl : r' = [] := hr'
    obtain ⟨rfl, hab⟩ := hv
    obtain rfl : w = .int n := hw
    obtain ⟨oa, ob, ds, s, c, h1, h2, h3⟩ := ht _ hab
    refine drawA_ok (a := a) (b := b) (H0 := H) (ds := ds) (s := s) (c := c) (x2 := none) n0 n1 ⟨fun _ _ _ _ e => e, h1, h2, h3⟩ fun r ds s c H' r0 r1 z => ?_
    exact ret (.int r) _ H' (q r r0 r1) (z.sh.ret hd ht hab rfl rfl)
  · exact q.elim
end
/-- a def whose contract nothing meets -/
theorem DFn.never {tk : Tk} {P : Program} {w : World} {K : PySem.W.Frag} {mg : Str → Option Value} {base : Heap} {x qual : Str} {st : Stmt} {dvs : List V} {f : Addr} {fd : FuncData} {n : Nat} {ps : List Str} {c : DSp} (F : FnT K mg x qual st dvs f fd) (hn : ps.length = n) (hc : ∀ xs Q, ¬ c xs Q) : DFn tk P w K mg base x 0 n ps f fd c := by
  refine ⟨F.at_, F.fn.kp, ⟨fun vs H Q E h => ?_, fun A outer s H args us vs Q E _ _ _ _ h => ?_⟩, hn⟩
  · obtain ⟨_, O, T, xs, _, _, _, Qd, q, _⟩ := h
    exact (hc _ _ q).elim
  · obtain ⟨_, O, T, xs, _, _, _, Qd, q, _⟩ := h
    exact (hc _ _ q).elim
/-- plain data, as deep as j -/
def plainD : Nat → D → Bool
  | 0, _ => false
  | _ + 1, .non => true
  | _ + 1, .bl _ => true
  | _ + 1, .int _ => true
  | _ + 1, .str _ => true
  | j + 1, .tup xs => decide (xs.length < 1000) && xs.all (plainD j)
  | _ + 1, _ => false
/-- _law_like told the same thing twice -/
def c_like (j : Nat) (xs : List D) (Q : D → Prop) : Prop := match j with
  | 0 => False
  | j + 1 => ∃ x, xs = [x, x] ∧ plainD (j + 1) x = true ∧ Q (.bl true)
theorem ints_drop {α : Type} {β : Type} {f : α → β} (ns : List α) (n : Nat) : (ns.map f).take n = (ns.take n).map f := List.map_take.symm
theorem int_of_cut {ns : List Int} {lo hi : Option Int} : ∃ ms : List Int, cutD (ns.map D.int) lo hi = ms.map D.int ∧ ms.length ≤ ns.length := by
  unfold cutD
  refine ⟨(ns.drop (HT.sIx (ns.map D.int).length 0 lo)).take (HT.sIx (ns.map D.int).length (ns.map D.int).length hi - HT.sIx (ns.map D.int).length 0 lo), ?_, ?_⟩
  · rw [List.map_take, List.map_drop]
  · rw [List.length_take, List.length_drop]; omega
section
variable {tk : Tk} {X : Cx} {pos : Pos} {a : Expr} {ta : DTE}
theorem dt_isN {j pos'} (ha : DE tk X a ta) : DT tk X (.Compare a [.Is] [.Constant .none j pos'] pos) (dTest (dIsN ta)) := by
  refine pt_imp (pt_cmp (pc_isN ha) rfl) ?_
  rintro σ H k ⟨F, pn, d, Q, I, q, c⟩
  refine upE_at I q fun v H1 x d1 I1 q1 => ?_
  obtain ⟨O, T, I1⟩ := I1
  have r1 : Rep X.K O T H1 x v := I1.pe (v, .sh x) (by simp)
  exact ⟨_, rfl, by rw [r1.isN]; exact c _ H1 d1 ⟨O, T, I1.drop (by simp)⟩ q1⟩
theorem dt_notN {j pos'} (ha : DE tk X a ta) : DT tk X (.Compare a [.IsNot] [.Constant .none j pos'] pos) (dTest (dNotN ta)) := by
  refine pt_imp (pt_cmp (pc_notN ha) rfl) ?_
  rintro σ H k ⟨F, pn, d, Q, I, q, c⟩
  refine upE_at I q fun v H1 x d1 I1 q1 => ?_
  obtain ⟨O, T, I1⟩ := I1
  have r1 : Rep X.K O T H1 x v := I1.pe (v, .sh x) (by simp)
  exact ⟨_, rfl, by rw [r1.isN]; exact c _ H1 d1 ⟨O, T, I1.drop (by simp)⟩ q1⟩
end
theorem isa_NoneType_int : isaB "NoneType" "int" = some false := rfl
theorem isa_NoneType_bool : isaB "NoneType" "bool" = some false := rfl
theorem isa_NoneType_str : isaB "NoneType" "str" = some false := rfl
theorem isa_NoneType_tuple : isaB "NoneType" "tuple" = some false := rfl
theorem isa_NoneType_list : isaB "NoneType" "list" = some false := rfl
theorem isa_bool_int : isaB "bool" "int" = some true := rfl
theorem isa_bool_bool : isaB "bool" "bool" = some true := rfl
theorem isa_bool_str : isaB "bool" "str" = some false := rfl
theorem isa_bool_tuple : isaB "bool" "tuple" = some false := rfl
theorem isa_bool_list : isaB "bool" "list" = some false := rfl
theorem isa_int_int : isaB "int" "int" = some true := rfl
theorem isa_int_bool : isaB "int" "bool" = some false := rfl
theorem isa_int_str : isaB "int" "str" = some false := rfl
theorem isa_int_tuple : isaB "int" "tuple" = some false := rfl
theorem isa_int_list : isaB "int" "list" = some false := rfl
theorem isa_str_int : isaB "str" "int" = some false := rfl
theorem isa_str_bool : isaB "str" "bool" = some false := rfl
theorem isa_str_str : isaB "str" "str" = some true := rfl
theorem isa_str_tuple : isaB "str" "tuple" = some false := rfl
theorem isa_str_list : isaB "str" "list" = some false := rfl
theorem isa_tuple_int : isaB "tuple" "int" = some false := rfl
theorem isa_tuple_bool : isaB "tuple" "bool" = some false := rfl
theorem isa_tuple_str : isaB "tuple" "str" = some false := rfl
theorem isa_tuple_tuple : isaB "tuple" "tuple" = some true := rfl
theorem isa_tuple_list : isaB "tuple" "list" = some false := rfl
theorem isa_list_int : isaB "list" "int" = some false := rfl
theorem isa_list_bool : isaB "list" "bool" = some false := rfl
theorem isa_list_str : isaB "list" "str" = some false := rfl
theorem isa_list_tuple : isaB "list" "tuple" = some false := rfl
theorem isa_list_list : isaB "list" "list" = some true := rfl
theorem itT {X Y : Prop} : (if true = true then X else Y) = X := rfl
theorem itF {X Y : Prop} : (if false = true then X else Y) = Y := rfl
theorem like_ok {j : Nat} {x : D} {Q : D → Prop} (h : plainD (j + 1) x = true) (q : Q (.bl true)) : c_like (j + 1) [x, x] Q := ⟨x, rfl, h, q⟩
theorem itNT {X Y : Prop} : (if (!true) = true then X else Y) = Y := rfl
theorem itNF {X Y : Prop} : (if (!false) = true then X else Y) = X := rfl
end DL
set_option Elab.async false
set_option linter.all false
set_option maxRecDepth 100000
set_option maxHeartbeats 4000000
/-! DX1: the __init__ of an own error that says super().__init__(at), self.at = at. -/
namespace DL
open PySem PySem.Spec PyProof.Rows L2 NdefX PySem.Calls
structure TPos where
  p0 : Pos
  p1 : Pos
  p2 : Pos
  p3 : Pos
  p4 : Pos
  p5 : Pos
  p6 : Pos
  p7 : Pos
  p8 : Pos
  p9 : Pos
def tSup (p : TPos) : Expr := .Call (.Name "super" p.p0) [] [] p.p1
def tCall (p : TPos) : Expr := .Call (.Attribute (tSup p) "__init__" p.p2) [.Name "at" p.p3] [] p.p4
def tSt1 (p : TPos) : Stmt := .Expr (tCall p) p.p5
def tSt2 (p : TPos) : Stmt := .Assign [.Attribute (.Name "self" p.p6) "at" p.p7] (.Name "at" p.p8) p.p9
def tNF (name qual : Str) (params : Arguments) (scope : Scope) (cc cda : Addr) (p : TPos) : NF := ⟨name, qual, params, [tSt1 p, tSt2 p], scope, [("__class__", cc)], cda⟩
/-- what that __init__ promises -/
def spTown (C : Addr) : Sp := fun vs H Q _ => ∃ a v, vs = [.ref a, v] ∧ H a = some (exo a C none) ∧ ∀ dx, H dx = none → dx ≠ a → Q .non (upd (upd H dx (exd dx [("at", v)])) a (exo a C (some dx)))
structure TownF (P : Program) (K : PySem.W.Frag) (mg : Str → Option Value) (C D fI cda cc : Addr) (fd : FuncData) (name qual : Str) (params : Arguments) (body : List Stmt) (scope : Scope) : Prop where
  fn : ∃ (kV doc pm ct oc : Value) (an od : Option Addr) (osl : Array (Option Value)), fd = PySem.W.ksFn name qual params body scope .none kV doc pm an (.ref cda) ct cc ∧ K.lookup fI = some ⟨oc, od, .func fd, osl⟩
  bd : ∃ p : TPos, body = [tSt1 p, tSt2 p] ∧ ∃ pl : Sem Bool, ∀ L : Addr, eval (tCall p) (envF (tNF name qual params scope cc cda p) fI L) = (do
      let ov ← attributeBase (tSup p) "__init__" (envF (tNF name qual params scope cc cda p) fI L) (eval (tSup p) (envF (tNF name qual params scope cc cda p) fI L))
      standAt p.p2.atName
      let (f, first) ← holding [ov] (getMethod ov "__init__" pl)
      callWith p.p4 f first (backTo p.p4 (starEach [.Name "at" p.p3] (envF (tNF name qual params scope cc cda p) fI L))) [])
  hcd : PySem.W.codeIn K (.ref cda) qual = true
  S : NScope ["self", "at", "__class__"] ["self", "at"] ["__class__"] scope
  sup : scope.names.lookup ("super" : Str) = some .globalImplicit
  par : ∃ ar : Arg, (params.posonlyargs ++ params.args).head? = some ar ∧ ar.arg = "self"
  code : ∃ (ccl : Value) (cdd : Option Addr) (vs : Array Value) (ccs : Array (Option Value)) (file : Str) (tf : Tok), K.lookup cda = some ⟨ccl, cdd, .fields vs, ccs⟩ ∧ vs[2]? = some (.str file tf) ∧ ((P.main.file : Str) == file) = true
  top : (P.main.scope.names.lookup ("super" : Str)).isSome = false
  cell : ∃ (cl : Value) (cld : Option Addr) (csl : Array (Option Value)), K.lookup cc = some ⟨cl, cld, .cell (some (.ref D)), csl⟩
  hD : ∃ cdD, PySem.W.clsIn K D = some cdD
  sub : PySem.W.mroIn K C (.ref D) = some true
  super : mg "super" = none
  T : OexC K C
  hno : PySem.W.findIn K (.ref C) "at" = some none
  hsup : PySem.W.ks_superIn K C D "__init__" = some (some (.builtin "ValueError.__init__"))
  hany : PySem.W.nsIn K cStatics "thirdparty.any" = some none
  hVE : PySem.W.subIn K (.ref C) (.type "ValueError") = some true
theorem town_init {P : Program} {w : World} {K : PySem.W.Frag} {mg : Str → Option Value} {base : Heap} {CX : CXT} {C D fI cda cc : Addr} {fd : FuncData} {name qual : Str} {params : Arguments} {body : List Stmt} {scope : Scope} {k : Nat}
    (F0 : TownF P K mg C D fI cda cc fd name qual params body scope) : FnOk P w K mg base CX (k + 1) fI fd ["self", "at"] (spTown C) := by
  refine ⟨fun vs H Q E h => ?_, fun A outer s H args us vs Q E hr e0 hb r hsp => ?_⟩
  · obtain ⟨a, v, rfl, _⟩ := h
    rfl
  obtain ⟨a, v, rfl, ea, hq⟩ := hsp
  have KX : K.In s.heap := e0.mod.kin.keeps fun b o e => (e0.bs b o e).1
  have lim : s.heap.NoLimit := e0.mod.nolimit.keeps fun b o e => (e0.bs b o e).1
  obtain ⟨kV, doc, pm, ct, oc, an, od, osl, rfl, lk⟩ := F0.fn
  obtain ⟨p, rfl, pl, heq⟩ := F0.bd
  obtain ⟨ccl, cdd, vs2, ccs, file, tf, hcode, hvs, hfile⟩ := F0.code
  obtain ⟨cl, cld, csl, hcell⟩ := F0.cell
  obtain ⟨cdD, hD⟩ := F0.hD
  obtain ⟨ar, har, hself⟩ := F0.par
  have S := F0.S
  have C0 : CellsAt [("__class__", cc)] ["__class__"] [some (V.ref D)] s.heap H := by
    refine ⟨rfl, fun y c e => ?_, fun x y c e1 e2 => ?_, fun i y e => ?_⟩
    · have : c = cc := by
        unfold List.lookup at e
        split at e
        · exact (Option.some.inj e).symm
        · cases e
      subst this
      exact ⟨(e0.bs _ _ (e0.mod.kin _ _ hcell)).2, _, ⟨_, KX _ _ hcell, rfl⟩⟩
    · unfold List.lookup at e1 e2
      split at e1
      · split at e2
        · rename_i h1 _ h2
          rw [eq_of_beq h1, eq_of_beq h2]
        · cases e2
      · cases e1
    · match i, e with
      | 0, e =>
        obtain rfl : ("__class__" : Str) = y := Option.some.inj e
        refine ⟨cc, rfl, fun v hv => ?_⟩
        obtain rfl : V.ref D = v := Option.some.inj (Option.some.inj hv)
        exact ⟨.ref D, rfl, _, KX _ _ hcell, rfl⟩
  refine codeAny_call_function hr.depth (KX _ _ lk) rfl S.co S.gen rfl (PySem.W.codeRec_of KX F0.hcd) (hb _ _ _ _ ?_)
  refine wpAny_newFunctionEnv S.nocell (fun ⟨n, _⟩ hy => S.par n (List.of_mem_zip hy).1) (fun h₁ hns hsb => ⟨lim.fresh _ hsb, ?_⟩) S.kind
  have kp : ∀ b o, s.heap.get? b = some o → h₁.get? b = some o := fun b o e => hsb.extBut b o (Nat.ne_of_lt (Heap.lt_size e)) (Heap.get?_push_of_some _ e)
  show codeAny _ _ (.func [tSt1 p, tSt2 p] (envF (tNF name qual params scope cc cda p) fI s.heap.objs.size)) _ _
  refine ks_codeAny_funcAt ?_
  have I : Inv (ncx CX P w K mg base ["self", "at", "__class__"] (tNF name qual params scope cc cda p) fI A outer s H E) [] (startF ["self", "at", "__class__"] [.ref a, v] [some (.ref D)]) H { s with heap := h₁, toks := s.toks + ((["self", "at"] : List Str).zip us).length } :=
    inv_startN (F := tNF name qual params scope cc cda p) S hr.hd e0 rfl r C0 hns kp
  have K1 : K.In h₁ := KX.keeps kp
  cases r with
  | @cons _ u0 _ ur ra rw' =>
  obtain rfl : u0 = Value.ref a := ra
  cases rw' with
  | @cons _ u1 _ ur2 rv rn =>
  cases rn
  obtain ⟨oD, hD1, hD2⟩ : ∃ oD, h₁.get? D = some oD ∧ oD.data = .cls cdD := by
    unfold PySem.W.clsIn at hD
    split at hD
    · rename_i c d cd' sl ho
      cases hD
      exact ⟨_, K1 _ _ ho, rfl⟩
    · cases hD
  obtain ⟨t1, hx⟩ := exo_at I.hok ea
  have ia : PySem.W.InstAt h₁ a _ C none := ⟨hx, rfl, rfl, trivial⟩
  obtain ⟨mb, b1, b2⟩ := I.mod.blt
  have fin : ∀ {f : Flow} {s' : Shared}, SP (ncx CX P w K mg base ["self", "at", "__class__"] (tNF name qual params scope cc cda p) fI A outer s H E) [] { nx := fun _ H' => Q .non H', rt := Q } f s' → CR CX outer P w H s Q E (.ok (.ret (match f with | .ret v => v | _ => .none))) s' := by
    intro f s' hs
    have fin : ∀ {σ' : L2.St} {H' : Hp} {v : V} {u : Value}, Inv (ncx CX P w K mg base ["self", "at", "__class__"] (tNF name qual params scope cc cda p) fI A outer s H E) [] σ' H' s' → L2.RelV v u → Q v H' → CE outer P w H s Q u s' :=
      fun {σ' H' v u} J rv q => ⟨v, H', J.os, J.bare, J.base, J.hok, rv, q⟩
    cases f with
    | ret u =>
      obtain ⟨v, σ', H', J, rv, q⟩ := hs
      exact fin J rv q
    | next =>
      obtain ⟨σ', H', J, q⟩ := hs
      exact fin (v := V.non) (u := Value.none) J rfl q
    | brk =>
      obtain ⟨_, _, _, q⟩ := hs
      exact False.elim q
    | cont =>
      obtain ⟨_, _, _, q⟩ := hs
      exact False.elim q
  refine ks_wpAt_execs_cons (ks_wpAt_Expr_any (ks_wpAt_MethodCall (ks_wpAt_super_base (f := fI) (cc := cda) F0.sup (S.frk _ (by simp)) rfl rfl (kp _ _ (KX _ _ lk)) rfl har rfl (kp _ _ (KX _ _ hcode)) rfl hvs hfile F0.top ?_) (heq _)) I.quiet)
  refine PySem.W.ks_loadName_global S.kind F0.sup (loadGlobal_builtin (I.mod.glob.keeps I.bk) F0.super (b1.keeps I.bk) ((b2 "super" (by decide)).trans (by decide +kernel : bootBuiltins "super" = some (.type "super"))) ⟨rfl, ?_⟩)
  refine wpAny_loadName_free S.kind (S.frk _ (by simp)) rfl ⟨_, K1 _ _ hcell, rfl⟩ ?_
  rw [hself]
  refine wpAny_loadName_local S.kind (S.par _ (by simp)) hns rfl ?_
  refine ks_wpAny_isType_cls hD1 hD2 ⟨rfl, ?_⟩
  refine ks_wpAny_call_super hD1 hD2 hx rfl (fun c e => by cases e) (PySem.W.looks_mroIn K1 F0.sub) (fun h' e k => ?_)
  have I1 : Inv _ [] _ H _ := I.kept (t' := s.toks + ((["self", "at"] : List Str).zip [Value.ref a, u1]).length) k
  have K2 : K.In h' := K1.keeps k
  have ia2 : PySem.W.InstAt h' a _ C none := ⟨k _ _ hx, rfl, rfl, trivial⟩
  obtain ⟨nm, q, N, bs, bm, sn, sub, ab, col, dd, k0, k1, k2, k3, k5, hC, hbm⟩ := F0.T.cls
  have hsup := F0.hsup
  cases hc : PySem.W.clsIn K C with
  | none => unfold PySem.W.ks_superIn at hsup; rw [hc] at hsup; cases hsup
  | some cd =>
  unfold PySem.W.ks_superIn at hsup
  rw [hc] at hsup
  refine PySem.W.kxs_getMethod PySem.W.kxs_ValueError e (PySem.W.looks_opaque K2 F0.hany) (l₀ := cd.mro) (fun A Q E s k q => wpAny_bind ((PySem.W.looks_clsIn K2 hc) A _ E s k (wpAny_pure q))) rfl K2 hsup (ia2.type.andThen (PySem.W.looks_subIn K2 F0.hVE)) (PySem.W.ks_ne K2 ia2 hc) rfl ?_
  have I2 := ClX.pin_new (o := PySem.W.kxs_mw "ValueError.__init__" a) (h' := h'.push (PySem.W.kxs_mw "ValueError.__init__" a)) (a := h'.objs.size) (t' := s.toks + ((["self", "at"] : List Str).zip [Value.ref a, u1]).length + 1) I1 (fun b u e => Heap.get?_push_of_some _ e) (Nat.le_refl _) (Heap.get?_push_at rfl rfl) (fun v e => by cases e)
  refine PySem.W.kxs_callWith (i := "ValueError.__init__") (x := a) rfl ?_
  have ha : PA (ncx CX P w K mg base ["self", "at", "__class__"] (tNF name qual params scope cc cda p) fI A outer s H E) [.Name "at" p.p3] (tCons (tVar 1) tNil) := pa_cons (pv 1 rfl (Or.inl (S.par _ (by simp)))) pa_nil
  refine evalArgs_plain (thn (ha.run p.p4 [(h'.objs.size, PySem.W.kxs_mw "ValueError.__init__" a)] _ _ H (fun vs H1 => vs = [v] ∧ H1 = H) I2 ⟨v, rfl, rfl, rfl⟩) fun us s1 hh => ?_)
  obtain ⟨vs3, H3, I3, r3, rfl, rfl⟩ := hh
  refine ⟨ClX.pin_at I3, ?_⟩
  have hu := ClX.pin_at I3
  have K3 : K.In s1.heap := I3.kIn
  obtain ⟨t3, hx3⟩ := exo_at I3.hok ea
  obtain ⟨hp3, g3, d3, tk3, os3⟩ := s1
  refine wpAny_call (codeAny_of_tree ?_)
  show wpAny _ _ (callAny (.ref h'.objs.size) ⟨[] ++ us, []⟩) _ _ _
  simp only [callAny]
  refine wpAny_bind (wpAny_load hu ?_)
  simp only [PySem.W.kxs_mw, show (Value.type "method-wrapper" == Value.type "method" || Value.type "method-wrapper" == Value.type "builtin_function_or_method" || Value.type "method-wrapper" == Value.type "method-wrapper") = true by decide, if_true]
  refine PySem.W.KFB.if_so (by decide) ?_
  refine wpAny_bind (PySem.W.check_bound_init F.excBase_ValueError.toExcCallFacts (K3 _ _ hC) hx3 rfl ?_)
  refine wpAny_bind (wpAny_pure (wpAny_pure ?_))
  refine ⟨plainId_quiet F.excBase_ValueError.init.plain _, codeAny_builtin F.excBase_ValueError.initEntry ?_⟩
  refine PySem.W.exc_init_tree (cls := .ref C) (t0 := t3) (dv := none) (c2 := .none) (c3 := .none) (b4 := .bool false) hx3 (by rw [List.nil_append, ← Paired.length r3, sizeLine_eq]; show 1 ≤ 16777216; decide) (fun h4 k4 hx4 ht4 => ?_)
  have J := (ClX.unpin I3).write (t' := tk3) (x := a) (e := a) (o := exo a C none) (by rw [ea]; exact True.intro) (.inl rfl) k4 ⟨_, hx4⟩ (exo_ok hx4)
  have eu : upd H3 a (exo a C none) = H3 := by
    funext b
    by_cases hb : b = a
    · rw [hb, upd_same, ea]
    · rw [upd_ne hb]
  rw [eu] at J
  refine wpAt_of_wpAny (wpAny_mono ((pss_one (ps_ost (X := ncx CX P w K mg base ["self", "at", "__class__"] (tNF name qual params scope cc cda p) fI A outer s H3 E) (pos := p.p9) (p' := p.p7) (f := "at") (pv 0 rfl (Or.inl (S.par _ (by simp)))) (pv 1 rfl (Or.inl (S.par _ (by simp)))))).run [] _ _ H3 { nx := fun _ H' => Q .non H', rt := Q } J ?_) (fun f s' hs => fin hs) fun e s' hs => hs)
  exact ⟨v, rfl, .ref a, rfl, a, C, rfl, F0.T, F0.hno, .inl ⟨ea, fun dx n ne => hq dx n ne⟩⟩
end DL
set_option Elab.async false
set_option linter.all false
set_option maxRecDepth 100000
set_option maxHeartbeats 4000000
/-! DX2: exceptions over data. -/
namespace DL
open PySem L2
/-- wishes of exceptions: class, field at, slots -/
abbrev DXW := Addr → D → DS → Prop
abbrev DSpX := List D → (D → Prop) → (Addr → D → Prop) → Prop
/-- an exception of class C whose field at is x, its dict at dd -/
def ExAt (tk : Tk) (K : PySem.W.Frag) (F : FrC) (σ : St) (H : Hp) (d : DS) (dd : Addr) (x : D) : Prop := ∃ v O T, DIx tk K F [(v, .sh x)] σ H d O T ∧ ¬ O dd ∧ H dd = some (.xd [("at", v)]) ∧ F.H dd = none
/-- the wish W of a context, told by data for the frame F -/
def LinkX (tk : Tk) (K : PySem.W.Frag) (W : WX) (Ed : DXW) (F : FrC) : Prop := ∀ C dd σ H d x, ExAt tk.b K F σ H d dd x → Ed C x d → W (.ref C) (some dd) σ H
def spX (tk : Tk) (K : PySem.W.Frag) (n : Nat) (c : DSpX) : Sp := fun vs H Q E => vs.length = n ∧ ∃ (O : Addr → Prop) (T : Tks) (xs : List D), (∀ a, O a → H a ≠ none) ∧ (∀ p ∈ T, O p.1 ∧ O p.2 ∧ tk.ok H p.1 p.2) ∧ RepL K O T H xs vs ∧
  ∃ (Qd : D → Prop) (Ed : Addr → D → Prop), c xs Qd Ed ∧ (∀ x v H', Qd x → RetOk tk K ⟨H, O, T⟩ v H' x → Q v H') ∧ ∀ C dd H' x, Ed C x → (∃ σ d, ExAt tk.b K ⟨H, O, T⟩ σ H' d dd x) → E (.ref C) (some dd) H'
section
variable {tk : Tk} {K : PySem.W.Frag} {F : FrC} {pn : Pn} {σ σ' : St} {H H' : Hp} {d d' : DS} {O : Addr → Prop} {T : Tks} {dd : Addr} {x : D}
/-- an exception out of a call -/
theorem ExAt.back (J : DIx tk.b K F pn σ H d O T) (e : ExAt tk.b K ⟨H, O, T⟩ σ' H' d' dd x) : ExAt tk.b K F σ H' d dd x := by
  obtain ⟨v, O', T', J', n, hx, hf⟩ := e
  have R := (J.backX (J' : DIx (tk.b).b K ⟨H, O, T⟩ ((v, .sh x) :: []) σ' H' d' O' T')).drop (pn' := [(v, .sh x)]) (by simp)
  refine ⟨v, _, T', R, fun z => ?_, hx, ?_⟩
  · rcases z with z | ⟨p, hp, z⟩
    · exact J.dom dd z hf
    · have t := J'.tok p hp
      rcases z with z | z
      · exact n (by rw [z]; exact t.1)
      · exact n (by rw [z]; exact t.2.1)
  · cases q : F.H dd with
    | none => rfl
    | some o => exact absurd hf (J.keep dd (by rw [q]; exact Option.some_ne_none _))
end
/-! ### C(e) made, where nothing is handled -/
section
variable {X : Cx}
theorem passN {X : Cx} : Passes (L2N.CX X.prog X.w) X E0 := fun _ _ _ _ _ _ _ h => by
  obtain ⟨_, _, _, _, _, _, _, _, _, _, _, _, z⟩ := h
  exact z.elim
theorem pmk_town {x : Str} {C fI : Addr} {k : Nat} {fdI : FuncData} {e : Expr} {es : List Expr} {ta : TA} {p pos : Pos} (T0 : OexC X.K C) (iC : PySem.W.findIn X.K (.ref C) "__init__" = some (some (.ref fI))) (tI : PySem.W.typeIn X.K (.ref fI) = some (.type "function"))
    (F1 : FnOk X.prog X.w X.K X.mg X.base (L2N.CX X.prog X.w) k fI fdI ["self", "at"] (spTown C)) (hr : Room (k + 1) X.A) (hb : Binds X.K fdI ["self", "at"] []) (hg : Gl X x) (hm : X.mg x = some (.ref C)) (ha : PA X (e :: es) ta)
    (hdb : (x == ("__debug__" : Str)) = false := by decide) (he : starEach (e :: es) X.env = (false, eval e X.env) :: starEach es X.env := by rfl) (hpl : (backTo pos (starEach es X.env)).any (·.1) = false := by rfl) :
    L2N.PMk X (.Call (.Name x p) (e :: es) [] pos) (fun σ H Q => ta σ H fun vs H1 => ∃ v, vs = [v] ∧ ∀ d, H1 d = none → Q (.ref C) (some d) (upd H1 d (.xd [("at", v)]))) := by
  intro pins s0 σ H Q I q0
  obtain ⟨nm, qn, N, bs, bm, sn, sub, ab, col, dd, k0, k1, k2, k3, k5, hC, hbm⟩ := T0.cls
  refine wpAny_Call_Name_kw (ld_glob I hg hm ?_ hdb)
  refine PySem.W.callWith_K (h₀ := X.base) I.ok.mod.kin T0.kC (thn (ha.run pos pins s0 σ H _ I q0) fun ws s1 hh => ?_) he hpl
  obtain ⟨vs, H1, J1, rw1, v, rfl, q1⟩ := hh
  refine ⟨J1.kIn, ?_⟩
  show wpAny _ _ (call (.ref C) ws) _ _ _
  obtain ⟨hp, gs, dr, tks, oS⟩ := s1
  have le1 : hp.objs.size ≤ hp.objs.size + 1 := Nat.le_succ _
  have no1 : H1 (hp.objs.size + 1) = none := J1.hok.fresh le1
  have old : ∀ b o, hp.get? b = some o → ((hp.push (PySem.W.kdv_tup ws)).push (PySem.HandSPX.excO C hp.objs.size)).get? b = some o := fun b o z => Heap.get?_push_of_some _ (Heap.get?_push_of_some _ z)
  have new : ((hp.push (PySem.W.kdv_tup ws)).push (PySem.HandSPX.excO C hp.objs.size)).get? (hp.objs.size + 1) = some (PySem.HandSPX.excO C hp.objs.size) := by heap_get
  have J2 : Inv X pins σ (upd H1 (hp.objs.size + 1) (exo (hp.objs.size + 1) C none)) ⟨(hp.push (PySem.W.kdv_tup ws)).push (PySem.HandSPX.excO C hp.objs.size), gs, dr, tks, oS⟩ :=
    J1.laid (t' := tks) (a := hp.objs.size + 1) (o := exo (hp.objs.size + 1) C none) old le1 (exo_ok new)
  have rw2 : Vals (V.ref (hp.objs.size + 1) :: [v]) (Value.ref (hp.objs.size + 1) :: ws) := .cons rfl rw1
  have hws : ws.length = 1 := by rw [← Paired.length rw1]; rfl
  have pr : spTown C (V.ref (hp.objs.size + 1) :: [v]) (upd H1 (hp.objs.size + 1) (exo (hp.objs.size + 1) C none)) (fun u H2 => u = .non ∧ ∃ d, H2 (hp.objs.size + 1) = some (exo (hp.objs.size + 1) C (some d)) ∧ H2 d = some (exd d [("at", v)]) ∧ H1 d = none ∧ Q (.ref C) (some d) (upd (del H2 (hp.objs.size + 1)) d (.xd [("at", v)]))) E0 := by
    refine ⟨_, v, rfl, upd_same, fun dx hx ne => ⟨rfl, dx, upd_same, ?_, ?_, ?_⟩⟩
    · rw [upd_ne ne]; exact upd_same
    · rw [upd_ne ne] at hx; exact hx
    · rw [upd_ne ne] at hx
      have eH : upd (del (upd (upd (upd H1 (hp.objs.size + 1) (exo (hp.objs.size + 1) C none)) dx (exd dx [("at", v)])) (hp.objs.size + 1) (exo (hp.objs.size + 1) C (some dx))) (hp.objs.size + 1)) dx (.xd [("at", v)]) = upd H1 dx (.xd [("at", v)]) := by
        funext b
        by_cases hb : b = dx
        · rw [hb, upd_same, upd_same]
        · rw [upd_ne hb, upd_ne hb]
          by_cases hb2 : b = hp.objs.size + 1
          · rw [hb2, del_same, no1]
          · rw [del_ne hb2, upd_ne hb2, upd_ne hb, upd_ne hb2]
      rw [eH]
      exact q1 dx hx
  refine wpAny_call (PySem.HandSPX.call_own F.excBase_ValueError (fun Y => PySem.HandSPX.refsVE_contains Y bm hbm) (J1.kIn _ _ hC) (PySem.W.looks_findIn J1.kIn iC) (fun self => PySem.W.bind_fn J1.kIn self tI) (by rw [hws, sizeLine_eq]; decide)
    (codeAny_mono (F1.run _ X.stack _ _ ⟨Value.ref (hp.objs.size + 1) :: ws, []⟩ (Value.ref (hp.objs.size + 1) :: ws) _ _ E0 (hr.make C ws []) (J2.env0.make C ws []) (by have b := hb _ (Value.ref (hp.objs.size + 1) :: ws) J2.kIn (by rw [List.append_nil, List.length_cons, hws]; rfl); rw [List.append_nil] at b; exact b) rw2 pr) fun r s' hq => ?_))
  cases r with
  | error er => exact passN pins σ _ _ er s' J2 hq
  | ok fl =>
    cases fl with
    | ret u =>
      obtain ⟨u', H2, os2, bare2, un2, hok2, ru, eu, d, ea, ed, hd1, q2⟩ := hq
      subst eu
      obtain ⟨h2, g2, d2, t2, os'⟩ := s'
      obtain ⟨t0, G, JG, kG, ge, hoe, na⟩ := mk_end0 (d2 := d2) (t2 := t2) J1 le1 old un2 hok2 os2 bare2 ea ed hd1
      exact ⟨ru, hp.objs.size + 1, _, _, ⟨G, g2, d2, t2, os'⟩, _, .ref C, some d, rfl, JG, kG, ge, hoe, ⟨rfl, rfl, fun vs z => by cases z; rfl⟩, rfl, rfl, na, rfl, bare2, raises_own T0.exC T0.tyC, q2⟩
    | next => exact False.elim hq
    | brk => exact False.elim hq
    | cont => exact False.elim hq
end
section
variable {tk : Tk} {X : Cx} {W : WX} {Ed : DXW} {pos p p2 : Pos} {e : Expr} {es : List Expr} {te : DTE} {t : DTA} {k n : Nat} {f : Addr} {fd : FuncData} {ps : List Str} {c : DSpX} {x : Str}
/-- f(e, ..), f may raise -/
def dCallX (n : Nat) (c : DSpX) (Ed : DXW) (t : DTA) (d : DS) (Q : D → DS → Prop) : Prop := t d fun xs d1 => xs.length = n ∧ c xs (fun z => Q z d1) fun C z => Ed C z d1
theorem de_callX (F : FnOk X.prog X.w X.K X.mg X.base (L2N.CX X.prog X.w) k f fd ps (spX tk X.K n c)) (tkW : L2N.Takes X W) (hr : Room k X.A) (hg : Gl X x) (hm : X.mg x = some (.ref f)) (hk : PySem.W.keepIn X.K (.ref f) = true) (hb : Binds X.K fd ps [])
    (ha : DA (tk.w (LinkX tk X.K W Ed)) X (e :: es) t) (hdb : (x == ("__debug__" : Str)) = false := by decide) (he : starEach (e :: es) X.env = (false, eval e X.env) :: starEach es X.env := by rfl) (hpl : (backTo pos (starEach es X.env)).any (·.1) = false := by rfl) :
    DE (tk.w (LinkX tk X.K W Ed)) X (.Call (.Name x p) (e :: es) [] pos) (dCallX n c Ed t) := by
  refine pe_imp (pe_callS (E := WE W) F hr hg hm hk hb (fun σ => L2N.passAt tkW σ) ha hdb he hpl) ?_
  rintro σ H k ⟨F, pn, d, Q, I, q, c'⟩
  refine upA_at I q fun vs H1 xs d1 hl I1 q1 => ?_
  obtain ⟨O, T, I1⟩ := I1
  have rl : RepL X.K O T H1 xs vs := I1.args hl
  have J := I1.less
  exact ⟨by rw [rl.length]; exact q1.1, O, T, xs, J.dom, J.tok, rl, _, _, q1.2, fun y v H' qy ret => c' v H' y d1 (J.back ret) qy, fun C dd H' y ey ⟨σ', d', ex⟩ => J.fx C dd σ H' d1 y (ExAt.back (tk := tk) J.bare ex) ey⟩
/-- raise C(e), C with the __init__ of DX1 -/
def sRaise (C : Addr) (te : DTE) (Ed : DXW) (_ : DEn) (d : DS) : Prop := te d fun y d1 => Ed C y d1
theorem ds_raise {C fI : Addr} {fdI : FuncData} {posr : Pos} (hc : X.calm = true) (tkW : L2N.Takes X W) (T0 : OexC X.K C) (iC : PySem.W.findIn X.K (.ref C) "__init__" = some (some (.ref fI))) (tI : PySem.W.typeIn X.K (.ref fI) = some (.type "function"))
    (F1 : FnOk X.prog X.w X.K X.mg X.base (L2N.CX X.prog X.w) k fI fdI ["self", "at"] (spTown C)) (hr : Room (k + 1) X.A) (hb : Binds X.K fdI ["self", "at"] []) (hg : Gl X x) (hm : X.mg x = some (.ref C)) (he : DE (tk.w (LinkX tk X.K W Ed)) X e te)
    (hdb : (x == ("__debug__" : Str)) = false := by decide) (hse : starEach [e] X.env = (false, eval e X.env) :: starEach [] X.env := by rfl) (hpl : (backTo pos (starEach [] X.env)).any (·.1) = false := by rfl) :
    DSt (tk.w (LinkX tk X.K W Ed)) X (.Raise (some (.Call (.Name x p) [e] [] pos)) none posr) (sRaise C te Ed) := by
  refine ps_imp (L2N.ps_raise hc tkW (pmk_town T0 iC tI F1 hr hb hg hm (pa_cons he pa_nil hse) hdb hse hpl)) ?_
  rintro σ H D ⟨F, pn, d, E, I, q, c⟩
  refine upE_at I q fun v H1 y d1 I1 q1 => ?_
  refine ⟨v, rfl, fun dx hx => ?_⟩
  · obtain ⟨O, T, I1⟩ := I1
    have J := (I1.drop (pn' := [(v, .sh y)]) (by simp)).fresh (o := .xd [("at", v)]) hx
    refine I1.fx C dx σ _ d1 y ⟨v, O, T, J.bare, fun z => I1.dom dx z hx, upd_same, ?_⟩ q1
    cases z : F.H dx with
    | none => rfl
    | some o => exact absurd hx (I1.keep dx (by rw [z]; exact Option.some_ne_none _))
end
section
variable {P : Program} {w : World} {K : PySem.W.Frag} {mg : Str → Option Value} {base : Heap} {tk : Tk}
/-- a def that may raise -/
theorem fn_X {x qual : Str} {params : Arguments} {body : List Stmt} {scope : Scope} {dvs : List V} {kws : List (Str × V)} {f : Addr} {fd : FuncData} {N ps : List Str} {k : Nat} {c : DSpX} {t : (Addr → D → Prop) → DTS} (F : FunD K x qual params body scope dvs kws f fd) (S : FnScope N ps scope)
    (hb : ∀ (cdv : Value) (A : Around) (outer : List Env) (s : Shared) (H : Hp) (E : XK) (Ed : Addr → D → Prop), Room k (A.deeper (PyProof.Rows.envOfC qual scope s.heap.objs.size f cdv)) →
      DSs (tk.w (LinkX tk K (fun cls d _ H => E cls d H) fun C x _ => Ed C x)) (cxOf (L2N.CX P w) P w K mg base N qual scope f cdv A outer s H E) body (t Ed))
    (hc : ∀ xs Q Ed, xs.length = ps.length → c xs Q Ed → t Ed ⟨fun _ => Q .non, Q, fun _ => False, fun _ => False⟩ (startD N (xs.map SV.sh))) : FnOk P w K mg base (L2N.CX P w) (k + 1) f fd ps (spX tk K ps.length c) := by
  refine F.ok S (fun vs H Q E h => h.1) fun cdv A outer s H vs Q E hr h => ?_
  obtain ⟨hl, O, T, xs, hd, ht, rl, Qd, Ed, q, ret, exc⟩ := h
  have hf : LinkX tk K (fun cls d _ H => E cls d H) (fun C x _ => Ed C x) ⟨H, O, T⟩ := fun C dd σ H' d x ex ey => exc C dd H' x ey ⟨σ, d, ex⟩
  have I0 : DIx (tk.w (LinkX tk K (fun cls d _ H => E cls d H) fun C x _ => Ed C x)) K ⟨H, O, T⟩ (vs.zip (xs.map SV.sh)) [] H [] O T := by
    have J := pz_rep (base_DI (tk := tk.w (LinkX tk K (fun cls d _ H => E cls d H) fun C x _ => Ed C x)) (K := K) hf hd ht) rl
    rw [List.append_nil, pz_zip] at J
    exact J
  have I := DIx.enter (N := N) (by rw [List.length_map, rl.length]) I0
  refine ⟨_, hb cdv A outer s H E Ed hr, ⟨H, O, T⟩, [], _, ⟨fun _ => Qd .non, Qd, fun _ => False, fun _ => False⟩, ⟨O, T, I⟩, hc xs Qd Ed (by rw [← rl.length]; exact hl) q, ⟨fun σ H' d J q => ?_, fun v H' x r q => ret x v H' q r, fun σ H d J q => q.elim, fun σ H d J q => q.elim⟩⟩
  obtain ⟨O', T', J⟩ := J
  exact ret .non .non H' q ⟨_, σ, d, (DI.bare (tk := tk.w (LinkX tk K (fun cls d _ H => E cls d H) fun C x _ => Ed C x)) ⟨O', T', J.add (x := .non) (v := .non) rfl⟩)⟩
end
end DL
set_option Elab.async false
set_option linter.all false
set_option maxRecDepth 100000
set_option maxHeartbeats 4000000
/-! DX3: try over data. -/
namespace DL
open PySem L2
section
variable {tk : Tk} {K : PySem.W.Frag} {F : FrC} {pn pn' : Pn} {σ σ' : St} {H H' : Hp} {d d' : DS} {O O' : Addr → Prop} {T T' : Tks}
theorem DIx.re (I : DIx tk.b K F pn σ H d O T) (h : tk.fr F) : DIx tk K F pn σ H d O T := ⟨I.len, I.ext, I.keep, I.up, I.fdom, I.dom, I.new, I.sub, I.tnew, I.tok, I.sl, I.pe, I.ss, I.sp, I.pp, h⟩
/-- a slot is emptied, in both layers -/
theorem DIx.empty (I : DIx tk K F pn σ H d O T) (i : Nat) : DIx tk K F pn (σ.set i none) H (d.set i none) O T := by
  have J := I.forget i
  have ne : ∀ {j : Nat} {s : SV}, (d.set i none)[j]? = some (some s) → j ≠ i := fun {j s} e z => by
    subst z
    by_cases h : j < d.length
    · rw [List.getElem?_set_self h] at e; cases e
    · rw [List.getElem?_eq_none (by simpa using h)] at e; cases e
  have sg : ∀ {j : Nat}, j ≠ i → (σ.set i none)[j]? = σ[j]? := fun {j} h => List.getElem?_set_ne (Ne.symm h)
  refine { J with len := by rw [J.len, List.length_set], sl := fun j s e => ?_, ss := fun a b s t v n ea wa eb wb ua => ?_, sp := fun j s v e w u => ?_ }
  · obtain ⟨v, h1, h2⟩ := J.sl j s e
    exact ⟨v, by rw [sg (ne e)]; exact h1, h2⟩
  · rw [sg (ne ea)] at ua
    rw [sg (ne eb)]
    exact J.ss a b s t v n ea wa eb wb ua
  · rw [sg (ne e)] at u
    exact J.sp j s v e w u
/-- a new frame where every slot is shared -/
theorem DIx.newF {φ : FrC → Prop} (I : DIx tk K F pn σ H d O T) (hs : ∀ (j : Nat) (s : SV), d[j]? = some (some s) → s.own = false) (h : φ ⟨H, O, T⟩) : DIx (tk.w φ) K ⟨H, O, T⟩ [] σ H d O T where
  len := I.len
  ext := fun a o e _ => e
  keep := fun a e => e
  up := fun a e => e
  fdom := I.dom
  dom := I.dom
  new := fun a e => .inl e
  sub := fun p hp => hp
  tnew := fun p hp => .inl hp
  tok := I.tok
  sl := fun i s e => by
    obtain ⟨v, h1, h2⟩ := I.sl i s e
    refine ⟨v, h1, ?_⟩
    cases s with
    | sh x => exact h2
    | _ => cases hs i _ e
  pe := fun p hp => by simp at hp
  ss := fun i j s t v n e w => by rw [hs i s e] at w; cases w
  sp := fun i s v e w => by rw [hs i s e] at w; cases w
  pp := List.Pairwise.nil
  fx := h
/-- back from it -/
theorem DIx.oldF {σ0 : St} {d0 : DS} (I : DIx tk K F pn σ0 H d0 O T) (J : DIx tk.b K ⟨H, O, T⟩ pn' σ' H' d' O' T') : DIx tk K F pn σ' H' d' O' T' := by
  have fnone : ∀ a, H a = none → F.H a = none := fun a e => by
    cases q : F.H a with
    | none => rfl
    | some o => exact absurd e (I.keep a (by rw [q]; exact Option.some_ne_none _))
  have same : ∀ a o, H a = some o → ¬ O a → H' a = some o := fun a o e n => J.ext a o e fun p hp => ⟨fun z => n (by rw [z]; exact (I.tok p hp).1), fun z => n (by rw [z]; exact (I.tok p hp).2.1)⟩
  have off : ∀ a, offT T a → H a ≠ none → offT T' a := fun a f n p hp => by
    rcases J.tnew p hp with q | ⟨q1, q2⟩
    · exact f p q
    · exact ⟨fun z => n (by rw [z]; exact q1), fun z => n (by rw [z]; exact q2)⟩
  refine { len := J.len, ext := fun a o e f => J.ext a o (I.ext a o e f) ?_, keep := fun a e => J.keep a (I.keep a e), up := fun a e => J.up a (I.up a e), fdom := I.fdom, dom := J.dom, new := fun a z => ?_, sub := fun p hp => J.sub p (I.sub p hp), tnew := fun p hp => ?_, tok := J.tok, sl := fun i s e => ?_, pe := fun p hp => ?_, ss := J.ss, sp := fun i s v e w ev q hq wq z => ?_, pp := I.pp, fx := I.fx }
  · intro p hp
    rcases I.tnew p hp with q | ⟨q1, q2⟩
    · exact f p q
    · exact ⟨fun z => (by rw [z, q1] at e; cases e), fun z => (by rw [z, q2] at e; cases e)⟩
  · rcases J.new a z with z | z
    · exact I.new a z
    · exact .inr (fnone a z)
  · rcases J.tnew p hp with q | ⟨q1, q2⟩
    · exact I.tnew p q
    · exact .inr ⟨fnone _ q1, fnone _ q2⟩
  · obtain ⟨v, h1, h2⟩ := J.sl i s e
    refine ⟨v, h1, ?_⟩
    cases s with
    | sh x => exact h2
    | ow xs =>
      obtain ⟨a, vs, e1, o, n, f, q, r⟩ := h2
      exact ⟨a, vs, e1, o, fnone a n, f, q, r⟩
    | ob x C fs =>
      obtain ⟨dx, gs, e1, o, n, f, q, r⟩ := h2
      exact ⟨dx, gs, e1, o, fnone x n, f, q, r⟩
  · refine (I.pe p hp).mono same (fun a z => J.new a z) (fun p hp => J.sub p hp) fun w a e => ?_
    obtain ⟨b, eb, ob, _, fb, nb⟩ := (I.pe p hp).ownAt w
    have q : a = b := V.ref.inj (e.symm.trans eb)
    subst q
    cases hb : H a with
    | none => exact absurd hb nb
    | some o => exact ⟨J.ext a o hb fb, J.up a ob, off a fb nb⟩
  · obtain ⟨v2, h1, h2⟩ := J.sl i s e
    rw [h1] at ev
    obtain rfl : v2 = v := Option.some.inj (Option.some.inj ev)
    obtain ⟨a, ea, _, na, _⟩ := h2.ownAt w
    obtain ⟨b, eb, _, _, _, nb⟩ := (I.pe q hq).ownAt wq
    have : a = b := V.ref.inj (ea.symm.trans (z.symm.trans eb))
    subst this
    exact nb na
end
section
variable {tk : Tk} {X : Cx} {Wout : WX} {x n : Str} {C0 : Addr} {i : Nat} {body suite : List Stmt} {b₀ : Stmt} {np pos pos' : Pos} {tB : DXW → DTS} {tS : Addr → Value → Option Addr → DTS}
theorem pss_ex {α : Type} {st : List Stmt} {t : α → TS} (h : ∀ a, PSs X st (t a)) : PSs X st (fun D σ H => ∃ a, t a D σ H) := ⟨fun pins s σ H D I ⟨a, q⟩ => (h a).run pins s σ H D I q⟩
/-- try: body; except C0 as n: suite -/
def sTry (K : PySem.W.Frag) (C0 : Addr) (i : Nat) (tB : DXW → DTS) (tS : Addr → Value → Option Addr → DTS) (E : DEn) (d : DS) : Prop := (∀ (j : Nat) (s : SV), d[j]? = some (some s) → s.own = false) ∧ ∃ Ed : DXW, tB Ed E d ∧
  ∀ C y d1, Ed C y d1 → PySem.W.exmOne K (.ref C) (.ref C0) = some true ∧ ∀ a dd, tS a (.ref C) (some dd) ⟨fun d2 => E.nx (d2.set i none), E.rt, fun d2 => E.bk (d2.set i none), fun d2 => E.ct (d2.set i none)⟩ (d1.set i (some (.sh (.exn a dd C y))))
theorem ds_try (hs : X.stack = X.env :: X.outer) (hf : X.env.frame = some X.env.locals) (hN : X.N.Nodup) (hi : X.N[i]? = some n) (hln : X.env.kindOf n = some .local) (hc : Names X x (.ref C0)) (tkW : L2N.Takes X Wout)
    (hb : ∀ (Ed : DXW) (W : WX) (pn : List (Addr × Obj)) (xe : Value → Shared → Prop), L2N.Takes (X.tr pn xe) W → PassesOwn (model X.prog X.w) X.A X.env xe → DSs (tk.w (LinkX tk X.K W Ed)) (X.tr pn xe) body (tB Ed))
    (hsu : ∀ (a : Addr) (oe : Obj) (cls : Value) (d : Option Addr) (pn : List (Addr × Obj)), L2N.Zn cls d oe → (∃ vs, oe.data = .fields vs) → DSs tk (X.suite a ((a, oe) :: pn)) (b₀ :: suite) (tS a cls d)) :
    DSt tk X (.Try body [.ExceptHandler (some (.Name x np)) (some n) (b₀ :: suite) pos'] [] [] pos) (sTry X.K C0 i tB tS) := by
  refine ps_imp (L2N.ps_try_as (tb := fun W D σ H => ∃ Ed, upS (tk.w (LinkX tk X.K W Ed)) X.K (tB Ed) D σ H) (ts := fun a cls d => upS tk X.K (tS a cls d)) hs hf hN hi hln hc tkW (fun W pn xe t p => pss_ex fun Ed => hb Ed W pn xe t p) hsu) ?_
  rintro σ H D ⟨F, pn, d, E, ⟨O, T, I⟩, ⟨hsh, Ed, q, hh⟩, c⟩
  refine ⟨Ed, ⟨H, O, T⟩, [], d, E, ⟨O, T, I.newF hsh ?_⟩, q, ⟨fun σ' H' d' J q => ?_, fun v H' y J q => ?_, fun σ' H' d' J q => ?_, fun σ' H' d' J q => ?_⟩⟩
  · intro C dd σ' H' d' y ex ey
    obtain ⟨e1, e2⟩ := hh C y d' ey
    refine ⟨true, e1, fun _ a _ => ?_, fun z => by cases z⟩
    obtain ⟨v, O', T', J, n, hx, hfx⟩ := ex
    have ry : Rep X.K O' T' H' y v := J.pe (v, .sh y) (by simp)
    have J1 := (I.oldF J).add (x := .exn a dd C y) (v := .ref a) ⟨v, rfl, n, hx, ry⟩
    refine ⟨F, pn, _, _, ⟨O', T', J1.toSlot (i := i)⟩, e2 a dd, ⟨fun σ2 H2 d2 J2 q => ?_, c.rt, fun σ2 H2 d2 J2 q => ?_, fun σ2 H2 d2 J2 q => ?_⟩⟩
    · obtain ⟨O2, T2, J2⟩ := J2
      exact c.nx _ _ _ ⟨O2, T2, J2.empty i⟩ q
    · obtain ⟨O2, T2, J2⟩ := J2
      exact c.bk _ _ _ ⟨O2, T2, J2.empty i⟩ q
    · obtain ⟨O2, T2, J2⟩ := J2
      exact c.ct _ _ _ ⟨O2, T2, J2.empty i⟩ q
  · obtain ⟨O2, T2, J⟩ := J
    exact c.nx _ _ _ ⟨O2, T2, I.oldF J.bare⟩ q
  · obtain ⟨pn2, σ2, d2, O2, T2, J⟩ := J
    have ry : Rep X.K O2 T2 H' y v := J.pe (v, .sh y) (by simp)
    exact c.rt v H' y ⟨pn, σ2, d2, DI.bare ⟨O2, T2, (I.oldF J).add ry⟩⟩ q
  · obtain ⟨O2, T2, J⟩ := J
    exact c.bk _ _ _ ⟨O2, T2, I.oldF J.bare⟩ q
  · obtain ⟨O2, T2, J⟩ := J
    exact c.ct _ _ _ ⟨O2, T2, I.oldF J.bare⟩ q
end
end DL
set_option Elab.async false
set_option linter.all false
set_option maxRecDepth 100000
set_option maxHeartbeats 4000000
/-! DX4: the caught error's field. -/
namespace DL
open PySem L2
/-- n.at, n the error in hand at a -/
def tXat (K : PySem.W.Frag) (a : Addr) (cls : Value) (od : Option Addr) (te : TE) : TE := fun σ H Q => te σ H fun x H1 => x = .ref a ∧ ∃ (C dd : Addr) (v : V), cls = .ref C ∧ od = some dd ∧ XfC K C ∧ PySem.W.findIn K (.ref C) "at" = some none ∧ H1 dd = some (.xd [("at", v)]) ∧ Q v H1
theorem pe_xat {X : Cx} {a : Addr} {oE : Obj} {cls : Value} {od : Option Addr} {pn : List (Addr × Obj)} {e : Expr} {te : TE} {pos : Pos} (hz : Zc cls od oE) (hf : ∃ vs, oE.data = .fields vs)
    (he : PE (X.suite a ((a, oE) :: pn)) e te) (hb : attributeBase e "at" X.env (eval e X.env) = eval e X.env := by rfl) : PE (X.suite a ((a, oE) :: pn)) (.Attribute e "at" pos) (tXat X.K a cls od te) := by
  refine ⟨fun pins s0 σ H Q I0 q0 => attr_of hb (thn (he.run pins s0 σ H _ I0 q0) fun w1 s1 hh => ?_)⟩
  obtain ⟨y, H1, J, ry, ey, C, dd, v, ec, ed, T, hno, hx, q⟩ := hh
  subst ey ec ed
  obtain rfl : w1 = Value.ref a := ry
  have hold := (J.pin (a, oE) (List.mem_append_left _ List.mem_cons_self)).1
  obtain ⟨vs, hd⟩ := hf
  have ok : ObjOk X.prog X.w H1 s1.heap dd (.xd [("at", v)]) := J.hok dd _ hx
  obtain ⟨mA, hns, hrel⟩ := ok
  obtain ⟨oD, hoD, hlk⟩ := lookIn_ns hns
  have l : List.lookup ("at" : Str) [(("at" : Str), v)] = some v := by simp [List.lookup]
  obtain ⟨u, hu, ru⟩ := RelO.some_of (v := v) (o := mA "at") (by rw [← l]; exact hrel "at")
  have inst : PySem.W.InstAt s1.heap a oE C (some oD) := ⟨hold, hz.1, (by unfold PySem.W.notCls; rw [hd] <;> rfl), (by rw [hz.2]; exact hoD)⟩
  exact HandSPX.exc_get J.kIn inst T.ga T.gg T.exC (PySem.W.findObj_own T.hdC hno rfl (by rw [hlk, hu])) (handed_of ru) ⟨v, H1, J.tok _, ru, q⟩
section
variable {tk : Tk} {X : Cx} {a : Addr} {oE : Obj} {cls : Value} {od : Option Addr} {pn : List (Addr × Obj)} {e : Expr} {pos : Pos} {i : Nat}
def dXat (K : PySem.W.Frag) (a : Addr) (cls : Value) (od : Option Addr) (i : Nat) (d : DS) (Q : D → DS → Prop) : Prop := match d[i]? with
  | some (some (.sh (.exn a' dd C y))) => a' = a ∧ cls = .ref C ∧ od = some dd ∧ XfC K C ∧ PySem.W.findIn K (.ref C) "at" = some none ∧ Q y d
  | _ => False
theorem de_xat (hz : L2N.Zn cls od oE) (hf : ∃ vs, oE.data = .fields vs) (he : PE (X.suite a ((a, oE) :: pn)) e (tVar i)) (hb : attributeBase e "at" X.env (eval e X.env) = eval e X.env := by rfl) : DE tk (X.suite a ((a, oE) :: pn)) (.Attribute e "at" pos) (dXat X.K a cls od i) := by
  refine pe_imp (pe_xat hz.zc hf he hb) ?_
  rintro σ H k ⟨F, pn', d, Q, ⟨O, T, I⟩, q, c⟩
  unfold dXat at q
  split at q
  · rename_i a' dd C y hd
    obtain ⟨rfl, rfl, rfl, T0, hno, q⟩ := q
    obtain ⟨v, hv, w, ew, n, hx, ry⟩ := I.sl i _ hd
    exact ⟨v, hv, ew, C, dd, w, rfl, rfl, T0, hno, hx, c w H y d ⟨O, T, I.add ry⟩ q⟩
  · exact q.elim
end
end DL
set_option Elab.async false
set_option linter.all false
set_option maxRecDepth 100000
set_option maxHeartbeats 4000000
/-! DX5: defs called within an except suite. -/
namespace DL
open PySem L2 L2H
theorem roomH_units {k : Nat} {A : Around} (r : RoomH k A) : A.units + 64 < cLine := by have := r.un; omega
theorem hotC_suite {X : Cx} {a : Addr} {oE : Obj} {cls : Value} {od : Option Addr} {pn : List (Addr × Obj)} (hz : L2N.Zn cls od oE) (hf : ∃ vs, oE.data = .fields vs) : HotC (X.suite a ((a, oE) :: pn)) := by
  obtain ⟨vs, hd⟩ := hf
  exact ⟨(a, oE), ⟨rfl, vs, hd, hz.2.2 vs hd⟩, List.mem_cons_self⟩
section
variable {tk : Tk} {X : Cx} {pos p : Pos} {e : Expr} {es : List Expr} {t : DTA} {k n : Nat} {f : Addr} {fd : FuncData} {ps : List Str} {c : DSp} {x : Str}
/-- f(e, ..) where an exception is handled -/
theorem de_callH (F : FnH X.prog X.w X.K X.mg X.base L2.CX0 k f fd ps (spD tk X.K n c)) (hr : RoomH k X.A) (hc : HotC X) (hg : Gl X x) (hm : X.mg x = some (.ref f)) (hk : PySem.W.keepIn X.K (.ref f) = true) (hb : Binds X.K fd ps [])
    (ha : DA tk X (e :: es) t) (hdb : (x == ("__debug__" : Str)) = false := by decide) (he : starEach (e :: es) X.env = (false, eval e X.env) :: starEach es X.env := by rfl) (hpl : (backTo pos (starEach es X.env)).any (·.1) = false := by rfl) :
    DE tk X (.Call (.Name x p) (e :: es) [] pos) (dCall n c [] t) := by
  refine pe_imp (pe_callH (E := fun _ => L2.E0) F hr hc hg hm hk hb (fun σ pins H s e s' I z => z.elim) ha hdb he hpl) ?_
  rintro σ H k ⟨F, pn, d, Q, I, q, c'⟩
  refine upA_at I q fun vs H1 xs d1 hl I1 q1 => ?_
  obtain ⟨O, T, I1⟩ := I1
  have rl : RepL X.K O T H1 (xs ++ []) vs := by rw [List.append_nil]; exact I1.args hl
  have J := I1.less
  exact ⟨by rw [rl.length]; exact q1.1, O, T, xs ++ [], J.dom, J.tok, rl, _, q1.2, fun y v H' qy ret => c' v H' y d1 (J.back ret) qy⟩
end
section
variable {P : Program} {w : World} {K : PySem.W.Frag} {mg : Str → Option Value} {base : Heap} {tk : Tk}
/-- a def over data, called where an exception is handled -/
theorem fn_DH (hf : ∀ F, tk.fr F) {x qual : Str} {params : Arguments} {body : List Stmt} {scope : Scope} {dvs : List V} {kws : List (Str × V)} {f : Addr} {fd : FuncData} {N ps : List Str} {k : Nat} {c : DSp} {t : DTS} (F : FunD K x qual params body scope dvs kws f fd) (S : FnScope N ps scope)
    (hb : ∀ (cdv : Value) (A : Around) (outer : List Env) (s : Shared) (H : Hp) (E : XK) (p : Addr × Obj), RoomH k (A.deeper (PyProof.Rows.envOfC qual scope s.heap.objs.size f cdv)) → DSs tk (cxH L2.CX0 P w K mg base N qual scope f cdv A outer s H E p).nox body t)
    (hc : ∀ xs Q, xs.length = ps.length → c xs Q → t ⟨fun _ => Q .non, Q, fun _ => False, fun _ => False⟩ (startD N (xs.map SV.sh))) : FnH P w K mg base L2.CX0 (k + 1) f fd ps (spD tk K ps.length c) := by
  obtain ⟨oc, od, dV, kV, doc, pm, an, cdv, ct, osl, rfl, lk, hcd, _, _⟩ := F.ex
  refine fn_ofH lk hcd S (fun vs H Q E h => h.1) fun A outer s H vs Q E p hot hr h => ?_
  obtain ⟨hl, O, T, xs, hd, ht, rl, Qd, q, ret⟩ := h
  have I0 : DIx tk K ⟨H, O, T⟩ (vs.zip (xs.map SV.sh)) [] H [] O T := by
    have J := pz_rep (base_DI (K := K) (hf _) hd ht) rl
    rw [List.append_nil, pz_zip] at J
    exact J
  have I := DIx.enter (N := N) (by rw [List.length_map, rl.length]) I0
  refine ⟨_, (hb cdv A outer s H E p hr).nox, ⟨H, O, T⟩, [], _, ⟨fun _ => Qd .non, Qd, fun _ => False, fun _ => False⟩, ⟨O, T, I⟩, hc xs Qd (by rw [← rl.length]; exact hl) q, ⟨fun σ H' d J q => ?_, fun v H' x r q => ret x v H' q r, fun σ H d J q => q.elim, fun σ H d J q => q.elim⟩⟩
  obtain ⟨O', T', J⟩ := J
  exact ret .non .non H' q ⟨_, σ, d, (DI.bare (tk := tk) ⟨O', T', J.add (x := .non) (v := .non) rfl⟩)⟩
end
end DL
set_option Elab.async false
set_option linter.all false
set_option maxRecDepth 100000
set_option maxHeartbeats 4000000
/-! DX6: objects whose __init__ may raise. -/
namespace DL
open PySem L2
section
variable {X : Cx} {CX : CXT} {k : Nat} {g C : Addr} {fd : FuncData} {ps : List Str} {sp : Sp} {Es : St → XK} {x : Str} {p pos : Pos} {e : Expr} {es : List Expr} {t : TA}
/-- C(e, ..), the wish of exceptions told by the slots -/
def tMakeS (C : Addr) (sp : Sp) (Es : St → XK) (t : TA) : TE := fun σ H Q => t σ H fun vs H1 => ∀ y dx, H1 y = none → H1 dx = none → dx ≠ y → sp (.ref y :: vs) (upd (upd H1 dx (.own y)) y (.ins C dx [])) (fun v H2 => v = .non ∧ Q (.ref y) H2) (Es σ)
theorem pe_makeS (M : Mk X.K C g) (G : FnOk X.prog X.w X.K X.mg X.base CX k g fd ps sp) (hr : Room (k + 1) X.A) (hg : Gl X x) (hm : X.mg x = some (.ref C)) (hb : Binds X.K fd ps []) (hx : ∀ σ, PassesAt CX X σ (Es σ)) (ha : PA X (e :: es) t)
    (hdb : (x == ("__debug__" : Str)) = false := by decide) (he : starEach (e :: es) X.env = (false, eval e X.env) :: starEach es X.env := by rfl) (hpl : (backTo pos (starEach es X.env)).any (·.1) = false := by rfl) :
    PE X (.Call (.Name x p) (e :: es) [] pos) (tMakeS C sp Es t) := by
  refine ⟨fun pins s0 σ H Q I0 q0 => wpAny_Call_Name_kw (ld_glob I0 hg hm (PySem.W.callWith_K (h₀ := X.base) I0.ok.mod.kin M.kp (thn (ha.run pos pins s0 σ H _ I0 q0) fun ws s hh => ?_) he hpl) hdb)⟩
  obtain ⟨vs, H1, I, rw1, q1⟩ := hh
  refine ⟨I.kIn, ?_⟩
  have q2 := q1 (s.heap.objs.size + 1) s.heap.objs.size (I.hok.fresh (Nat.le_succ _)) (I.hok.fresh (Nat.le_refl _)) (Nat.ne_of_lt (Nat.lt_succ_self _))
  have J := Inv.made (C := C) I
  have rw2 : Vals (V.ref (s.heap.objs.size + 1) :: vs) (Value.ref (s.heap.objs.size + 1) :: ws) := .cons rfl rw1
  have ln : (Value.ref (s.heap.objs.size + 1) :: ws ++ []).length = ps.length := by
    rw [List.append_nil, ← Paired.length rw2, G.len _ _ _ _ q2]
  have bd := hb _ (Value.ref (s.heap.objs.size + 1) :: ws) J.kIn ln
  rw [List.append_nil] at bd
  show wpAny _ _ (call (.ref C) ws) _ _ _
  refine wpAny_call (make_map (f := g) I.kIn M.makes M.init (beq_iff_eq.mp M.fn) (codeAny_mono (G.run _ X.stack _ _ ⟨Value.ref (s.heap.objs.size + 1) :: ws, []⟩ (Value.ref (s.heap.objs.size + 1) :: ws) _ _ (Es σ) (hr.make C ws []) (J.env0.make C ws []) bd rw2 q2) fun r s' z => ?_))
  cases r with
  | error er => exact hx σ pins _ _ er s' J z
  | ok fl =>
    cases fl with
    | ret u =>
      obtain ⟨v, H', J3, rv, ev, q3⟩ := J.after z
      subst ev
      exact ⟨rv, ⟨V.ref (s.heap.objs.size + 1), H', J3, rfl, q3⟩⟩
    | next => exact False.elim z
    | brk => exact False.elim z
    | cont => exact False.elim z
end
abbrev DMkX := List D → (List (Str × D) → Prop) → (Addr → D → Prop) → Prop
def spIX (tk : Tk) (K : PySem.W.Frag) (C : Addr) (n : Nat) (c : DMkX) : Sp := fun vs H Q E => vs.length = n + 1 ∧ ∃ (x dx : Addr) (H1 : Hp) (rest : List V) (O : Addr → Prop) (T : Tks) (xs : List D),
  vs = .ref x :: rest ∧ H1 x = none ∧ H1 dx = none ∧ dx ≠ x ∧ H = upd (upd H1 dx (.own x)) x (.ins C dx []) ∧ (∀ a, O a → H1 a ≠ none) ∧ (∀ p ∈ T, O p.1 ∧ O p.2 ∧ tk.ok H1 p.1 p.2) ∧ RepL K O T H1 xs rest ∧
  ∃ (Qd : List (Str × D) → Prop) (Ed : Addr → D → Prop), c xs Qd Ed ∧ (∀ fs H', Qd fs → (∃ pn σ d, DI tk.b K ⟨H1, O, T⟩ ((.ref x, .ob x C fs) :: pn) σ H' d) → Q .non H') ∧
    ∀ C' dd H' y, Ed C' y → (∃ σ d, ExAt tk.b K ⟨H1, O, T⟩ σ H' d dd y) → E (.ref C') (some dd) H'
section
variable {tk : Tk} {X : Cx} {W : WX} {Ed : DXW} {pos p : Pos} {e : Expr} {es : List Expr} {t : DTA} {k n : Nat} {g C : Addr} {fd : FuncData} {ps : List Str} {c : DMkX} {x : Str}
def dMakeX (n : Nat) (C : Addr) (c : DMkX) (Ed : DXW) (t : DTA) (d : DS) (Q : D → DS → Prop) : Prop := t d fun xs d1 => xs.length = n ∧ c xs (fun fs => Q (.obj C fs) d1) fun C' y => Ed C' y d1
theorem de_makeX (M : Mk X.K C g) (F : FnOk X.prog X.w X.K X.mg X.base (L2N.CX X.prog X.w) k g fd ps (spIX tk X.K C n c)) (tkW : L2N.Takes X W) (hr : Room (k + 1) X.A) (hg : Gl X x) (hm : X.mg x = some (.ref C)) (hb : Binds X.K fd ps [])
    (ha : DA (tk.w (LinkX tk X.K W Ed)) X (e :: es) t) (hdb : (x == ("__debug__" : Str)) = false := by decide) (he : starEach (e :: es) X.env = (false, eval e X.env) :: starEach es X.env := by rfl) (hpl : (backTo pos (starEach es X.env)).any (·.1) = false := by rfl) :
    DE (tk.w (LinkX tk X.K W Ed)) X (.Call (.Name x p) (e :: es) [] pos) (dMakeX n C c Ed t) := by
  refine pe_imp (pe_makeS (Es := WE W) M F hr hg hm hb (fun σ => L2N.passAt tkW σ) ha hdb he hpl) ?_
  rintro σ H k ⟨F, pn, d, Q, I, q, c'⟩
  refine upA_at I q fun vs H1 xs d1 hl I1 q1 y dx hy hdx hne => ?_
  obtain ⟨O, T, I1⟩ := I1
  have rl : RepL X.K O T H1 xs vs := I1.args hl
  have J := I1.less
  refine ⟨by rw [List.length_cons, rl.length, q1.1], y, dx, H1, vs, O, T, xs, rfl, hy, hdx, hne, rfl, J.dom, J.tok, rl, _, _, q1.2, fun fs H' qf mk => ⟨rfl, ?_⟩, fun C' dd H' z ez ⟨σ', d', ex⟩ => J.fx C' dd σ H' d1 z (ExAt.back (tk := tk) J.bare ex) ez⟩
  obtain ⟨pn', σ', d', MI⟩ := mk
  exact c' (.ref y) H' (.obj C fs) d1 (J.back ⟨pn', σ', d', DI.freezeP MI⟩) qf
end
section
variable {P : Program} {w : World} {K : PySem.W.Frag} {mg : Str → Option Value} {base : Heap} {tk : Tk}
theorem fn_IX {x qual : Str} {params : Arguments} {body : List Stmt} {scope : Scope} {dvs : List V} {kws : List (Str × V)} {f C : Addr} {fd : FuncData} {N ps : List Str} {k n : Nat} {c : DMkX} {t : (Addr → D → Prop) → DTS} (F : FunD K x qual params body scope dvs kws f fd) (S : FnScope N ps scope) (hn : ps.length = n + 1)
    (hb : ∀ (cdv : Value) (A : Around) (outer : List Env) (s : Shared) (H : Hp) (E : XK) (Ed : Addr → D → Prop), Room k (A.deeper (PyProof.Rows.envOfC qual scope s.heap.objs.size f cdv)) →
      DSs (tk.w (LinkX tk K (fun cls d _ H => E cls d H) fun C x _ => Ed C x)) (cxOf (L2N.CX P w) P w K mg base N qual scope f cdv A outer s H E) body (t Ed))
    (hc : ∀ (y : Addr) xs Q Ed, xs.length = n → c xs Q Ed → t Ed ⟨fun d => ∃ fs, d[0]? = some (some (.ob y C fs)) ∧ Q fs, fun _ => False, fun _ => False, fun _ => False⟩ (startD N (.ob y C [] :: xs.map SV.sh))) : FnOk P w K mg base (L2N.CX P w) (k + 1) f fd ps (spIX tk K C n c) := by
  refine F.ok S (fun vs H Q E h => by rw [hn]; exact h.1) fun cdv A outer s H vs Q E hr h => ?_
  obtain ⟨hl, y, dx, H1, rest, O, T, xs, rfl, hy, hdx, hne, rfl, hd, ht, rl, Qd, Ed, q, ret, exc⟩ := h
  have hf : LinkX tk K (fun cls d _ H => E cls d H) (fun C x _ => Ed C x) ⟨H1, O, T⟩ := fun C' dd σ H' d z ex ez => exc C' dd H' z ez ⟨σ, d, ex⟩
  have J0 := (pz_rep (base_DI (tk := tk.w (LinkX tk K (fun cls d _ H => E cls d H) fun C x _ => Ed C x)) (K := K) hf hd ht) rl).fresh (o := .own y) hdx
  have hy1 : upd H1 dx (.own y) y = none := by rw [upd_ne (Ne.symm hne)]; exact hy
  have J1 := J0.newOb (C := C) (dx := dx) hy1
  rw [List.append_nil, pz_zip] at J1
  have J1 : DIx (tk.w (LinkX tk K (fun cls d _ H => E cls d H) fun C x _ => Ed C x)) K ⟨H1, O, T⟩ ((V.ref y :: rest).zip (.ob y C [] :: xs.map SV.sh)) [] (upd (upd H1 dx (.own y)) y (.ins C dx [])) [] (fun a => O a ∨ a = y) T := J1
  have I := DIx.enter (N := N) (by rw [List.length_cons, List.length_cons, List.length_map, rl.length]) J1
  refine ⟨_, hb cdv A outer s _ E Ed hr, ⟨H1, O, T⟩, [], _, _, ⟨_, T, I⟩, hc y xs Qd Ed (by rw [← rl.length]; simpa using hl) q, ⟨fun σ H' d J q => ?_, fun v H' x r q => q.elim, fun σ H d J q => q.elim, fun σ H d J q => q.elim⟩⟩
  obtain ⟨fs, e, q⟩ := q
  obtain ⟨O', T', J⟩ := J
  obtain ⟨u, h1, h2⟩ := J.lift e
  obtain ⟨dx', gs, eu, _⟩ := h2.pe (u, .ob y C fs) (by simp)
  obtain rfl : u = .ref y := eu
  exact ret fs H' q ⟨_, σ, _, O', T', h2.bare⟩
end
end DL
set_option Elab.async false
set_option linter.all false
set_option maxRecDepth 100000
set_option maxHeartbeats 4000000
/-! DX7: what a caller wants of raising defs, classes and of errors. -/
namespace DL
open PySem L2 L2H
theorem DFn.w {tk : Tk} {P : Program} {w : World} {K : PySem.W.Frag} {mg : Str → Option Value} {base : Heap} {x : Str} {lv n : Nat} {ps : List Str} {f : Addr} {fd : FuncData} {c : DSp} {φ : FrC → Prop} (F : DFn tk P w K mg base x lv n ps f fd c) : DFn (tk.w φ) P w K mg base x lv n ps f fd c := ⟨F.at_, F.kp, F.ok, F.len⟩
theorem DCl.w {tk : Tk} {P : Program} {w : World} {K : PySem.W.Frag} {mg : Str → Option Value} {base : Heap} {x : Str} {lv n : Nat} {ps : List Str} {C f : Addr} {fd : FuncData} {c : DMk} {φ : FrC → Prop} (F : DCl tk P w K mg base x lv n ps C f fd c) : DCl (tk.w φ) P w K mg base x lv n ps C f fd c := ⟨F.at_, F.made, F.ok⟩
/-- a def that may raise -/
structure DFnX (tk : Tk) (P : Program) (w : World) (K : PySem.W.Frag) (mg : Str → Option Value) (base : Heap) (x : Str) (lv n : Nat) (ps : List Str) (f : Addr) (fd : FuncData) (c : DSpX) : Prop where
  at_ : mg x = some (.ref f)
  kp : PySem.W.keepIn K (.ref f) = true
  ok : FnOk P w K mg base (L2N.CX P w) lv f fd ps (spX tk K n c)
structure DClX (tk : Tk) (P : Program) (w : World) (K : PySem.W.Frag) (mg : Str → Option Value) (base : Heap) (x : Str) (lv n : Nat) (ps : List Str) (C f : Addr) (fd : FuncData) (c : DMkX) : Prop where
  at_ : mg x = some (.ref C)
  made : Mk K C f
  ok : FnOk P w K mg base (L2N.CX P w) lv f fd ps (spIX tk K C n c)
/-- a def called where an exception is handled -/
structure DFnH (tk : Tk) (P : Program) (w : World) (K : PySem.W.Frag) (mg : Str → Option Value) (base : Heap) (x : Str) (lv n : Nat) (ps : List Str) (f : Addr) (fd : FuncData) (c : DSp) : Prop where
  at_ : mg x = some (.ref f)
  kp : PySem.W.keepIn K (.ref f) = true
  ok : FnH P w K mg base L2.CX0 lv f fd ps (spD tk K n c)
/-- an error class of the text -/
structure ErrT (P : Program) (K : PySem.W.Frag) (mg : Str → Option Value) (x : Str) (C fI : Addr) (fd : FuncData) : Prop where
  at_ : mg x = some (.ref C)
  T : OexC K C
  X : XfC K C
  hno : PySem.W.findIn K (.ref C) "at" = some none
  iC : PySem.W.findIn K (.ref C) "__init__" = some (some (.ref fI))
  tI : PySem.W.typeIn K (.ref fI) = some (.type "function")
  ini : ∀ (w : World) (base : Heap) (CX : CXT) (k : Nat), FnOk P w K mg base CX (k + 1) fI fd ["self", "at"] (spTown C)
  bind : Binds K fd ["self", "at"] []
/-- an error of a class is what an except clause of that class names -/
theorem exm_own {K : PySem.W.Frag} {S : Addr} (s1 : PySem.W.subIn K (.ref S) (.type "BaseException") = some true) (s2 : PySem.W.isClsIn K S = true) (s3 : PySem.W.typeIn K (.ref S) = some (.type "type")) (s4 : PySem.W.subIn K (.ref S) (.ref S) = some true) : PySem.W.exmOne K (.ref S) (.ref S) = some true := by
  have c1 : (PySem.W.subIn K (.ref S) (.type "BaseException") == some true) = true := by rw [s1]; rfl
  have c3 : (PySem.W.clsIn K S).isSome = true := s2
  have c2 : ((PySem.W.clsIn K S).isSome && PySem.W.typeIn K (.ref S) == some (.type "type")) = true := by rw [c3, s3]; rfl
  show ite _ (ite _ (PySem.W.subIn K (.ref S) (.ref S)) none) none = some true
  exact (if_pos c1).trans ((if_pos c2).trans s4)
section
variable {tk : Tk} {P : Program} {w : World} {K : PySem.W.Frag} {mg : Str → Option Value} {base : Heap}
theorem DFnX.of {x qual : Str} {st : Stmt} {dvs : List V} {f : Addr} {fd : FuncData} {N ps : List Str} {k n : Nat} {c : DSpX} {t : (Addr → D → Prop) → DTS} (F : FnT K mg x qual st dvs f fd) (S : FnScope N ps (defScope st)) (hn : ps.length = n)
    (hb : ∀ (cdv : Value) (A : Around) (outer : List Env) (s : Shared) (H : Hp) (E : XK) (Ed : Addr → D → Prop), Room k (A.deeper (PyProof.Rows.envOfC qual (defScope st) s.heap.objs.size f cdv)) →
      DSs (tk.w (LinkX tk K (fun cls d _ H => E cls d H) fun C x _ => Ed C x)) (cxOf (L2N.CX P w) P w K mg base N qual (defScope st) f cdv A outer s H E) (defBody st) (t Ed))
    (hc : ∀ xs Q Ed, xs.length = n → c xs Q Ed → t Ed ⟨fun _ => Q .non, Q, fun _ => False, fun _ => False⟩ (startD N (xs.map SV.sh))) : DFnX tk P w K mg base x (k + 1) n ps f fd c := by
  subst hn
  exact ⟨F.at_, F.fn.kp, fn_X F.fn S hb hc⟩
theorem DClX.of {x qual : Str} {st : Stmt} {dvs : List V} {f C : Addr} {fd : FuncData} {N ps : List Str} {k n : Nat} {c : DMkX} {t : (Addr → D → Prop) → DTS} (F : ClT K mg x qual st dvs C f fd) (S : FnScope N ps (defScope st)) (hn : ps.length = n + 1)
    (hb : ∀ (cdv : Value) (A : Around) (outer : List Env) (s : Shared) (H : Hp) (E : XK) (Ed : Addr → D → Prop), Room k (A.deeper (PyProof.Rows.envOfC qual (defScope st) s.heap.objs.size f cdv)) →
      DSs (tk.w (LinkX tk K (fun cls d _ H => E cls d H) fun C x _ => Ed C x)) (cxOf (L2N.CX P w) P w K mg base N qual (defScope st) f cdv A outer s H E) (defBody st) (t Ed))
    (hc : ∀ (y : Addr) xs Q Ed, xs.length = n → c xs Q Ed → t Ed ⟨fun d => ∃ fs, d[0]? = some (some (.ob y C fs)) ∧ Q fs, fun _ => False, fun _ => False, fun _ => False⟩ (startD N (.ob y C [] :: xs.map SV.sh))) : DClX tk P w K mg base x (k + 1) n ps C f fd c :=
  ⟨F.at_, F.made, fn_IX F.fn S hn hb hc⟩
theorem DFnH.of (hf : ∀ F, tk.fr F) {x qual : Str} {st : Stmt} {dvs : List V} {f : Addr} {fd : FuncData} {N ps : List Str} {k n : Nat} {c : DSp} {t : DTS} (F : FnT K mg x qual st dvs f fd) (S : FnScope N ps (defScope st)) (hn : ps.length = n)
    (hb : ∀ (cdv : Value) (A : Around) (outer : List Env) (s : Shared) (H : Hp) (E : XK) (p : Addr × Obj), RoomH k (A.deeper (PyProof.Rows.envOfC qual (defScope st) s.heap.objs.size f cdv)) → DSs tk (cxH L2.CX0 P w K mg base N qual (defScope st) f cdv A outer s H E p).nox (defBody st) t)
    (hc : ∀ xs Q, xs.length = n → c xs Q → t ⟨fun _ => Q .non, Q, fun _ => False, fun _ => False⟩ (startD N (xs.map SV.sh))) : DFnH tk P w K mg base x (k + 1) n ps f fd c := by
  subst hn
  exact ⟨F.at_, F.fn.kp, fn_DH hf F.fn S hb hc⟩
end
section
variable {tk : Tk} {X : Cx} {W : WX} {Ed : DXW} {pos p posr : Pos} {e : Expr} {es : List Expr} {t : DTA} {te : DTE} {x : Str} {k n : Nat} {ps : List Str} {f g C : Addr} {fd : FuncData}
theorem de_fnX {c : DSpX} (G : DFnX tk X.prog X.w X.K X.mg X.base x k n ps f fd c) (tkW : L2N.Takes X W) (hb : Binds X.K fd ps []) (hr : Room k X.A) (ha : DA (tk.w (LinkX tk X.K W Ed)) X (e :: es) t) (hg : Gl X x := by rfl) (hdb : (x == ("__debug__" : Str)) = false := by decide)
    (he : starEach (e :: es) X.env = (false, eval e X.env) :: starEach es X.env := by rfl) (hpl : (backTo pos (starEach es X.env)).any (·.1) = false := by rfl) : DE (tk.w (LinkX tk X.K W Ed)) X (.Call (.Name x p) (e :: es) [] pos) (dCallX n c Ed t) :=
  de_callX G.ok tkW hr hg G.at_ G.kp hb ha hdb he hpl
theorem de_clX {c : DMkX} (G : DClX tk X.prog X.w X.K X.mg X.base x k n ps C g fd c) (tkW : L2N.Takes X W) (hb : Binds X.K fd ps []) (hr : Room (k + 1) X.A) (ha : DA (tk.w (LinkX tk X.K W Ed)) X (e :: es) t) (hg : Gl X x := by rfl) (hdb : (x == ("__debug__" : Str)) = false := by decide)
    (he : starEach (e :: es) X.env = (false, eval e X.env) :: starEach es X.env := by rfl) (hpl : (backTo pos (starEach es X.env)).any (·.1) = false := by rfl) : DE (tk.w (LinkX tk X.K W Ed)) X (.Call (.Name x p) (e :: es) [] pos) (dMakeX n C c Ed t) :=
  de_makeX G.made G.ok tkW hr hg G.at_ hb ha hdb he hpl
theorem de_fnH {c : DSp} (G : DFnH tk X.prog X.w X.K X.mg X.base x k n ps f fd c) (hc : HotC X) (hb : Binds X.K fd ps []) (hr : RoomH k X.A) (ha : DA tk X (e :: es) t) (hg : Gl X x := by rfl) (hdb : (x == ("__debug__" : Str)) = false := by decide)
    (he : starEach (e :: es) X.env = (false, eval e X.env) :: starEach es X.env := by rfl) (hpl : (backTo pos (starEach es X.env)).any (·.1) = false := by rfl) : DE tk X (.Call (.Name x p) (e :: es) [] pos) (dCall n c [] t) :=
  de_callH G.ok hr hc hg G.at_ G.kp hb ha hdb he hpl
theorem ds_raiseE (G : ErrT X.prog X.K X.mg x C f fd) (tkW : L2N.Takes X W) (hr : Room (0 + 1 + 1) X.A) (he : DE (tk.w (LinkX tk X.K W Ed)) X e te) (hc : X.calm = true := by rfl) (hg : Gl X x := by rfl) (hdb : (x == ("__debug__" : Str)) = false := by decide)
    (hse : starEach [e] X.env = (false, eval e X.env) :: starEach [] X.env := by rfl) (hpl : (backTo pos (starEach [] X.env)).any (·.1) = false := by rfl) : DSt (tk.w (LinkX tk X.K W Ed)) X (.Raise (some (.Call (.Name x p) [e] [] pos)) none posr) (sRaise C te Ed) :=
  ds_raise hc tkW G.T G.iC G.tI (G.ini _ _ _ 0) hr G.bind hg G.at_ he hdb hse hpl
theorem takesN0 : L2N.Takes X (fun _ _ _ _ => False) := fun _ _ x => by
  obtain ⟨_, _, _, _, _, _, _, _, _, _, _, _, _, _, _, _, z⟩ := x
  exact z.elim
end
end DL
set_option Elab.async false
set_option linter.all false
set_option maxRecDepth 100000
set_option maxHeartbeats 4000000
/-! DX8: further expressions. -/
namespace DL
open PySem L2
section
variable {tk : Tk} {X : Cx} {pos p : Pos} {e : Expr} {te : DTE}
/-- list(e), e a list or a tuple: a list of its own -/
def dListF (te : DTE) (d : DS) (Q : List D → DS → Prop) : Prop := te d fun x d1 => match x with
  | .tup xs => Q xs d1
  | .lst xs => Q xs d1
  | .frz xs => Q xs d1
  | _ => False
theorem df_list (hg : Gl X "list") (hm : X.mg "list" = none) (he : DE tk X e te) (hs : starEach [e] X.env = (false, eval e X.env) :: starEach [] X.env := by rfl) (hpl : (backTo pos (starEach [] X.env)).any (·.1) = false := by rfl) : DF tk X (.Call (.Name "list" p) [e] [] pos) (dListF te) := by
  refine pe_imp (pe_callTy call_list_of hg hm (by decide +kernel) (pa_cons he pa_nil hs) (by decide) (by decide) hs hpl) ?_
  rintro σ H k ⟨F, pn, d, Q, I, q, c⟩
  refine upE_at I q fun v H1 x d1 I1 q1 => ?_
  obtain ⟨O, T, I1⟩ := I1
  have r1 : Rep X.K O T H1 x v := I1.pe (v, .sh x) (by simp)
  have J := I1.drop (pn' := pn) (by simp)
  split at q1
  · obtain ⟨a, vs, rfl, ha, rv⟩ := id r1
    exact ⟨a, vs, rfl, .inr ha.sq, fun l hl => c _ _ _ d1 (DI.newO J hl rv) q1⟩
  · obtain ⟨a, vs, rfl, ha, rv⟩ := id r1
    exact ⟨a, vs, rfl, .inl (SqL.of ha.2), fun l hl => c _ _ _ d1 (DI.newO J hl rv) q1⟩
  · obtain ⟨a, vs, rfl, ha, rv⟩ := id r1
    exact ⟨a, vs, rfl, .inl ha.sq, fun l hl => c _ _ _ d1 (DI.newO J hl rv) q1⟩
  · exact q1.elim
end
end DL
set_option Elab.async false
set_option linter.all false
set_option maxRecDepth 100000
set_option maxHeartbeats 4000000
/-! DX9: words for reading comprehensions and tests. -/
namespace DL
open PySem L2
section
variable {α β : Type} {as : List α} {e : α → D} {f : α → Option D} {i : Nat} {acc : List D} {a : α} {y z : D}
theorem map_at (h : (as.map e)[i]? = some y) : ∃ a, as[i]? = some a ∧ y = e a := by
  rw [List.getElem?_map] at h
  obtain ⟨a, h1, h2⟩ := Option.map_eq_some_iff.mp h
  exact ⟨a, h1, h2.symm⟩
/-- what a comprehension has gathered behind i items -/
def lcA (as : List α) (f : α → Option D) (i : Nat) (acc : List D) : Prop := acc = (as.take i).filterMap f
theorem lcA0 : lcA as f 0 [] := rfl
theorem take_fm (hy : as[i]? = some a) : (as.take (i + 1)).filterMap f = (as.take i).filterMap f ++ (f a).toList := by
  have hi : i < as.length := (List.getElem?_eq_some_iff.mp hy).1
  rw [List.take_succ, hy, List.filterMap_append]
  refine congrArg _ ?_
  show List.filterMap f [a] = _
  rw [List.filterMap_cons]
  cases f a <;> rfl
theorem lcAs (hy : as[i]? = some a) (h : lcA as f i acc) (hz : f a = some z) : lcA as f (i + 1) (acc ++ [z]) := by
  unfold lcA at h ⊢
  rw [take_fm hy, hz, h]
  rfl
theorem lcAn (hy : as[i]? = some a) (h : lcA as f i acc) (hz : f a = none) : lcA as f (i + 1) acc := by
  unfold lcA at h ⊢
  rw [take_fm hy, hz, h]
  exact (List.append_nil _).symm
theorem lcAlt (hy : as[i]? = some a) (h : lcA as f i acc) (hn : as.length ≤ 1000000) : acc.length < sizeLine := by
  have hi : i < as.length := (List.getElem?_eq_some_iff.mp hy).1
  unfold lcA at h
  rw [h, sizeLine_eq]
  have := List.length_filterMap_le f (as.take i)
  rw [List.length_take] at this
  omega
theorem lcAe (h : lcA as f (as.map e).length acc) : acc = as.filterMap f := by
  unfold lcA at h
  rw [h, List.length_map, List.take_length]
theorem lcAe' (h : lcA as f as.length acc) : acc = as.filterMap f := by
  unfold lcA at h
  rw [h, List.take_length]
theorem fm_some {g : α → β} : as.filterMap (fun a => some (g a)) = as.map g := by rw [← List.filterMap_eq_map]; rfl
theorem fm_if {p : α → Bool} {g : α → D} : as.filterMap (fun a => if p a = true then some (g a) else none) = (as.filter p).map g := by
  induction as with
  | nil => rfl
  | cons a as ih =>
    rw [List.filterMap_cons]
    by_cases h : p a = true
    · rw [if_pos h, List.filter_cons_of_pos h, List.map_cons, ih]
    · rw [if_neg h, List.filter_cons_of_neg h, ih]
end
/-- walked to the end of a for -/
theorem drop_at {α : Type} {as : List α} {i : Nat} {a : α} (h : as[i]? = some a) : as.drop i = a :: as.drop (i + 1) := by
  obtain ⟨h1, h2⟩ := List.getElem?_eq_some_iff.mp h
  rw [List.drop_eq_getElem_cons h1, h2]
theorem ixr_at {i : Nat} {n : Nat} {y : D} (h : (rngD 0 n)[i]? = some y) : i < n ∧ y = .int i := by
  obtain ⟨h1, h2⟩ := rngD_at h
  exact ⟨h1, by rw [h2, Int.zero_add]⟩
theorem rng_at {i : Nat} {n : Nat} {y : D} (h : (rngD 0 n)[i]? = some y) : (List.range n)[i]? = some i ∧ i < n ∧ y = .int i := by
  obtain ⟨h1, h2⟩ := ixr_at h
  exact ⟨List.getElem?_range h1, h1, h2⟩
theorem lcAr {n : Nat} {lo : Int} {f : Nat → Option D} {acc : List D} (h : lcA (List.range n) f (rngD lo n).length acc) : acc = (List.range n).filterMap f := by
  rw [rngD_len] at h
  unfold lcA at h
  rw [h, List.take_of_length_le (by rw [List.length_range]; exact Nat.le_refl _)]
theorem max_if (a b : Int) : (if b > a then b else a) = max a b := by split <;> omega
theorem min_if (a b : Int) : (if b < a then b else a) = min a b := by split <;> omega
theorem flat_one {α : Type} (x : α) : ∀ n : Nat, (List.replicate n [x]).flatten = List.replicate n x
  | 0 => rfl
  | n + 1 => by rw [List.replicate_succ, List.flatten_cons, flat_one x n, List.replicate_succ]; rfl
theorem tyn_non : tyn (D.non) = some "NoneType" := rfl
theorem isd_non_int : isa (D.non) "int" = some false := rfl
theorem isd_non_bool : isa (D.non) "bool" = some false := rfl
theorem isd_non_str : isa (D.non) "str" = some false := rfl
theorem isd_non_tuple : isa (D.non) "tuple" = some false := rfl
theorem isd_non_list : isa (D.non) "list" = some false := rfl
theorem tyn_bl {b : Bool} : tyn (D.bl b) = some "bool" := rfl
theorem isd_bl_int {b : Bool} : isa (D.bl b) "int" = some true := rfl
theorem isd_bl_bool {b : Bool} : isa (D.bl b) "bool" = some true := rfl
theorem isd_bl_str {b : Bool} : isa (D.bl b) "str" = some false := rfl
theorem isd_bl_tuple {b : Bool} : isa (D.bl b) "tuple" = some false := rfl
theorem isd_bl_list {b : Bool} : isa (D.bl b) "list" = some false := rfl
theorem tyn_int {i : Int} : tyn (D.int i) = some "int" := rfl
theorem isd_int_int {i : Int} : isa (D.int i) "int" = some true := rfl
theorem isd_int_bool {i : Int} : isa (D.int i) "bool" = some false := rfl
theorem isd_int_str {i : Int} : isa (D.int i) "str" = some false := rfl
theorem isd_int_tuple {i : Int} : isa (D.int i) "tuple" = some false := rfl
theorem isd_int_list {i : Int} : isa (D.int i) "list" = some false := rfl
theorem tyn_str {x : Str} : tyn (D.str x) = some "str" := rfl
theorem isd_str_int {x : Str} : isa (D.str x) "int" = some false := rfl
theorem isd_str_bool {x : Str} : isa (D.str x) "bool" = some false := rfl
theorem isd_str_str {x : Str} : isa (D.str x) "str" = some true := rfl
theorem isd_str_tuple {x : Str} : isa (D.str x) "tuple" = some false := rfl
theorem isd_str_list {x : Str} : isa (D.str x) "list" = some false := rfl
theorem tyn_tup {xs : List D} : tyn (D.tup xs) = some "tuple" := rfl
theorem isd_tup_int {xs : List D} : isa (D.tup xs) "int" = some false := rfl
theorem isd_tup_bool {xs : List D} : isa (D.tup xs) "bool" = some false := rfl
theorem isd_tup_str {xs : List D} : isa (D.tup xs) "str" = some false := rfl
theorem isd_tup_tuple {xs : List D} : isa (D.tup xs) "tuple" = some true := rfl
theorem isd_tup_list {xs : List D} : isa (D.tup xs) "list" = some false := rfl
theorem tyn_lst {xs : List D} : tyn (D.lst xs) = some "list" := rfl
theorem isd_lst_int {xs : List D} : isa (D.lst xs) "int" = some false := rfl
theorem isd_lst_bool {xs : List D} : isa (D.lst xs) "bool" = some false := rfl
theorem isd_lst_str {xs : List D} : isa (D.lst xs) "str" = some false := rfl
theorem isd_lst_tuple {xs : List D} : isa (D.lst xs) "tuple" = some false := rfl
theorem isd_lst_list {xs : List D} : isa (D.lst xs) "list" = some true := rfl
theorem tyn_frz {xs : List D} : tyn (D.frz xs) = some "list" := rfl
theorem isd_frz_int {xs : List D} : isa (D.frz xs) "int" = some false := rfl
theorem isd_frz_bool {xs : List D} : isa (D.frz xs) "bool" = some false := rfl
theorem isd_frz_str {xs : List D} : isa (D.frz xs) "str" = some false := rfl
theorem isd_frz_tuple {xs : List D} : isa (D.frz xs) "tuple" = some false := rfl
theorem isd_frz_list {xs : List D} : isa (D.frz xs) "list" = some true := rfl
theorem all_lc {α : Type} {as : List α} {p : α → Bool} {acc : List D} (h : acc = as.filterMap fun a => some (.bl (p a))) : ∃ bs : List Bool, acc = bs.map D.bl ∧ bs.all id = as.all p :=
  ⟨as.map p, by rw [h, fm_some, List.map_map]; rfl, by rw [List.all_map]; rfl⟩
theorem any_lc {α : Type} {as : List α} {p : α → Bool} {acc : List D} (h : acc = as.filterMap fun a => some (.bl (p a))) : ∃ bs : List Bool, acc = bs.map D.bl ∧ bs.any id = as.any p :=
  ⟨as.map p, by rw [h, fm_some, List.map_map]; rfl, by rw [List.any_map]; rfl⟩
theorem len2 {α : Type} {xs : List α} (h : xs.length = 2) : ∃ a b, xs = [a, b] := match xs, h with
  | [a, b], _ => ⟨a, b, rfl⟩
theorem len3 {α : Type} {xs : List α} (h : xs.length = 3) : ∃ a b c, xs = [a, b, c] := match xs, h with
  | [a, b, c], _ => ⟨a, b, c, rfl⟩
theorem atI_map {α : Type} {as : List α} {e : α → D} {i : Nat} {a : α} {z : Int} (h : as[i]? = some a) (hz : z = i) : L2.atI (as.map e) z = some (e a) := by
  subst hz
  exact atI_nat (by rw [List.getElem?_map, h]; rfl)
theorem getD_at {ns : List Int} {i : Nat} (h : i < ns.length) : ns[i]? = some (ns.getD i 0) := by
  rw [List.getD_eq_getElem?_getD, List.getElem?_eq_getElem h]
  rfl
theorem atI_ints {ns : List Int} {i : Nat} {z : Int} (h : i < ns.length) (hz : z = i) : L2.atI (ns.map D.int) z = some (.int (ns.getD i 0)) := atI_map (getD_at h) hz
theorem atI_last {α : Type} {as : List α} {e : α → D} {a : α} (h : as.getLast? = some a) : L2.atI (as.map e) (-1) = some (e a) := by
  have hl : 0 < as.length := by
    cases as with
    | nil => cases h
    | cons _ _ => exact Nat.zero_lt_succ _
  have h2 : as[as.length - 1]? = some a := by rw [← List.getLast?_eq_getElem?]; exact h
  unfold L2.atI L2.ixN
  rw [List.length_map, if_neg (by decide), if_pos (by omega)]
  show (as.map e)[_]? = _
  rw [show (-1 + ((as.length : Nat) : Int)).toNat = as.length - 1 by omega, List.getElem?_map, h2]
  rfl
theorem nbF {b : Bool} (h : (!b) = true) : b = false := by cases b <;> first | rfl | cases h
theorem nbT {b : Bool} (h : (!b) = false) : b = true := by cases b <;> first | rfl | cases h
theorem nf {b : Bool} (h : b = false) : ¬ b = true := by rw [h]; exact Bool.false_ne_true
theorem all_cong {α : Type} {p q : α → Bool} : ∀ {as : List α}, (∀ a ∈ as, p a = q a) → as.all p = as.all q
  | [], _ => rfl
  | a :: as, h => by
    rw [List.all_cons, List.all_cons, h a (List.mem_cons_self), all_cong fun b hb => h b (List.mem_cons_of_mem _ hb)]
theorem any_cong {α : Type} {p q : α → Bool} : ∀ {as : List α}, (∀ a ∈ as, p a = q a) → as.any p = as.any q
  | [], _ => rfl
  | a :: as, h => by
    rw [List.any_cons, List.any_cons, h a (List.mem_cons_self), any_cong fun b hb => h b (List.mem_cons_of_mem _ hb)]
theorem roomH_mark {k : Nat} {A : Around} (r : Room k A) (h : Option Value) : L2H.RoomH k (A.mark h) := ⟨r.dp, r.un⟩
theorem ds_tryK {tk : Tk} {X : Cx} {Wout : WX} {x n : Str} {C0 : Addr} {i : Nat} {body suite : List Stmt} {b₀ : Stmt} {np pos pos' : Pos} {tB : DXW → DTS} {tS : Addr → Value → Option Addr → DTS} (K : PySem.W.Frag)
    (hs : X.stack = X.env :: X.outer) (hf : X.env.frame = some X.env.locals) (hN : X.N.Nodup) (hi : X.N[i]? = some n) (hln : X.env.kindOf n = some .local) (hc : Names X x (.ref C0)) (tkW : L2N.Takes X Wout)
    (hb : ∀ (Ed : DXW) (W : WX) (pn : List (Addr × Obj)) (xe : Value → Shared → Prop), L2N.Takes (X.tr pn xe) W → PassesOwn (model X.prog X.w) X.A X.env xe → DSs (tk.w (LinkX tk X.K W Ed)) (X.tr pn xe) body (tB Ed))
    (hsu : ∀ (a : Addr) (oe : Obj) (cls : Value) (d : Option Addr) (pn : List (Addr × Obj)), L2N.Zn cls d oe → (∃ vs, oe.data = .fields vs) → DSs tk (X.suite a ((a, oe) :: pn)) (b₀ :: suite) (tS a cls d)) (hK : X.K = K := by rfl) :
    DSt tk X (.Try body [.ExceptHandler (some (.Name x np)) (some n) (b₀ :: suite) pos'] [] [] pos) (sTry K C0 i tB tS) := by
  subst hK
  exact ds_try hs hf hN hi hln hc tkW hb hsu
theorem de_xatK {tk : Tk} {X : Cx} {a : Addr} {oE : Obj} {cls : Value} {od : Option Addr} {pn : List (Addr × Obj)} {e : Expr} {pos : Pos} {i : Nat} (K : PySem.W.Frag) (hz : L2N.Zn cls od oE) (hf : ∃ vs, oE.data = .fields vs) (he : PE (X.suite a ((a, oE) :: pn)) e (tVar i)) (hb : attributeBase e "at" X.env (eval e X.env) = eval e X.env := by rfl) (hK : X.K = K := by rfl) : DE tk (X.suite a ((a, oE) :: pn)) (.Attribute e "at" pos) (dXat K a cls od i) := by
  subst hK
  exact de_xat hz hf he hb
def shB : DS → Bool
  | [] => true
  | some s :: d => !s.own && shB d
  | none :: d => shB d
theorem shB_ok : ∀ {d : DS}, shB d = true → ∀ (j : Nat) (s : SV), d[j]? = some (some s) → s.own = false
  | some s :: d, h, 0, t, e => by
    cases e
    exact nbF (Bool.and_eq_true_iff.mp h).1
  | some s :: d, h, j + 1, t, e => shB_ok (d := d) (Bool.and_eq_true_iff.mp h).2 j t e
  | none :: d, h, 0, t, e => by cases e
  | none :: d, h, j + 1, t, e => shB_ok (d := d) h j t e
theorem sqJ {t u : DTS} {E : DEn} {d : DS} (M : DS → Prop) (hr : ∀ d', M d' → u E d') (ht : (∀ d', M d' → u E d') → t { E with nx := u E } d) : sSeq t u E d := ht hr
theorem mul_ok {i j : Int} (h : -(2 ^ 62) ≤ i) (h' : i ≤ 2 ^ 62) : MulOk i j := .inl (.inl ⟨by omega, by omega⟩)
theorem at_1_0 {x0 : D} : L2.atI [x0] 0 = some x0 := rfl
theorem at_1_m {x0 : D} : L2.atI [x0] (-1) = some x0 := rfl
theorem at_2_0 {x0 x1 : D} : L2.atI [x0, x1] 0 = some x0 := rfl
theorem at_2_1 {x0 x1 : D} : L2.atI [x0, x1] 1 = some x1 := rfl
theorem at_2_m {x0 x1 : D} : L2.atI [x0, x1] (-1) = some x1 := rfl
theorem at_3_0 {x0 x1 x2 : D} : L2.atI [x0, x1, x2] 0 = some x0 := rfl
theorem at_3_1 {x0 x1 x2 : D} : L2.atI [x0, x1, x2] 1 = some x1 := rfl
theorem at_3_2 {x0 x1 x2 : D} : L2.atI [x0, x1, x2] 2 = some x2 := rfl
theorem at_3_m {x0 x1 x2 : D} : L2.atI [x0, x1, x2] (-1) = some x2 := rfl
theorem at_4_0 {x0 x1 x2 x3 : D} : L2.atI [x0, x1, x2, x3] 0 = some x0 := rfl
theorem at_4_1 {x0 x1 x2 x3 : D} : L2.atI [x0, x1, x2, x3] 1 = some x1 := rfl
theorem at_4_2 {x0 x1 x2 x3 : D} : L2.atI [x0, x1, x2, x3] 2 = some x2 := rfl
theorem at_4_3 {x0 x1 x2 x3 : D} : L2.atI [x0, x1, x2, x3] 3 = some x3 := rfl
theorem at_4_m {x0 x1 x2 x3 : D} : L2.atI [x0, x1, x2, x3] (-1) = some x3 := rfl
theorem at_5_0 {x0 x1 x2 x3 x4 : D} : L2.atI [x0, x1, x2, x3, x4] 0 = some x0 := rfl
theorem at_5_1 {x0 x1 x2 x3 x4 : D} : L2.atI [x0, x1, x2, x3, x4] 1 = some x1 := rfl
theorem at_5_2 {x0 x1 x2 x3 x4 : D} : L2.atI [x0, x1, x2, x3, x4] 2 = some x2 := rfl
theorem at_5_3 {x0 x1 x2 x3 x4 : D} : L2.atI [x0, x1, x2, x3, x4] 3 = some x3 := rfl
theorem at_5_4 {x0 x1 x2 x3 x4 : D} : L2.atI [x0, x1, x2, x3, x4] 4 = some x4 := rfl
theorem at_5_m {x0 x1 x2 x3 x4 : D} : L2.atI [x0, x1, x2, x3, x4] (-1) = some x4 := rfl
theorem at_6_0 {x0 x1 x2 x3 x4 x5 : D} : L2.atI [x0, x1, x2, x3, x4, x5] 0 = some x0 := rfl
theorem at_6_1 {x0 x1 x2 x3 x4 x5 : D} : L2.atI [x0, x1, x2, x3, x4, x5] 1 = some x1 := rfl
theorem at_6_2 {x0 x1 x2 x3 x4 x5 : D} : L2.atI [x0, x1, x2, x3, x4, x5] 2 = some x2 := rfl
theorem at_6_3 {x0 x1 x2 x3 x4 x5 : D} : L2.atI [x0, x1, x2, x3, x4, x5] 3 = some x3 := rfl
theorem at_6_4 {x0 x1 x2 x3 x4 x5 : D} : L2.atI [x0, x1, x2, x3, x4, x5] 4 = some x4 := rfl
theorem at_6_5 {x0 x1 x2 x3 x4 x5 : D} : L2.atI [x0, x1, x2, x3, x4, x5] 5 = some x5 := rfl
theorem at_6_m {x0 x1 x2 x3 x4 x5 : D} : L2.atI [x0, x1, x2, x3, x4, x5] (-1) = some x5 := rfl
theorem at_7_0 {x0 x1 x2 x3 x4 x5 x6 : D} : L2.atI [x0, x1, x2, x3, x4, x5, x6] 0 = some x0 := rfl
theorem at_7_1 {x0 x1 x2 x3 x4 x5 x6 : D} : L2.atI [x0, x1, x2, x3, x4, x5, x6] 1 = some x1 := rfl
theorem at_7_2 {x0 x1 x2 x3 x4 x5 x6 : D} : L2.atI [x0, x1, x2, x3, x4, x5, x6] 2 = some x2 := rfl
theorem at_7_3 {x0 x1 x2 x3 x4 x5 x6 : D} : L2.atI [x0, x1, x2, x3, x4, x5, x6] 3 = some x3 := rfl
theorem at_7_4 {x0 x1 x2 x3 x4 x5 x6 : D} : L2.atI [x0, x1, x2, x3, x4, x5, x6] 4 = some x4 := rfl
theorem at_7_5 {x0 x1 x2 x3 x4 x5 x6 : D} : L2.atI [x0, x1, x2, x3, x4, x5, x6] 5 = some x5 := rfl
theorem at_7_6 {x0 x1 x2 x3 x4 x5 x6 : D} : L2.atI [x0, x1, x2, x3, x4, x5, x6] 6 = some x6 := rfl
theorem at_7_m {x0 x1 x2 x3 x4 x5 x6 : D} : L2.atI [x0, x1, x2, x3, x4, x5, x6] (-1) = some x6 := rfl
theorem sz {n : Nat} (h : n ≤ 16000000) : n ≤ sizeLine := Nat.le_trans h (by rw [sizeLine_eq]; decide)
theorem szl {n : Nat} (h : n ≤ 16000000) : n < sizeLine := Nat.lt_of_le_of_lt h (by rw [sizeLine_eq]; decide)
end DL
set_option Elab.async false
set_option linter.all false
set_option maxRecDepth 100000
set_option maxHeartbeats 4000000
/-! DX10: a reading evaluated from its head. -/
namespace DL
open PySem L2
def pkS (i : Nat) (d : DS) (k : D → Prop) : Prop := match dPk i d with
  | some x => k x
  | none => False
def augS (i : Nat) (d : DS) (k : Int → Prop) : Prop := match dPk i d with
  | some (.int z) => k z
  | _ => False
def powS (y : D) (i : Nat) (d : DS) (k : Int → List D → Prop) : Prop := match y, d[i]? with
  | .int z, some (some (.ow xs)) => k z xs
  | _, _ => False
def putS (i : Nat) (s : Option SV) (d : DS) (k : DS → Prop) : Prop := k (d.set i s)
def owS (i : Nat) (d : DS) (k : List D → Prop) : Prop := match d[i]? with
  | some (some (.ow xs)) => k xs
  | _ => False
def obS (i : Nat) (d : DS) (k : Addr → Addr → List (Str × D) → Prop) : Prop := match d[i]? with
  | some (some (.ob a C fs)) => k a C fs
  | _ => False
def tstS (x : D) (k : Bool → Prop) : Prop := match x with
  | .bl c => k c
  | _ => False
def intS (x : D) (k : Int → Prop) : Prop := match x with
  | .int c => k c
  | _ => False
def seqS (x : D) (k : List D → Prop) : Prop := match x with
  | .lst xs => k xs
  | .tup xs => k xs
  | _ => False
def lfS (x : D) (k : List D → Prop) : Prop := match x with
  | .tup xs => k xs
  | .lst xs => k xs
  | .frz xs => k xs
  | _ => False
def rvS (x : D) (k : List D → Prop) : Prop := match x with
  | .lst xs => k xs.reverse
  | .frz xs => k xs.reverse
  | _ => False
def tupS (x : D) (k : List D → Prop) : Prop := match x with
  | .tup xs => k xs
  | _ => False
def cutS (x : D) (lo hi : Option Int) (k : D → Prop) : Prop := match x with
  | .tup xs => k (.tup (cutD xs lo hi))
  | .lst xs => k (.lst (cutD xs lo hi))
  | .frz xs => k (.lst (cutD xs lo hi))
  | _ => False
def objS (K : PySem.W.Frag) (f : Str) (x : D) (k : D → Prop) : Prop := match x with
  | .obj C fs => AtOk K C f ∧ match fs.lookup f with
    | some y => k y
    | none => False
  | _ => False
def someS {α : Type} (o : Option α) (k : α → Prop) : Prop := match o with
  | some y => k y
  | none => False
def isaS (x : D) (n : String) (k : Bool → Prop) : Prop := match isa x n with
  | some b => k b
  | none => False
def isa2S (x : D) (n m : String) (k : Bool → Prop) : Prop := match isa x n, isa x m with
  | some b, some b' => k (b || b')
  | _, _ => False
def appS (xs ys : List D) (k : List D → Prop) : Prop := k (xs ++ ys)
def i1S (xs : List D) (k : Int → Prop) : Prop := match xs with
  | [.int j] => k j
  | _ => False
def i2S (xs : List D) (k : Int → Int → Prop) : Prop := match xs with
  | [.int i, .int j] => k i j
  | _ => False
def sv2S (ss : List SV) (k : SV → SV → Prop) : Prop := match ss with
  | [s, u] => k s u
  | _ => False
def sv3S (ss : List SV) (k : SV → SV → SV → Prop) : Prop := match ss with
  | [s, u, w] => k s u w
  | _ => False
def wipS (vs : List Nat) (d : DS) (k : DS → Prop) : Prop := k (wipeD vs d)
def allS (is : List Nat) (xs : List D) (d : DS) (k : DS → Prop) : Prop := k (setAllD d is xs)

theorem z_var_sh {x : D} {d : DS} {Q : D → DS → Prop} : dVar 0 (some (.sh x) :: d) Q = Q x (some (.sh x) :: d) := rfl
theorem z_var_ow {xs : List D} {d : DS} {Q : D → DS → Prop} : dVar 0 (some (.ow xs) :: d) Q = Q (.lst xs) (some (.sh (.lst xs)) :: d) := rfl
theorem z_var_s {n : Nat} {a : Option SV} {d : DS} {Q : D → DS → Prop} : dVar (n + 1) (a :: d) Q = dVar n d fun x e => Q x (a :: e) := rfl
theorem z_pk_sh {x : D} {d : DS} {k : D → Prop} : pkS 0 (some (.sh x) :: d) k = k x := rfl
theorem z_pk_ow {xs : List D} {d : DS} {k : D → Prop} : pkS 0 (some (.ow xs) :: d) k = k (.lst xs) := rfl
theorem z_pk_s {n : Nat} {a : Option SV} {d : DS} {k : D → Prop} : pkS (n + 1) (a :: d) k = pkS n d k := rfl
theorem z_aug {x : Int} {d : DS} {k : Int → Prop} : augS 0 (some (.sh (.int x)) :: d) k = k x := rfl
theorem z_aug_s {n : Nat} {a : Option SV} {d : DS} {k : Int → Prop} : augS (n + 1) (a :: d) k = augS n d k := rfl
theorem z_pow {z : Int} {xs : List D} {d : DS} {k : Int → List D → Prop} : powS (.int z) 0 (some (.ow xs) :: d) k = k z xs := rfl
theorem z_pow_s {z : Int} {n : Nat} {a : Option SV} {d : DS} {k : Int → List D → Prop} : powS (.int z) (n + 1) (a :: d) k = powS (.int z) n d k := rfl
theorem z_ow {xs : List D} {d : DS} {k : List D → Prop} : owS 0 (some (.ow xs) :: d) k = k xs := rfl
theorem z_ow_s {n : Nat} {a : Option SV} {d : DS} {k : List D → Prop} : owS (n + 1) (a :: d) k = owS n d k := rfl
theorem z_put {b s : Option SV} {d : DS} {k : DS → Prop} : putS 0 s (b :: d) k = k (s :: d) := rfl
theorem z_put_s {n : Nat} {a s : Option SV} {d : DS} {k : DS → Prop} : putS (n + 1) s (a :: d) k = putS n s d fun e => k (a :: e) := rfl
theorem z_ob {a C : Addr} {fs : List (Str × D)} {d : DS} {k : Addr → Addr → List (Str × D) → Prop} : obS 0 (some (.ob a C fs) :: d) k = k a C fs := rfl
theorem z_dOpv {f : DR2} {i : Nat} {tb : DTE} {d : DS} {Q : D → DS → Prop} : dOpv f i tb d Q = pkS i d fun _ => tb d fun y d2 => pkS i d2 fun x => f x y fun z => Q z d2 := rfl
theorem z_dCBv {f : DSp} {i : Nat} {d : DS} {Q : D → DS → Prop} : dCBv f i d Q = pkS i d fun x => f [x] fun z => Q z d := rfl
theorem z_dTest {t : DTE} {d : DS} {Q : Bool → DS → Prop} : dTest t d Q = t d fun x d1 => tstS x fun c => Q c d1 := rfl
theorem z_dAndV {ta tb : DTE} {d : DS} {Q : D → DS → Prop} : dAndV ta tb d Q = ta d fun x d1 => tstS x fun c => if c = true then tb d1 Q else Q (.bl false) d1 := rfl
theorem z_dOrV {ta tb : DTE} {d : DS} {Q : D → DS → Prop} : dOrV ta tb d Q = ta d fun x d1 => tstS x fun c => if c = true then Q (.bl true) d1 else tb d1 Q := rfl
theorem z_dNotV {ta : DTE} {d : DS} {Q : D → DS → Prop} : dNotV ta d Q = ta d fun x d1 => tstS x fun c => Q (.bl (!c)) d1 := rfl
theorem z_tst {c : Bool} {k : Bool → Prop} : tstS (.bl c) k = k c := rfl
theorem z_int {c : Int} {k : Int → Prop} : intS (.int c) k = k c := rfl
theorem z_seq_l {xs : List D} {k : List D → Prop} : seqS (.lst xs) k = k xs := rfl
theorem z_seq_t {xs : List D} {k : List D → Prop} : seqS (.tup xs) k = k xs := rfl
theorem z_lf_t {xs : List D} {k : List D → Prop} : lfS (.tup xs) k = k xs := rfl
theorem z_lf_l {xs : List D} {k : List D → Prop} : lfS (.lst xs) k = k xs := rfl
theorem z_lf_f {xs : List D} {k : List D → Prop} : lfS (.frz xs) k = k xs := rfl
theorem z_rv_l {xs : List D} {k : List D → Prop} : rvS (.lst xs) k = k xs.reverse := rfl
theorem z_rv_f {xs : List D} {k : List D → Prop} : rvS (.frz xs) k = k xs.reverse := rfl
theorem z_tup {xs : List D} {k : List D → Prop} : tupS (.tup xs) k = k xs := rfl
theorem z_cut_tup {xs : List D} {lo hi : Option Int} {k : D → Prop} : cutS (.tup xs) lo hi k = k (.tup (cutD xs lo hi)) := rfl
theorem z_cut_lst {xs : List D} {lo hi : Option Int} {k : D → Prop} : cutS (.lst xs) lo hi k = k (.lst (cutD xs lo hi)) := rfl
theorem z_cut_frz {xs : List D} {lo hi : Option Int} {k : D → Prop} : cutS (.frz xs) lo hi k = k (.lst (cutD xs lo hi)) := rfl
theorem z_obj {K : PySem.W.Frag} {C : Addr} {f : Str} {fs : List (Str × D)} {k : D → Prop} : objS K f (.obj C fs) k = (AtOk K C f ∧ match fs.lookup f with | some y => k y | none => False) := rfl
theorem z_some {α : Type} {y : α} {k : α → Prop} : someS (some y) k = k y := rfl
theorem z_app0 {ys : List D} {k : List D → Prop} : appS [] ys k = k ys := rfl
theorem z_app1 {a0 : D} {ys : List D} {k : List D → Prop} : appS [a0] ys k = k (a0 :: ys) := rfl
theorem z_app2 {a0 a1 : D} {ys : List D} {k : List D → Prop} : appS [a0, a1] ys k = k (a0 :: a1 :: ys) := rfl
theorem z_app3 {a0 a1 a2 : D} {ys : List D} {k : List D → Prop} : appS [a0, a1, a2] ys k = k (a0 :: a1 :: a2 :: ys) := rfl
theorem z_app4 {a0 a1 a2 a3 : D} {ys : List D} {k : List D → Prop} : appS [a0, a1, a2, a3] ys k = k (a0 :: a1 :: a2 :: a3 :: ys) := rfl
theorem z_app5 {a0 a1 a2 a3 a4 : D} {ys : List D} {k : List D → Prop} : appS [a0, a1, a2, a3, a4] ys k = k (a0 :: a1 :: a2 :: a3 :: a4 :: ys) := rfl
theorem z_app6 {a0 a1 a2 a3 a4 a5 : D} {ys : List D} {k : List D → Prop} : appS [a0, a1, a2, a3, a4, a5] ys k = k (a0 :: a1 :: a2 :: a3 :: a4 :: a5 :: ys) := rfl
theorem z_app7 {a0 a1 a2 a3 a4 a5 a6 : D} {ys : List D} {k : List D → Prop} : appS [a0, a1, a2, a3, a4, a5, a6] ys k = k (a0 :: a1 :: a2 :: a3 :: a4 :: a5 :: a6 :: ys) := rfl
theorem z_app8 {a0 a1 a2 a3 a4 a5 a6 a7 : D} {ys : List D} {k : List D → Prop} : appS [a0, a1, a2, a3, a4, a5, a6, a7] ys k = k (a0 :: a1 :: a2 :: a3 :: a4 :: a5 :: a6 :: a7 :: ys) := rfl
theorem z_app9 {a0 a1 a2 a3 a4 a5 a6 a7 a8 : D} {ys : List D} {k : List D → Prop} : appS [a0, a1, a2, a3, a4, a5, a6, a7, a8] ys k = k (a0 :: a1 :: a2 :: a3 :: a4 :: a5 :: a6 :: a7 :: a8 :: ys) := rfl
theorem z_i1 {i : Int} {k : Int → Prop} : i1S [.int i] k = k i := rfl
theorem z_i2 {i j : Int} {k : Int → Int → Prop} : i2S [.int i, .int j] k = k i j := rfl
theorem z_sv2 {s u : SV} {k : SV → SV → Prop} : sv2S [s, u] k = k s u := rfl
theorem z_sv3 {s u w : SV} {k : SV → SV → SV → Prop} : sv3S [s, u, w] k = k s u w := rfl
theorem z_wip0 {d : DS} {k : DS → Prop} : wipS [] d k = k d := rfl
theorem z_wip1 {v : Nat} {vs : List Nat} {d : DS} {k : DS → Prop} : wipS (v :: vs) d k = wipS vs d fun d => putS v none d k := rfl
theorem z_all0 {xs : List D} {d : DS} {k : DS → Prop} : allS [] xs d k = k d := rfl
theorem z_all1 {i : Nat} {is : List Nat} {x : D} {xs : List D} {d : DS} {k : DS → Prop} : allS (i :: is) (x :: xs) d k = putS i (some (.sh x)) d fun d => allS is xs d k := rfl
theorem z_fI {C : Int → Int → Prop} {g : Int → Int → D} {i j : Int} {Q : D → Prop} : fI C g (.int i) (.int j) Q = (C i j ∧ Q (g i j)) := rfl
theorem z_fI0 {g : Int → Int → D} {i j : Int} {Q : D → Prop} : fI0 g (.int i) (.int j) Q = Q (g i j) := rfl
theorem z_add_i {i j : Int} {Q : D → Prop} : fAdd (.int i) (.int j) Q = Q (.int (i + j)) := rfl
theorem z_add_s {i j : Str} {Q : D → Prop} : fAdd (.str i) (.str j) Q = (i.length + j.length ≤ sizeLine ∧ Q (.str (i ++ j))) := rfl
theorem z_add_t {i j : List D} {Q : D → Prop} : fAdd (.tup i) (.tup j) Q = (i.length + j.length ≤ sizeLine ∧ Q (.tup (i ++ j))) := rfl
theorem z_add_l {i j : List D} {Q : D → Prop} : fAdd (.lst i) (.lst j) Q = (i.length + j.length ≤ sizeLine ∧ Q (.lst (i ++ j))) := rfl
theorem z_mul_i {i j : Int} {Q : D → Prop} : fMul (.int i) (.int j) Q = (DL.MulOk i j ∧ Q (.int (i * j))) := rfl
theorem z_mul_l {xs : List D} {k : Int} {Q : D → Prop} : fMul (.lst xs) (.int k) Q = (-(2 ^ 63) ≤ k ∧ k < 2 ^ 63 ∧ xs.length * k.toNat ≤ sizeLine ∧ Q (.lst (List.replicate k.toNat xs).flatten)) := rfl
theorem z_mul_t {xs : List D} {k : Int} {Q : D → Prop} : fMul (.tup xs) (.int k) Q = (xs ≠ [] ∧ -1000 ≤ k ∧ k ≤ 1000 ∧ xs.length ≤ 1000 ∧ Q (.tup (List.replicate k.toNat xs).flatten)) := rfl
theorem z_eq_int {g : Bool → Bool} {i j : Int} {Q : D → Prop} : fEqG g (.int i) (.int j) Q = Q (.bl (g (decide (i = j)))) := rfl
theorem z_eq_str {g : Bool → Bool} {i j : Str} {Q : D → Prop} : fEqG g (.str i) (.str j) Q = Q (.bl (g (decide (i = j)))) := rfl
theorem z_eq_bl {g : Bool → Bool} {i j : Bool} {Q : D → Prop} : fEqG g (.bl i) (.bl j) Q = Q (.bl (g (decide (i = j)))) := rfl
theorem z_isB {a b : Bool} {Q : D → Prop} : fIsB (.bl a) (.bl b) Q = Q (.bl (decide (a = b))) := rfl
theorem z_ix_tup_1_0 {x0 : D} {Q : D → Prop} : fIx (.tup [x0]) (.int 0) Q = Q x0 := rfl
theorem z_ix_lst_1_0 {x0 : D} {Q : D → Prop} : fIx (.lst [x0]) (.int 0) Q = Q x0 := rfl
theorem z_ix_tup_1_m {x0 : D} {Q : D → Prop} : fIx (.tup [x0]) (.int (-1)) Q = Q x0 := rfl
theorem z_ix_lst_1_m {x0 : D} {Q : D → Prop} : fIx (.lst [x0]) (.int (-1)) Q = Q x0 := rfl
theorem z_ix_tup_2_0 {x0 x1 : D} {Q : D → Prop} : fIx (.tup [x0, x1]) (.int 0) Q = Q x0 := rfl
theorem z_ix_lst_2_0 {x0 x1 : D} {Q : D → Prop} : fIx (.lst [x0, x1]) (.int 0) Q = Q x0 := rfl
theorem z_ix_tup_2_1 {x0 x1 : D} {Q : D → Prop} : fIx (.tup [x0, x1]) (.int 1) Q = Q x1 := rfl
theorem z_ix_lst_2_1 {x0 x1 : D} {Q : D → Prop} : fIx (.lst [x0, x1]) (.int 1) Q = Q x1 := rfl
theorem z_ix_tup_2_m {x0 x1 : D} {Q : D → Prop} : fIx (.tup [x0, x1]) (.int (-1)) Q = Q x1 := rfl
theorem z_ix_lst_2_m {x0 x1 : D} {Q : D → Prop} : fIx (.lst [x0, x1]) (.int (-1)) Q = Q x1 := rfl
theorem z_ix_tup_3_0 {x0 x1 x2 : D} {Q : D → Prop} : fIx (.tup [x0, x1, x2]) (.int 0) Q = Q x0 := rfl
theorem z_ix_lst_3_0 {x0 x1 x2 : D} {Q : D → Prop} : fIx (.lst [x0, x1, x2]) (.int 0) Q = Q x0 := rfl
theorem z_ix_tup_3_1 {x0 x1 x2 : D} {Q : D → Prop} : fIx (.tup [x0, x1, x2]) (.int 1) Q = Q x1 := rfl
theorem z_ix_lst_3_1 {x0 x1 x2 : D} {Q : D → Prop} : fIx (.lst [x0, x1, x2]) (.int 1) Q = Q x1 := rfl
theorem z_ix_tup_3_2 {x0 x1 x2 : D} {Q : D → Prop} : fIx (.tup [x0, x1, x2]) (.int 2) Q = Q x2 := rfl
theorem z_ix_lst_3_2 {x0 x1 x2 : D} {Q : D → Prop} : fIx (.lst [x0, x1, x2]) (.int 2) Q = Q x2 := rfl
theorem z_ix_tup_3_m {x0 x1 x2 : D} {Q : D → Prop} : fIx (.tup [x0, x1, x2]) (.int (-1)) Q = Q x2 := rfl
theorem z_ix_lst_3_m {x0 x1 x2 : D} {Q : D → Prop} : fIx (.lst [x0, x1, x2]) (.int (-1)) Q = Q x2 := rfl
theorem z_ix_tup_4_0 {x0 x1 x2 x3 : D} {Q : D → Prop} : fIx (.tup [x0, x1, x2, x3]) (.int 0) Q = Q x0 := rfl
theorem z_ix_lst_4_0 {x0 x1 x2 x3 : D} {Q : D → Prop} : fIx (.lst [x0, x1, x2, x3]) (.int 0) Q = Q x0 := rfl
theorem z_ix_tup_4_1 {x0 x1 x2 x3 : D} {Q : D → Prop} : fIx (.tup [x0, x1, x2, x3]) (.int 1) Q = Q x1 := rfl
theorem z_ix_lst_4_1 {x0 x1 x2 x3 : D} {Q : D → Prop} : fIx (.lst [x0, x1, x2, x3]) (.int 1) Q = Q x1 := rfl
theorem z_ix_tup_4_2 {x0 x1 x2 x3 : D} {Q : D → Prop} : fIx (.tup [x0, x1, x2, x3]) (.int 2) Q = Q x2 := rfl
theorem z_ix_lst_4_2 {x0 x1 x2 x3 : D} {Q : D → Prop} : fIx (.lst [x0, x1, x2, x3]) (.int 2) Q = Q x2 := rfl
theorem z_ix_tup_4_3 {x0 x1 x2 x3 : D} {Q : D → Prop} : fIx (.tup [x0, x1, x2, x3]) (.int 3) Q = Q x3 := rfl
theorem z_ix_lst_4_3 {x0 x1 x2 x3 : D} {Q : D → Prop} : fIx (.lst [x0, x1, x2, x3]) (.int 3) Q = Q x3 := rfl
theorem z_ix_tup_4_m {x0 x1 x2 x3 : D} {Q : D → Prop} : fIx (.tup [x0, x1, x2, x3]) (.int (-1)) Q = Q x3 := rfl
theorem z_ix_lst_4_m {x0 x1 x2 x3 : D} {Q : D → Prop} : fIx (.lst [x0, x1, x2, x3]) (.int (-1)) Q = Q x3 := rfl
theorem z_ix_tup_5_0 {x0 x1 x2 x3 x4 : D} {Q : D → Prop} : fIx (.tup [x0, x1, x2, x3, x4]) (.int 0) Q = Q x0 := rfl
theorem z_ix_lst_5_0 {x0 x1 x2 x3 x4 : D} {Q : D → Prop} : fIx (.lst [x0, x1, x2, x3, x4]) (.int 0) Q = Q x0 := rfl
theorem z_ix_tup_5_1 {x0 x1 x2 x3 x4 : D} {Q : D → Prop} : fIx (.tup [x0, x1, x2, x3, x4]) (.int 1) Q = Q x1 := rfl
theorem z_ix_lst_5_1 {x0 x1 x2 x3 x4 : D} {Q : D → Prop} : fIx (.lst [x0, x1, x2, x3, x4]) (.int 1) Q = Q x1 := rfl
theorem z_ix_tup_5_2 {x0 x1 x2 x3 x4 : D} {Q : D → Prop} : fIx (.tup [x0, x1, x2, x3, x4]) (.int 2) Q = Q x2 := rfl
theorem z_ix_lst_5_2 {x0 x1 x2 x3 x4 : D} {Q : D → Prop} : fIx (.lst [x0, x1, x2, x3, x4]) (.int 2) Q = Q x2 := rfl
theorem z_ix_tup_5_3 {x0 x1 x2 x3 x4 : D} {Q : D → Prop} : fIx (.tup [x0, x1, x2, x3, x4]) (.int 3) Q = Q x3 := rfl
theorem z_ix_lst_5_3 {x0 x1 x2 x3 x4 : D} {Q : D → Prop} : fIx (.lst [x0, x1, x2, x3, x4]) (.int 3) Q = Q x3 := rfl
theorem z_ix_tup_5_4 {x0 x1 x2 x3 x4 : D} {Q : D → Prop} : fIx (.tup [x0, x1, x2, x3, x4]) (.int 4) Q = Q x4 := rfl
theorem z_ix_lst_5_4 {x0 x1 x2 x3 x4 : D} {Q : D → Prop} : fIx (.lst [x0, x1, x2, x3, x4]) (.int 4) Q = Q x4 := rfl
theorem z_ix_tup_5_m {x0 x1 x2 x3 x4 : D} {Q : D → Prop} : fIx (.tup [x0, x1, x2, x3, x4]) (.int (-1)) Q = Q x4 := rfl
theorem z_ix_lst_5_m {x0 x1 x2 x3 x4 : D} {Q : D → Prop} : fIx (.lst [x0, x1, x2, x3, x4]) (.int (-1)) Q = Q x4 := rfl
theorem z_ix_tup_6_0 {x0 x1 x2 x3 x4 x5 : D} {Q : D → Prop} : fIx (.tup [x0, x1, x2, x3, x4, x5]) (.int 0) Q = Q x0 := rfl
theorem z_ix_lst_6_0 {x0 x1 x2 x3 x4 x5 : D} {Q : D → Prop} : fIx (.lst [x0, x1, x2, x3, x4, x5]) (.int 0) Q = Q x0 := rfl
theorem z_ix_tup_6_1 {x0 x1 x2 x3 x4 x5 : D} {Q : D → Prop} : fIx (.tup [x0, x1, x2, x3, x4, x5]) (.int 1) Q = Q x1 := rfl
theorem z_ix_lst_6_1 {x0 x1 x2 x3 x4 x5 : D} {Q : D → Prop} : fIx (.lst [x0, x1, x2, x3, x4, x5]) (.int 1) Q = Q x1 := rfl
theorem z_ix_tup_6_2 {x0 x1 x2 x3 x4 x5 : D} {Q : D → Prop} : fIx (.tup [x0, x1, x2, x3, x4, x5]) (.int 2) Q = Q x2 := rfl
theorem z_ix_lst_6_2 {x0 x1 x2 x3 x4 x5 : D} {Q : D → Prop} : fIx (.lst [x0, x1, x2, x3, x4, x5]) (.int 2) Q = Q x2 := rfl
theorem z_ix_tup_6_3 {x0 x1 x2 x3 x4 x5 : D} {Q : D → Prop} : fIx (.tup [x0, x1, x2, x3, x4, x5]) (.int 3) Q = Q x3 := rfl
theorem z_ix_lst_6_3 {x0 x1 x2 x3 x4 x5 : D} {Q : D → Prop} : fIx (.lst [x0, x1, x2, x3, x4, x5]) (.int 3) Q = Q x3 := rfl
theorem z_ix_tup_6_4 {x0 x1 x2 x3 x4 x5 : D} {Q : D → Prop} : fIx (.tup [x0, x1, x2, x3, x4, x5]) (.int 4) Q = Q x4 := rfl
theorem z_ix_lst_6_4 {x0 x1 x2 x3 x4 x5 : D} {Q : D → Prop} : fIx (.lst [x0, x1, x2, x3, x4, x5]) (.int 4) Q = Q x4 := rfl
theorem z_ix_tup_6_5 {x0 x1 x2 x3 x4 x5 : D} {Q : D → Prop} : fIx (.tup [x0, x1, x2, x3, x4, x5]) (.int 5) Q = Q x5 := rfl
theorem z_ix_lst_6_5 {x0 x1 x2 x3 x4 x5 : D} {Q : D → Prop} : fIx (.lst [x0, x1, x2, x3, x4, x5]) (.int 5) Q = Q x5 := rfl
theorem z_ix_tup_6_m {x0 x1 x2 x3 x4 x5 : D} {Q : D → Prop} : fIx (.tup [x0, x1, x2, x3, x4, x5]) (.int (-1)) Q = Q x5 := rfl
theorem z_ix_lst_6_m {x0 x1 x2 x3 x4 x5 : D} {Q : D → Prop} : fIx (.lst [x0, x1, x2, x3, x4, x5]) (.int (-1)) Q = Q x5 := rfl
theorem z_ix_tup_7_0 {x0 x1 x2 x3 x4 x5 x6 : D} {Q : D → Prop} : fIx (.tup [x0, x1, x2, x3, x4, x5, x6]) (.int 0) Q = Q x0 := rfl
theorem z_ix_lst_7_0 {x0 x1 x2 x3 x4 x5 x6 : D} {Q : D → Prop} : fIx (.lst [x0, x1, x2, x3, x4, x5, x6]) (.int 0) Q = Q x0 := rfl
theorem z_ix_tup_7_1 {x0 x1 x2 x3 x4 x5 x6 : D} {Q : D → Prop} : fIx (.tup [x0, x1, x2, x3, x4, x5, x6]) (.int 1) Q = Q x1 := rfl
theorem z_ix_lst_7_1 {x0 x1 x2 x3 x4 x5 x6 : D} {Q : D → Prop} : fIx (.lst [x0, x1, x2, x3, x4, x5, x6]) (.int 1) Q = Q x1 := rfl
theorem z_ix_tup_7_2 {x0 x1 x2 x3 x4 x5 x6 : D} {Q : D → Prop} : fIx (.tup [x0, x1, x2, x3, x4, x5, x6]) (.int 2) Q = Q x2 := rfl
theorem z_ix_lst_7_2 {x0 x1 x2 x3 x4 x5 x6 : D} {Q : D → Prop} : fIx (.lst [x0, x1, x2, x3, x4, x5, x6]) (.int 2) Q = Q x2 := rfl
theorem z_ix_tup_7_3 {x0 x1 x2 x3 x4 x5 x6 : D} {Q : D → Prop} : fIx (.tup [x0, x1, x2, x3, x4, x5, x6]) (.int 3) Q = Q x3 := rfl
theorem z_ix_lst_7_3 {x0 x1 x2 x3 x4 x5 x6 : D} {Q : D → Prop} : fIx (.lst [x0, x1, x2, x3, x4, x5, x6]) (.int 3) Q = Q x3 := rfl
theorem z_ix_tup_7_4 {x0 x1 x2 x3 x4 x5 x6 : D} {Q : D → Prop} : fIx (.tup [x0, x1, x2, x3, x4, x5, x6]) (.int 4) Q = Q x4 := rfl
theorem z_ix_lst_7_4 {x0 x1 x2 x3 x4 x5 x6 : D} {Q : D → Prop} : fIx (.lst [x0, x1, x2, x3, x4, x5, x6]) (.int 4) Q = Q x4 := rfl
theorem z_ix_tup_7_5 {x0 x1 x2 x3 x4 x5 x6 : D} {Q : D → Prop} : fIx (.tup [x0, x1, x2, x3, x4, x5, x6]) (.int 5) Q = Q x5 := rfl
theorem z_ix_lst_7_5 {x0 x1 x2 x3 x4 x5 x6 : D} {Q : D → Prop} : fIx (.lst [x0, x1, x2, x3, x4, x5, x6]) (.int 5) Q = Q x5 := rfl
theorem z_ix_tup_7_6 {x0 x1 x2 x3 x4 x5 x6 : D} {Q : D → Prop} : fIx (.tup [x0, x1, x2, x3, x4, x5, x6]) (.int 6) Q = Q x6 := rfl
theorem z_ix_lst_7_6 {x0 x1 x2 x3 x4 x5 x6 : D} {Q : D → Prop} : fIx (.lst [x0, x1, x2, x3, x4, x5, x6]) (.int 6) Q = Q x6 := rfl
theorem z_ix_tup_7_m {x0 x1 x2 x3 x4 x5 x6 : D} {Q : D → Prop} : fIx (.tup [x0, x1, x2, x3, x4, x5, x6]) (.int (-1)) Q = Q x6 := rfl
theorem z_ix_lst_7_m {x0 x1 x2 x3 x4 x5 x6 : D} {Q : D → Prop} : fIx (.lst [x0, x1, x2, x3, x4, x5, x6]) (.int (-1)) Q = Q x6 := rfl
theorem z_cI1 {g : Int → Int} {i : Int} {Q : D → Prop} : cI1 g [.int i] Q = Q (.int (g i)) := rfl
theorem z_cI2 {g : Int → Int → Int} {i j : Int} {Q : D → Prop} : cI2 g [.int i, .int j] Q = Q (.int (g i j)) := rfl
theorem z_cInt_i {i : Int} {Q : D → Prop} : cInt [.int i] Q = Q (.int i) := rfl
theorem z_cInt_b {i : Bool} {Q : D → Prop} : cInt [.bl i] Q = Q (.int (if i then 1 else 0)) := rfl
theorem z_cStr_i {i : Int} {Q : D → Prop} : cStr [.int i] Q = (i.natAbs.log2 < 1920 ∧ Q (.str (toString i))) := rfl
theorem z_cStr_s {i : Str} {Q : D → Prop} : cStr [.str i] Q = Q (.str i) := rfl
theorem z_cLen_tup {xs : List D} {Q : D → Prop} : cLen [.tup xs] Q = Q (.int xs.length) := rfl
theorem z_cTuple_tup {xs : List D} {Q : D → Prop} : cTuple [.tup xs] Q = Q (.tup xs) := rfl
theorem z_cList_tup {xs : List D} {Q : D → Prop} : cList [.tup xs] Q = Q (.lst xs) := rfl
theorem z_cLen_lst {xs : List D} {Q : D → Prop} : cLen [.lst xs] Q = Q (.int xs.length) := rfl
theorem z_cTuple_lst {xs : List D} {Q : D → Prop} : cTuple [.lst xs] Q = Q (.tup xs) := rfl
theorem z_cList_lst {xs : List D} {Q : D → Prop} : cList [.lst xs] Q = Q (.lst xs) := rfl
theorem z_cLen_frz {xs : List D} {Q : D → Prop} : cLen [.frz xs] Q = Q (.int xs.length) := rfl
theorem z_cTuple_frz {xs : List D} {Q : D → Prop} : cTuple [.frz xs] Q = Q (.tup xs) := rfl
theorem z_cList_frz {xs : List D} {Q : D → Prop} : cList [.frz xs] Q = Q (.lst xs) := rfl
theorem z_cLen_s {z : Str} {Q : D → Prop} : cLen [.str z] Q = (z.length ≤ sizeLine ∧ Q (.int z.length)) := rfl
theorem z_cAll {ys : List D} {Q : D → Prop} : cAll [.lst ys] Q = ∃ bs : List Bool, ys = bs.map D.bl ∧ Q (.bl (bs.all id)) := rfl
theorem z_cAny {ys : List D} {Q : D → Prop} : cAny [.lst ys] Q = ∃ bs : List Bool, ys = bs.map D.bl ∧ Q (.bl (bs.any id)) := rfl
theorem z_cSum {ys : List D} {Q : D → Prop} : cSum [.lst ys] Q = ∃ bs : List Int, ys = bs.map D.int ∧ Q (.int bs.sum) := rfl
theorem z_dIsi {n : String} {te : DTE} {d : DS} {Q : D → DS → Prop} : dIsi n te d Q = te d fun x d1 => isaS x n fun b => Q (.bl b) d1 := rfl
theorem z_dIsi2 {n m : String} {te : DTE} {d : DS} {Q : D → DS → Prop} : dIsi2 n m te d Q = te d fun x d1 => isa2S x n m fun b => Q (.bl b) d1 := rfl
theorem z_isa_non_int {k : Bool → Prop} : isaS D.non "int" k = k false := rfl
theorem z_isa_non_bool {k : Bool → Prop} : isaS D.non "bool" k = k false := rfl
theorem z_isa_non_str {k : Bool → Prop} : isaS D.non "str" k = k false := rfl
theorem z_isa_non_tuple {k : Bool → Prop} : isaS D.non "tuple" k = k false := rfl
theorem z_isa_non_list {k : Bool → Prop} : isaS D.non "list" k = k false := rfl
theorem z_isa2_non_list {k : Bool → Prop} : isa2S D.non "list" "tuple" k = k false := rfl
theorem z_isa2_non_tuple {k : Bool → Prop} : isa2S D.non "tuple" "list" k = k false := rfl
theorem z_isa_bl_int {b : Bool} {k : Bool → Prop} : isaS (D.bl b) "int" k = k true := rfl
theorem z_isa_bl_bool {b : Bool} {k : Bool → Prop} : isaS (D.bl b) "bool" k = k true := rfl
theorem z_isa_bl_str {b : Bool} {k : Bool → Prop} : isaS (D.bl b) "str" k = k false := rfl
theorem z_isa_bl_tuple {b : Bool} {k : Bool → Prop} : isaS (D.bl b) "tuple" k = k false := rfl
theorem z_isa_bl_list {b : Bool} {k : Bool → Prop} : isaS (D.bl b) "list" k = k false := rfl
theorem z_isa2_bl_list {b : Bool} {k : Bool → Prop} : isa2S (D.bl b) "list" "tuple" k = k false := rfl
theorem z_isa2_bl_tuple {b : Bool} {k : Bool → Prop} : isa2S (D.bl b) "tuple" "list" k = k false := rfl
theorem z_isa_int_int {i : Int} {k : Bool → Prop} : isaS (D.int i) "int" k = k true := rfl
theorem z_isa_int_bool {i : Int} {k : Bool → Prop} : isaS (D.int i) "bool" k = k false := rfl
theorem z_isa_int_str {i : Int} {k : Bool → Prop} : isaS (D.int i) "str" k = k false := rfl
theorem z_isa_int_tuple {i : Int} {k : Bool → Prop} : isaS (D.int i) "tuple" k = k false := rfl
theorem z_isa_int_list {i : Int} {k : Bool → Prop} : isaS (D.int i) "list" k = k false := rfl
theorem z_isa2_int_list {i : Int} {k : Bool → Prop} : isa2S (D.int i) "list" "tuple" k = k false := rfl
theorem z_isa2_int_tuple {i : Int} {k : Bool → Prop} : isa2S (D.int i) "tuple" "list" k = k false := rfl
theorem z_isa_str_int {x : Str} {k : Bool → Prop} : isaS (D.str x) "int" k = k false := rfl
theorem z_isa_str_bool {x : Str} {k : Bool → Prop} : isaS (D.str x) "bool" k = k false := rfl
theorem z_isa_str_str {x : Str} {k : Bool → Prop} : isaS (D.str x) "str" k = k true := rfl
theorem z_isa_str_tuple {x : Str} {k : Bool → Prop} : isaS (D.str x) "tuple" k = k false := rfl
theorem z_isa_str_list {x : Str} {k : Bool → Prop} : isaS (D.str x) "list" k = k false := rfl
theorem z_isa2_str_list {x : Str} {k : Bool → Prop} : isa2S (D.str x) "list" "tuple" k = k false := rfl
theorem z_isa2_str_tuple {x : Str} {k : Bool → Prop} : isa2S (D.str x) "tuple" "list" k = k false := rfl
theorem z_isa_tup_int {xs : List D} {k : Bool → Prop} : isaS (D.tup xs) "int" k = k false := rfl
theorem z_isa_tup_bool {xs : List D} {k : Bool → Prop} : isaS (D.tup xs) "bool" k = k false := rfl
theorem z_isa_tup_str {xs : List D} {k : Bool → Prop} : isaS (D.tup xs) "str" k = k false := rfl
theorem z_isa_tup_tuple {xs : List D} {k : Bool → Prop} : isaS (D.tup xs) "tuple" k = k true := rfl
theorem z_isa_tup_list {xs : List D} {k : Bool → Prop} : isaS (D.tup xs) "list" k = k false := rfl
theorem z_isa2_tup_list {xs : List D} {k : Bool → Prop} : isa2S (D.tup xs) "list" "tuple" k = k true := rfl
theorem z_isa2_tup_tuple {xs : List D} {k : Bool → Prop} : isa2S (D.tup xs) "tuple" "list" k = k true := rfl
theorem z_isa_lst_int {xs : List D} {k : Bool → Prop} : isaS (D.lst xs) "int" k = k false := rfl
theorem z_isa_lst_bool {xs : List D} {k : Bool → Prop} : isaS (D.lst xs) "bool" k = k false := rfl
theorem z_isa_lst_str {xs : List D} {k : Bool → Prop} : isaS (D.lst xs) "str" k = k false := rfl
theorem z_isa_lst_tuple {xs : List D} {k : Bool → Prop} : isaS (D.lst xs) "tuple" k = k false := rfl
theorem z_isa_lst_list {xs : List D} {k : Bool → Prop} : isaS (D.lst xs) "list" k = k true := rfl
theorem z_isa2_lst_list {xs : List D} {k : Bool → Prop} : isa2S (D.lst xs) "list" "tuple" k = k true := rfl
theorem z_isa2_lst_tuple {xs : List D} {k : Bool → Prop} : isa2S (D.lst xs) "tuple" "list" k = k true := rfl
theorem z_isa_frz_int {xs : List D} {k : Bool → Prop} : isaS (D.frz xs) "int" k = k false := rfl
theorem z_isa_frz_bool {xs : List D} {k : Bool → Prop} : isaS (D.frz xs) "bool" k = k false := rfl
theorem z_isa_frz_str {xs : List D} {k : Bool → Prop} : isaS (D.frz xs) "str" k = k false := rfl
theorem z_isa_frz_tuple {xs : List D} {k : Bool → Prop} : isaS (D.frz xs) "tuple" k = k false := rfl
theorem z_isa_frz_list {xs : List D} {k : Bool → Prop} : isaS (D.frz xs) "list" k = k true := rfl
theorem z_isa2_frz_list {xs : List D} {k : Bool → Prop} : isa2S (D.frz xs) "list" "tuple" k = k true := rfl
theorem z_isa2_frz_tuple {xs : List D} {k : Bool → Prop} : isa2S (D.frz xs) "tuple" "list" k = k true := rfl
theorem z_dFld {K : PySem.W.Frag} {f : Str} {te : DTE} {d : DS} {Q : D → DS → Prop} : dFld K f te d Q = te d fun x d1 => objS K f x fun y => Q y d1 := rfl
theorem z_dFldI {K : PySem.W.Frag} {i : Nat} {f : Str} {d : DS} {Q : D → DS → Prop} : dFldI K i f d Q = obS i d fun _ C fs => AtOk K C f ∧ match fs.lookup f with | some y => Q y d | none => False := rfl
theorem z_dSl {te : DTE} {tl th : DTO} {d : DS} {Q : D → DS → Prop} : dSl te tl th d Q = te d fun x d1 => tl d1 fun lo d2 => th d2 fun hi d3 => cutS x lo hi fun y => Q y d3 := rfl
theorem z_dPart {t : DTE} {d : DS} {Q : Option Int → DS → Prop} : dPart t d Q = t d fun x d1 => intS x fun i => Q (some i) d1 := rfl
theorem z_dRevL {te : DTE} {d : DS} {Q : List D → DS → Prop} : dRevL te d Q = te d fun x d1 => rvS x fun xs => Q xs d1 := rfl
theorem z_dNeg {te : DTE} {d : DS} {Q : D → DS → Prop} : dNeg te d Q = te d fun x d1 => intS x fun i => Q (.int (-i)) d1 := rfl
theorem z_dListF {te : DTE} {d : DS} {Q : List D → DS → Prop} : dListF te d Q = te d fun x d1 => lfS x fun xs => Q xs d1 := rfl
theorem z_dCall {n : Nat} {c : DSp} {dds : List D} {t : DTA} {d : DS} {Q : D → DS → Prop} : dCall n c dds t d Q = t d fun xs d1 => appS xs dds fun ys => ys.length = n ∧ c ys fun z => Q z d1 := rfl
theorem z_dMake {n : Nat} {C : Addr} {c : DMk} {dds : List D} {t : DTA} {d : DS} {Q : D → DS → Prop} : dMake n C c dds t d Q = t d fun xs d1 => appS xs dds fun ys => ys.length = n ∧ c ys fun fs => Q (.obj C fs) d1 := rfl
theorem z_dApp {i : Nat} {te : DTE} {d : DS} {Q : D → DS → Prop} : dApp i te d Q = owS i d fun _ => te d fun y d1 => owS i d1 fun xs => xs.length < sizeLine ∧ putS i (some (.ow (xs ++ [y]))) d1 (Q .non) := rfl
theorem z_dPop0 {i : Nat} {d : DS} {Q : D → DS → Prop} : dPop0 i d Q = owS i d fun xs => match xs[xs.length - 1]? with | some y => putS i (some (.ow xs.dropLast)) d (Q y) | none => False := rfl
theorem z_dPopAt {i : Nat} {te : DTE} {d : DS} {Q : D → DS → Prop} : dPopAt i te d Q = owS i d fun _ => te d fun y d1 => powS y i d1 fun z xs => ∃ j, 0 ≤ z ∧ z < 2 ^ 63 ∧ z = (j : Nat) ∧ match xs[j]? with | some u => putS i (some (.ow (xs.eraseIdx j))) d1 (Q u) | none => False := rfl
theorem z_srcE {te : DTE} {d : DS} {Q : List D → DS → Prop} : srcE te d Q = te d fun x d1 => seqS x fun xs => Q xs d1 := rfl
theorem z_srcEnum {te : DTE} {d : DS} {Q : List D → DS → Prop} : srcEnum te d Q = te d fun x d1 => seqS x fun xs => Q (enumD 0 xs) d1 := rfl
theorem z_srcR1 {t : DTA} {d : DS} {Q : List D → DS → Prop} : srcR1 t d Q = t d fun xs d1 => i1S xs fun j => (-(2 ^ 62) ≤ j ∧ j < 2 ^ 62) ∧ Q (rngD 0 j.toNat) d1 := rfl
theorem z_srcR2 {t : DTA} {d : DS} {Q : List D → DS → Prop} : srcR2 t d Q = t d fun xs d1 => i2S xs fun i j => (-(2 ^ 62) ≤ i ∧ i < 2 ^ 62 ∧ -(2 ^ 62) ≤ j ∧ j < 2 ^ 62) ∧ Q (rngD i (j - i).toNat) d1 := rfl
theorem z_cNm {i : Nat} {y : D} {d : DS} {R : DS → Prop} : cNm i y d R = putS i (some (.sh y)) d R := rfl
theorem z_cTp {is : List Nat} {xs : List D} {d : DS} {R : DS → Prop} : cTp is (.tup xs) d R = (xs.length = is.length ∧ allS is xs d R) := rfl
theorem z_dLc {src : DSr0} {g : D → DS → (DS → Prop) → Prop} {tt : DTT} {te : DTE} {vs : List Nat} {d : DS} {Q : List D → DS → Prop} : dLc src g tt te vs d Q = src d fun items d1 => wipS vs d1 fun w => ∃ R : Nat → List D → Prop, R 0 [] ∧ (∀ (i : Nat) (y : D) (acc : List D), items[i]? = some y → R i acc → g y w (lcTurn tt te w vs acc (R (i + 1)))) ∧ ∀ acc, R items.length acc → Q acc d1 := rfl
theorem z_lcTurn {tt : DTT} {te : DTE} {d0 : DS} {vs : List Nat} {acc : List D} {R : List D → Prop} {d2 : DS} : lcTurn tt te d0 vs acc R d2 = tt d2 fun b d3 => if b = true then te d3 fun z d4 => wipS vs d4 fun w => w = d0 ∧ acc.length < sizeLine ∧ R (acc ++ [z]) else wipS vs d3 fun w => w = d0 ∧ R acc := rfl
theorem z_gNm {i : Nat} {x : D} {d : DS} {R : DS → Prop} : gNm i x d R = putS i (some (.sh x)) d R := rfl
theorem z_gTp {gs : DTGs} {x : D} {d : DS} {R : DS → Prop} : gTp gs x d R = tupS x fun xs => gs xs d R := rfl
theorem z_gsCons {g : DTG} {gs : DTGs} {x : D} {xs : List D} {d : DS} {R : DS → Prop} : gsCons g gs (x :: xs) d R = g x d fun d1 => gs xs d1 R := rfl
theorem z_gsNil {d : DS} {R : DS → Prop} : gsNil [] d R = R d := rfl
theorem z_sSet {i : Nat} {te : DTE} {E : DEn} {d : DS} : sSet i te E d = te d fun x d1 => putS i (some (.sh x)) d1 E.nx := rfl
theorem z_sSetF {i : Nat} {tf : DTA} {E : DEn} {d : DS} : sSetF i tf E d = tf d fun x d1 => putS i (some (.ow x)) d1 E.nx := rfl
theorem z_sAug {i : Nat} {te : DTE} {f : Int → Int → Int} {E : DEn} {d : DS} : sAug i te f E d = augS i d fun z => te d fun y d1 => intS y fun w => putS i (some (.sh (.int (f z w)))) d1 E.nx := rfl
theorem z_sPar {i j : Nat} {t : DTV} {E : DEn} {d : DS} : sPar i j t E d = t d fun ss d1 => sv2S ss fun s u => putS i (some s) d1 fun d2 => putS j (some u) d2 E.nx := rfl
theorem z_sPar3 {i j l : Nat} {t : DTV} {E : DEn} {d : DS} : sPar3 i j l t E d = t d fun ss d1 => sv3S ss fun s u w => putS i (some s) d1 fun d2 => putS j (some u) d2 fun d3 => putS l (some w) d3 E.nx := rfl
theorem z_sFldI {K : PySem.W.Frag} {i : Nat} {f : Str} {te : DTE} {E : DEn} {d : DS} : sFldI K i f te E d = te d fun x d1 => obS i d1 fun a C fs => AtOk K C f ∧ fs.length < 1000 ∧ putS i (some (.ob a C (putD f x fs))) d1 E.nx := rfl
theorem z_sSetIx {i : Nat} {te ti : DTE} {E : DEn} {d : DS} : sSetIx i te ti E d = te d fun y d1 => owS i d1 fun _ => ti d1 fun z d2 => powS z i d2 fun k xs => match ixN xs.length k with | some j => putS i (some (.ow (xs.set j y))) d2 E.nx | none => False := rfl
theorem z_dChain {f g : DR2} {ta tb tc : DTE} {d : DS} {Q : D → DS → Prop} : dChain f g ta tb tc d Q = ta d fun x d1 => tb d1 fun y d2 => f x y fun z => tstS z fun k => if k = true then tc d2 fun u d3 => g y u fun z1 => Q z1 d3 else Q (.bl false) d2 := rfl
theorem z_draw {a b : Addr} {n : Int} {Q : D → Prop} : cDraw [.tok a b, .int n] Q = ((0 < n ∧ n < 2 ^ 64) ∧ ∀ r : Int, 0 ≤ r → r < n → Q (.int r)) := rfl
theorem z_pick_tup {a b : Addr} {ys : List D} {Q : D → Prop} : cPick [.tok a b, .tup ys] Q = ((0 < ys.length ∧ ys.length < 2 ^ 60) ∧ ∀ y ∈ ys, Q y) := rfl
theorem z_pick_lst {a b : Addr} {ys : List D} {Q : D → Prop} : cPick [.tok a b, .lst ys] Q = ((0 < ys.length ∧ ys.length < 2 ^ 60) ∧ ∀ y ∈ ys, Q y) := rfl
theorem z_itT {X Y : Prop} : (if true = true then X else Y) = X := rfl
theorem z_itF {X Y : Prop} : (if false = true then X else Y) = Y := rfl
theorem z_itNT {X Y : Prop} : (if (!true) = true then X else Y) = Y := rfl
theorem z_itNF {X Y : Prop} : (if (!false) = true then X else Y) = X := rfl
theorem z_nonN  : DL.isNon .non = true := rfl
theorem z_non_bl {b : Bool}  : DL.isNon (D.bl b) = false := rfl
theorem z_non_int {i : Int}  : DL.isNon (D.int i) = false := rfl
theorem z_non_str {x : Str}  : DL.isNon (D.str x) = false := rfl
theorem z_non_tup {xs : List D}  : DL.isNon (D.tup xs) = false := rfl
theorem z_non_lst {xs : List D}  : DL.isNon (D.lst xs) = false := rfl
theorem z_non_frz {xs : List D}  : DL.isNon (D.frz xs) = false := rfl
theorem z_non_obj {C : Addr} {fs : List (Str × D)} : DL.isNon (.obj C fs) = false := rfl
end DL
set_option Elab.async false
set_option linter.all false
set_option maxRecDepth 100000
set_option maxHeartbeats 4000000
/-! DX11: equality of plain data. -/
namespace DL
open PySem L2
/-- data without bools, not deeper than n -/
def nb : Nat → D → Bool
  | _, .non => true
  | _, .int _ => true
  | _, .str x => PyData.strOk x
  | n + 1, .tup xs => xs.all (nb n)
  | n + 1, .lst xs => xs.all (nb n)
  | _, _ => false
theorem nbs_toPs {n : Nat} (ih : ∀ x, nb n x = true → ∃ p, toP x = some p ∧ p.canLay0 = true ∧ p.depth ≤ n) : ∀ {xs : List D}, (∀ x ∈ xs, nb n x = true) → ∃ ps, toPs xs = some ps ∧ PyData.canLayAll0 ps = true ∧ PyData.depthAll ps ≤ n
  | [], _ => ⟨[], rfl, rfl, Nat.zero_le _⟩
  | x :: xs, h => by
    obtain ⟨p, h1, h2, h3⟩ := ih x (h x (List.mem_cons_self))
    obtain ⟨ps, g1, g2, g3⟩ := nbs_toPs ih (xs := xs) fun y hy => h y (List.mem_cons_of_mem _ hy)
    refine ⟨p :: ps, by unfold toPs; rw [h1, g1], ?_, ?_⟩
    · unfold PyData.canLayAll0
      rw [h2, g2]
      rfl
    · unfold PyData.depthAll
      omega
theorem nb_toP : ∀ {n : Nat} {x : D}, nb n x = true → ∃ p, toP x = some p ∧ p.canLay0 = true ∧ p.depth ≤ n := by
  intro n
  induction n with
  | zero =>
    intro x h
    cases x with
    | non => exact ⟨_, rfl, rfl, Nat.le_refl _⟩
    | int i => exact ⟨_, rfl, rfl, Nat.le_refl _⟩
    | str s => exact ⟨_, rfl, h, Nat.le_refl _⟩
    | _ => cases h
  | succ n ih =>
    intro x h
    cases x with
    | non => exact ⟨_, rfl, rfl, Nat.zero_le _⟩
    | int i => exact ⟨_, rfl, rfl, Nat.zero_le _⟩
    | str s => exact ⟨_, rfl, h, Nat.zero_le _⟩
    | tup xs =>
      obtain ⟨ps, h1, h2, h3⟩ := nbs_toPs (fun x => ih) (List.all_eq_true.mp (show xs.all (nb n) = true from h))
      exact ⟨.tuple ps, by unfold toP; rw [h1]; rfl, h2, by unfold PyData.depth; omega⟩
    | lst xs =>
      obtain ⟨ps, h1, h2, h3⟩ := nbs_toPs (fun x => ih) (List.all_eq_true.mp (show xs.all (nb n) = true from h))
      exact ⟨.list ps, by unfold toP; rw [h1]; rfl, h2, by unfold PyData.depth; omega⟩
    | _ => cases h
theorem nb_shaped {n : Nat} {x : D} (hn : n ≤ 64) (h : nb n x = true) : ∃ p, toP x = some p ∧ SeqAt.shaped p = true := by
  obtain ⟨p, h1, h2, h3⟩ := nb_toP h
  refine ⟨p, h1, ?_⟩
  unfold SeqAt.shaped
  rw [h2, decide_eq_true (by omega)]
  rfl
theorem toPs_cons {x : D} {xs : List D} {ps : List PyData} (h : toPs (x :: xs) = some ps) : ∃ p r, ps = p :: r ∧ toP x = some p ∧ toPs xs = some r := by
  unfold toPs at h
  split at h
  · rename_i y ys e1 e2
    cases h
    exact ⟨y, ys, rfl, e1, e2⟩
  · cases h
theorem eqvs_iff {n : Nat} (ih : ∀ x y p q, nb n x = true → nb n y = true → toP x = some p → toP y = some q → (PyData.eqv p q = true ↔ x = y)) :
    ∀ {xs ys : List D} {ps qs : List PyData}, (∀ x ∈ xs, nb n x = true) → (∀ x ∈ ys, nb n x = true) → toPs xs = some ps → toPs ys = some qs → (PyData.eqvAll ps qs = true ↔ xs = ys)
  | [], [], ps, qs, _, _, e1, e2 => by cases e1; cases e2; exact ⟨fun _ => rfl, fun _ => rfl⟩
  | [], y :: ys, ps, qs, _, _, e1, e2 => by
    obtain ⟨p, r, rfl, _, _⟩ := toPs_cons e2
    cases e1
    exact ⟨fun h => (by cases h), fun h => (by cases h)⟩
  | x :: xs, [], ps, qs, _, _, e1, e2 => by
    obtain ⟨p, r, rfl, _, _⟩ := toPs_cons e1
    cases e2
    exact ⟨fun h => (by cases h), fun h => (by cases h)⟩
  | x :: xs, y :: ys, ps, qs, h1, h2, e1, e2 => by
    obtain ⟨p, r, rfl, p1, p2⟩ := toPs_cons e1
    obtain ⟨q, s, rfl, q1, q2⟩ := toPs_cons e2
    have a := ih x y p q (h1 x (List.mem_cons_self)) (h2 y (List.mem_cons_self)) p1 q1
    have b := eqvs_iff ih (xs := xs) (ys := ys) (fun z hz => h1 z (List.mem_cons_of_mem _ hz)) (fun z hz => h2 z (List.mem_cons_of_mem _ hz)) p2 q2
    unfold PyData.eqvAll
    rw [Bool.and_eq_true, a, b]
    exact ⟨fun z => by rw [z.1, z.2], fun z => by cases z; exact ⟨rfl, rfl⟩⟩
theorem eqv_iff : ∀ {n : Nat} {x y : D} {p q : PyData}, nb n x = true → nb n y = true → toP x = some p → toP y = some q → (PyData.eqv p q = true ↔ x = y) := by
  intro n
  induction n with
  | zero =>
    intro x y p q h1 h2 e1 e2
    cases x <;> first | (cases h1; done) | skip
    all_goals cases y <;> first | (cases h2; done) | skip
    all_goals cases e1
    all_goals cases e2
    all_goals unfold PyData.eqv
    all_goals simp
  | succ n ih =>
    intro x y p q h1 h2 e1 e2
    cases x <;> first | (cases h1; done) | skip
    all_goals cases y <;> first | (cases h2; done) | skip
    all_goals first
      | (cases e1; cases e2; unfold PyData.eqv; simp; done)
      | skip
    all_goals first
      | (cases e1; obtain ⟨qs, e4, rfl⟩ := Option.map_eq_some_iff.mp e2; unfold PyData.eqv; simp; done)
      | (cases e2; obtain ⟨ps, e3, rfl⟩ := Option.map_eq_some_iff.mp e1; unfold PyData.eqv; simp; done)
      | skip
    all_goals
      obtain ⟨ps, e3, rfl⟩ := Option.map_eq_some_iff.mp e1
      obtain ⟨qs, e4, rfl⟩ := Option.map_eq_some_iff.mp e2
      unfold PyData.eqv
    all_goals first
      | (simp; done)
      | (rw [eqvs_iff (fun x y p q => ih) (List.all_eq_true.mp h1) (List.all_eq_true.mp h2) e3 e4]; exact ⟨fun z => by rw [z], fun z => by cases z; rfl⟩)
open Classical in
theorem eqG_ok {g : Bool → Bool} {n : Nat} {x y : D} {Q : D → Prop} (hn : n ≤ 64) (h1 : nb n x = true) (h2 : nb n y = true) (q : ∀ b : Bool, (b = true ↔ x = y) → Q (.bl (g b))) : fEqG g x y Q := by
  obtain ⟨p, e1, s1⟩ := nb_shaped hn h1
  obtain ⟨r, e2, s2⟩ := nb_shaped hn h2
  unfold fEqG
  split
  · exact q _ (by rw [decide_eq_true_eq]; exact ⟨fun z => by rw [z], fun z => by cases z; rfl⟩)
  · exact q _ (by rw [decide_eq_true_eq]; exact ⟨fun z => by rw [z], fun z => by cases z; rfl⟩)
  · cases n <;> cases h1
  · exact ⟨p, r, e1, e2, s1, s2, q _ (eqv_iff h1 h2 e1 e2)⟩
theorem nb_int {n : Nat} {i : Int} : nb n (.int i) = true := by cases n <;> rfl
theorem nb_ints {n : Nat} {ns : List Int} : nb (n + 1) (.tup (ns.map D.int)) = true := by
  show (ns.map D.int).all (nb n) = true
  rw [List.all_eq_true]
  intro x hx
  obtain ⟨i, _, rfl⟩ := List.mem_map.mp hx
  exact nb_int
theorem nb_intsL {n : Nat} {ns : List Int} : nb (n + 1) (.lst (ns.map D.int)) = true := nb_ints (ns := ns) (n := n)
theorem ints_inj : ∀ {ns ms : List Int}, ns.map D.int = ms.map D.int → ns = ms
  | [], [], _ => rfl
  | [], _ :: _, h => by cases h
  | _ :: _, [], h => by cases h
  | n :: ns, m :: ms, h => by
    rw [List.map_cons, List.map_cons] at h
    obtain ⟨h1, h2⟩ := List.cons.inj h
    rw [D.int.inj h1, ints_inj h2]
end DL
set_option Elab.async false
set_option linter.all false
set_option maxRecDepth 100000
set_option maxHeartbeats 4000000
/-! DX12: words for items, cuts, texts. -/
namespace DL
open PySem L2
section
variable {xs : List D} {y : D} {z : Int} {i : Nat} {Q : D → Prop}
theorem ix_t (h : L2.atI xs z = some y) (q : Q y) : fIx (.tup xs) (.int z) Q := by
  show match L2.atI xs z with | some z => Q z | none => False
  rw [h]
  exact q
theorem ix_l (h : L2.atI xs z = some y) (q : Q y) : fIx (.lst xs) (.int z) Q := by
  show match L2.atI xs z with | some z => Q z | none => False
  rw [h]
  exact q
theorem ix_ti {ns : List Int} (h : i < ns.length) (hz : z = i) (q : Q (.int (ns.getD i 0))) : fIx (.tup (ns.map D.int)) (.int z) Q := ix_t (atI_ints h hz) q
theorem ix_li {ns : List Int} (h : i < ns.length) (hz : z = i) (q : Q (.int (ns.getD i 0))) : fIx (.lst (ns.map D.int)) (.int z) Q := ix_l (atI_ints h hz) q
end
theorem log2_lt' {n : Int} (h : n.natAbs < 2 ^ 64) : n.natAbs.log2 < 1920 := by
  by_cases h0 : n.natAbs = 0
  · rw [h0]; decide
  · have : n.natAbs.log2 < 64 := (Nat.log2_lt h0).mpr h
    omega
theorem ble {m n : Nat} (h : Nat.ble m n = true) : m ≤ n := Nat.le_of_ble_eq_true h
theorem snoc_all {p : D → Bool} {bs cs : List D} (h : ∀ x ∈ bs, p x = true) (h' : ∀ x ∈ cs, p x = true) : ∀ x ∈ bs ++ cs, p x = true := fun x hx => (List.mem_append.mp hx).elim (h x) (h' x)
theorem one_all {p : D → Bool} {y : D} (h : p y = true) : ∀ x ∈ [y], p x = true := fun x hx => by rw [List.mem_singleton.mp hx]; exact h
end DL
set_option Elab.async false
set_option linter.all false
set_option maxRecDepth 100000
set_option maxHeartbeats 4000000
/-! DX13: sorted(xs) where the first item is (). -/
namespace PySem.W
open PySem PySem.Calls PyProof.Rows PySem.SeqAt
section
variable {prog : Program} {w : World} {A : Around} {E : Value → Shared → Prop} {s : Shared}
theorem my_oneLt_tup {xs ys : List PyData} {a b : Value} {as bs : List Addr} {Q : Bool → Shared → Prop} (ra : Reads s.heap a (.tuple xs) as) (rb : Reads s.heap b (.tuple ys) bs) (h : alike (.tuple xs) (.tuple ys) = true)
    (hu : A.units + min (PyData.tuple xs).depth (PyData.tuple ys).depth < cLine) (hq : Q (dataLt (.tuple xs) (.tuple ys)) s) : wpAny (model prog w) A (oneLt' true a b) Q E s := by
  have hal : alikeAll xs ys = true := by simpa [alike] using h
  cases ra with
  | @tuple l o vs n _ as₁ h1 h2 h3 h4 =>
    cases rb with
    | @tuple l' o' vs' n' _ bs₁ k1 k2 k3 k4 =>
      have n1 : vs.size = xs.length := by simpa using ReadsAll.length _ _ _ h4
      have n2 : vs'.size = ys.length := by simpa using ReadsAll.length _ _ _ k4
      rw [dataLt_tuple, ← firstLt_toks xs ys hal, ← n1, ← n2] at hq
      obtain ⟨cls, dd, data, sl⟩ := o
      obtain ⟨cls2, dd2, data2, sl2⟩ := o'
      simp only at h2 h3 k2 k3
      subst h2 h3 k2 k3
      rw [oneLt'_eq]
      simp only [if_true]
      refine wpAny_bind (wpAny_cRoomFor (room_here hu) ?_)
      refine wpAny_bind (wpAny_callSpecialIfBound?_slot ⟨_, h1, rfl⟩ F.slot_tuple_lt (call_meets F.slot_tuple_lt ⟨_, h1, rfl⟩ F.entry_tuple_lt (F.args_tuple_lt_2 _ _) (tuple_ltAt l l' vs vs' n n' dd dd2 sl sl2 _ _) ⟨h1, k1, fun j j1 j2 => ?_, fun j j1 j2 hj => ?_, wpAny_truthy_bool hq⟩))
      · have := eqAt_alikeAll xs ys A.in1 s vs.toList vs'.toList _ _ h4 k4 hal (room_in hu) j (by simpa using j1) (by simpa using j2)
        simpa using this
      · have := rcLt_alikeAll xs ys A.in1 s vs.toList vs'.toList _ _ h4 k4 hal (room_in hu) j (by simpa using j1) (by simpa using j2) hj
        simpa using this
theorem my_firsts : ∀ {vs : List Value} {ds : List PyData} {Q : List (Option Value) → Shared → Prop}, EachIs (fun v d => ∃ as, Reads s.heap v d as) vs ds → (∀ d ∈ ds, ∃ xs, d = .tuple xs) →
    (∀ os : List (Option Value), os.length = vs.length → (∀ r, ds = .tuple [] :: r → ∃ q, os = none :: q) → Q os s) → wpAny (model prog w) A (vs.mapM firstOfTuple') Q E s
  | _, _, Q, .nil, _, h => by
    rw [List.mapM_nil]
    exact wpAny_pure (h [] rfl fun r e => by cases e)
  | _, _, Q, .cons (as := vs) (bs := ds) ⟨as, ra⟩ t, ht, h => by
    rename_i v d
    obtain ⟨xs, rfl⟩ := ht d (List.mem_cons_self)
    cases ra with
    | @tuple l o its n _ as₁ h1 h2 h3 h4 =>
      rw [List.mapM_cons]
      refine wpAny_bind ?_
      rw [kas_first_eq]
      refine wpAny_bind (Looks.here (show Looks (model prog w) s.heap (typeOf (.ref l)) o.cls from (Looks.ld h1).andThen .now) ?_)
      rw [h2, if_neg (by first | decide | simp)]
      refine wpAny_bind (listItems_at h1 h3 (wpAny_pure ?_))
      refine wpAny_bind (my_firsts (Q := fun bs s' => wpAny (model prog w) A (pure (its[0]? :: bs)) Q E s') t (fun d hd => ht d (List.mem_cons_of_mem _ hd)) fun os ho _ => wpAny_pure (h _ (by rw [List.length_cons, List.length_cons, ho]) fun r e => ⟨os, ?_⟩))
      have ex : xs = [] := by cases e; rfl
      subst ex
      have n1 : its.size = 0 := by simpa using ReadsAll.length _ _ _ h4
      have : its[0]? = none := by simp [n1]
      rw [this]
theorem my_SortsAt {vs : List Value} {ds : List PyData} (e : EachIs (fun v d => ∃ as, Reads s.heap v d as) vs ds) (hal : AllAlike ds) (ht : ∀ d ∈ ds, ∃ xs, d = .tuple xs) (h0 : ∃ r, ds = .tuple [] :: r) (hu : ∀ d, d ∈ ds → A.units + d.depth < cLine) : SortsAt prog w A s (dataKind s.heap ds) vs := by
  have room : ∀ {d d' : PyData}, d ∈ ds → A.units + min d.depth d'.depth < cLine := fun {d d'} hd => Nat.lt_of_le_of_lt (Nat.add_le_add_left (Nat.min_le_left _ _) _) (hu d hd)
  refine ⟨fun v hv => ?_, oneType', ?_, fun h2 E Q hq => ?_⟩
  · obtain ⟨d, hd, as, r⟩ := e.left v hv
    exact ⟨_, dataKind_some hal hd r⟩
  · intro E x y a b Q ha hb hq
    obtain ⟨d, as, hd, ra, rfl⟩ := dataKind_inv ha
    obtain ⟨d', as', hd', rb, rfl⟩ := dataKind_inv hb
    obtain ⟨xs, rfl⟩ := ht d hd
    obtain ⟨ys, rfl⟩ := ht d' hd'
    rw [keyLt'_oneType]
    exact my_oneLt_tup ra rb (hal _ hd _ hd') (room hd) hq
  · obtain ⟨r, hr⟩ := h0
    rw [keyKind'_eq, List.mapM_toArray, map_eq_pure_bind]
    refine wpAny_bind (wpAny_bind (my_firsts e ht fun os ho hn => wpAny_pure ?_))
    obtain ⟨q, rfl⟩ := hn r hr
    have hall : ((none :: q : List (Option Value)).toArray.all fun x => x.isSome) = false := by simp
    rw [if_neg (by rw [hall]; exact Bool.false_ne_true)]
    have hf : (((none :: q : List (Option Value)).toArray)[0]?.bind id).isSome = false := by simp
    rw [if_neg (by rw [hf]; exact Bool.false_ne_true), oneTypeOnly'_eq, List.mapM_toArray, map_eq_pure_bind]
    refine wpAny_bind (wpAny_bind (wpAny_bind (kas_mapM (r := Value.type "tuple") _ (fun v hv Q' hq => ?_) (wpAny_pure ?_))))
    · obtain ⟨d, hd, as, ra⟩ := e.left v hv
      obtain ⟨xs, rfl⟩ := ht d hd
      cases ra with
      | @tuple l o its n _ as₁ h1 h2 h3 h4 =>
        refine Looks.here (show Looks (model prog w) s.heap (typeOf (.ref l)) o.cls from (Looks.ld h1).andThen .now) ?_
        rw [h2]
        exact hq
    · obtain ⟨v, vr, rfl⟩ : ∃ v vr, vs = v :: vr := by
        cases vs with
        | nil => simp at h2
        | cons v vr => exact ⟨v, vr, rfl⟩
      have hall2 : ((List.map (fun _ => Value.type "tuple") (v :: vr)).toArray.all fun x => x == Value.type "tuple") = true := by
        simp only [List.all_toArray, List.all_map, List.all_eq_true]
        intro _ _
        exact beq_self_eq_true _
      have h0 : (List.map (fun _ => Value.type "tuple") (v :: vr)).toArray[0]? = some (Value.type "tuple") := by simp
      rw [h0]
      simp only [hall2, if_true]
      exact wpAny_pure (wpAny_pure hq)
end
section
variable {prog : Program} {w : World} {A : Around} {E : Value → Shared → Prop} {s : Shared} {β : Type} {R : Value → β → Prop} {enc : β → PyData} {vs : List Value} {bs : List β}
theorem my_bound {c : Nat} (hu : ∀ b, b ∈ bs → c + (enc b).depth < cLine) : ∀ d, d ∈ bs.map enc → c + d.depth < cLine := fun d hd => by
  obtain ⟨b, hb, rfl⟩ := List.mem_map.mp hd
  exact hu b hb
theorem my_sorted_data {l : Addr} {Q : Value → Shared → Prop} (hl : s.heap.IsList l vs.toArray) (e : EachIs R vs bs) (er : EachIs (fun v b => ∃ as, Reads s.heap v (enc b) as) vs bs) (hal : AllAlike (bs.map enc)) (ht : ∀ d ∈ bs.map enc, ∃ xs, d = .tuple xs) (h0 : ∃ r, bs.map enc = .tuple [] :: r) (hL : bs.length ≤ sizeLine)
    (hu : ∀ b, b ∈ bs → A.units + 2 + (enc b).depth < cLine) (h : ∀ out, out.length = bs.length → EachIs R out (bs.mergeSort (dataLe false enc)) → Q (.ref (s.heap.objs.size + 1)) { s with heap := sortedAll s.heap vs (List.toArray out) }) :
    wpAny (model prog w) A (call (.builtin "sorted") [.ref l]) Q E s := by
  have er' : EachIs (fun v b => ∃ as, Reads (sortingHeap (copyHeap s.heap vs) (s.heap.objs.size + 1) vs) v (enc b) as) vs bs := er.mono fun _ _ ⟨as, r⟩ => ⟨as, PyProof.Rows.Reads.keeps (fun _ _ => sorting_copy_old) r⟩
  exact sorted_vals hl (my_SortsAt (s := { s with heap := sortingHeap (copyHeap s.heap vs) (s.heap.objs.size + 1) vs }) (each_map (R := fun v d => ∃ as, Reads (sortingHeap (copyHeap s.heap vs) (s.heap.objs.size + 1) vs) v d as) enc er') hal ht h0 (my_bound hu)) (by rw [e.length]; exact hL)
    (h _ (by rw [sortVals_length false rfl]; exact e.length) (sortVals_data false e er' hal))
end
end PySem.W
set_option Elab.async false
set_option linter.all false
set_option maxRecDepth 100000
set_option maxHeartbeats 4000000
/-! DX14: sorted(xs) over plain data. -/
namespace L2
open PySem PySem.Spec PyProof.Rows
/-- the data can be sorted -/
def SortK (ds : List PyData) : Prop := PySem.W.Sortable ds ∨ ((∀ d ∈ ds, ∃ xs, d = .tuple xs) ∧ ∃ r, ds = .tuple [] :: r)
def rSortD (K : PySem.W.Frag) : List V → Hp → VK → Prop := fun vs H Q => ∃ (a : Addr) (bs : List (V × PyData)), vs = [V.ref a] ∧ SqL K H a (bs.map Prod.fst) ∧ (∀ b ∈ bs, Dp K H b.1 b.2) ∧ PySem.W.AllAlike (bs.map Prod.snd) ∧ SortK (bs.map Prod.snd) ∧ (∀ b ∈ bs, b.2.depth ≤ 60) ∧
  ∀ p, H p = none → Q (.ref p) (upd H p (.lst ((bs.mergeSort (PySem.W.dataLe false Prod.snd)).map Prod.fst)))
section
variable {X : Cx}
theorem each_vals : ∀ {bs : List (V × PyData)} {its : List Value}, Vals (bs.map Prod.fst) its → PySem.W.EachIs (fun u b => RelV b.1 u) its bs
  | [], its, h => by cases h; exact .nil
  | b :: bs, its, h => by
    cases h with
    | cons h1 h2 => exact .cons h1 (each_vals h2)
theorem vals_each : ∀ {bs : List (V × PyData)} {its : List Value}, PySem.W.EachIs (fun u (b : V × PyData) => RelV b.1 u) its bs → Vals (bs.map Prod.fst) its
  | [], _, .nil => .nil
  | b :: bs, _, .cons h1 h2 => .cons h1 (vals_each h2)
theorem each_reads {pins : List (Addr × Obj)} {σ : St} {H : Hp} {s : Shared} (I : Inv X pins σ H s) : ∀ {bs : List (V × PyData)} {its : List Value}, Vals (bs.map Prod.fst) its → (∀ b ∈ bs, Dp X.K H b.1 b.2) → PySem.W.EachIs (fun u (b : V × PyData) => ∃ as, Reads s.heap u b.2 as) its bs
  | [], its, h, _ => by cases h; exact .nil
  | b :: bs, its, h, hd => by
    cases h with
    | cons h1 h2 => exact .cons (Dp.reads I _ _ _ (hd b (List.mem_cons_self)) h1) (each_reads I h2 fun c hc => hd c (List.mem_cons_of_mem _ hc))
theorem cr_sortedD (hu : X.A.units + 64 < cLine) : CallR X (.builtin "sorted") (rSortD X.K) := by
  intro pins s σ H vs us Q I r h
  obtain ⟨a, bs, rfl, hs, hd, hal, hk, hdep, q⟩ := h
  obtain ⟨its, rv, hl, hz⟩ := I.list hs
  obtain ⟨u, rfl, ru⟩ := vals1 r
  obtain rfl : u = Value.ref a := ru
  rw [List.length_map] at hz
  have fin : ∀ out : List Value, out.length = bs.length → PySem.W.EachIs (fun u (b : V × PyData) => RelV b.1 u) out (bs.mergeSort (PySem.W.dataLe false Prod.snd)) → EP X pins σ Q (.ref (s.heap.objs.size + 1)) { s with heap := sortedAll s.heap its (List.toArray out) } := by
    intro out ho he
    obtain ⟨n, hn⟩ := sortedAll_at s.heap its out.toArray
    refine ⟨.ref (s.heap.objs.size + 1), upd H _ (.lst _), I.laid (t' := s.toks) (fun b o e => sortedAll_old e) (Nat.le_succ _) ⟨?_, out, n, vals_each he, hn⟩, rfl, q _ (I.hok.fresh (Nat.le_succ _))⟩
    rw [List.length_map, List.length_mergeSort]
    exact hz
  rcases hk with hk | ⟨k1, k2⟩
  · exact PySem.W.sorted_data (R := fun u (b : V × PyData) => RelV b.1 u) (vs := its) (bs := bs) (enc := Prod.snd) hl.isList (each_vals rv) (each_reads I rv hd) hal hk hz (fun b hb => by have := hdep b hb; omega) fin
  · exact PySem.W.my_sorted_data (R := fun u (b : V × PyData) => RelV b.1 u) (vs := its) (bs := bs) (enc := Prod.snd) hl.isList (each_vals rv) (each_reads I rv hd) hal k1 k2 hz (fun b hb => by have := hdep b hb; omega) fin
end
end L2
namespace DL
open PySem L2
/-- the data of a text of data -/
def pd (d : D) : PyData := (toP d).getD .none
/-- Python's order, for data that can be compared -/
def leD (x y : D) : Bool := PySem.W.dataLe false pd x y
def sortD (xs : List D) : List D := xs.mergeSort leD
structure SortOk (xs : List D) : Prop where
  p : ∀ x ∈ xs, (toP x).isSome = true
  al : PySem.W.AllAlike (xs.map pd)
  so : SortK (xs.map pd)
  dp : ∀ x ∈ xs, (pd x).depth ≤ 60
/-- sorted(xs) of a list -/
def cSorted (xs : List D) (Q : D → Prop) : Prop := match xs with
  | [.lst ys] => SortOk ys ∧ Q (.lst (sortD ys))
  | _ => False
section
variable {tk : Tk} {K : PySem.W.Frag} {O : Addr → Prop} {T : Tks} {H : Hp}
theorem toP_pd {x : D} (h : (toP x).isSome = true) : toP x = some (pd x) := by
  unfold pd
  cases e : toP x with
  | none => rw [e] at h; cases h
  | some p => rfl
theorem rep_zip : ∀ {xs : List D} {vs : List V}, RepL K O T H xs vs → (vs.zip xs).map Prod.fst = vs ∧ (vs.zip xs).map Prod.snd = xs ∧ ∀ b ∈ vs.zip xs, Rep K O T H b.2 b.1
  | [], vs, h => by
    rw [show vs = [] from h]
    exact ⟨rfl, rfl, fun b hb => by cases hb⟩
  | x :: xs, vs, h => by
    obtain ⟨v, r, rfl, h1, h2⟩ := h
    obtain ⟨e1, e2, e3⟩ := rep_zip h2
    refine ⟨by rw [List.zip_cons_cons, List.map_cons, e1], by rw [List.zip_cons_cons, List.map_cons, e2], fun b hb => ?_⟩
    rw [List.zip_cons_cons] at hb
    rcases List.mem_cons.mp hb with rfl | hb
    · exact h1
    · exact e3 b hb
theorem rep_unzip : ∀ {bs : List (V × D)}, (∀ b ∈ bs, Rep K O T H b.2 b.1) → RepL K O T H (bs.map Prod.snd) (bs.map Prod.fst)
  | [], _ => rfl
  | b :: bs, h => ⟨_, _, rfl, h b (List.mem_cons_self), rep_unzip fun c hc => h c (List.mem_cons_of_mem _ hc)⟩
theorem calld_sorted : CallD tk K (rSortD K) cSorted := by
  intro F pn σ H d O T xs vs Q k I r q c
  unfold cSorted at q
  split at q
  · rename_i ys
    obtain ⟨⟨s1, s2, s3, s4⟩, q⟩ := q
    obtain ⟨v, rfl, h⟩ := r.one
    obtain ⟨a, ws, rfl, ha, rw'⟩ := RepR.lst h
    obtain ⟨e1, e2, e3⟩ := rep_zip rw'
    have m1 : ∀ {γ : Type} (g : D → γ), ((ws.zip ys).map fun b => (b.1, g b.2)).map Prod.snd = ys.map g := fun g => by
      rw [List.map_map]
      show (ws.zip ys).map (g ∘ Prod.snd) = _
      rw [← List.map_map, e2]
    have m2 : ((ws.zip ys).map fun b => (b.1, pd b.2)).map Prod.fst = ws := by
      rw [List.map_map]
      exact e1
    refine ⟨a, (ws.zip ys).map fun b => (b.1, pd b.2), rfl, SqL.of (by rw [m2]; exact ha), fun b hb => ?_, by rw [m1]; exact s2, by rw [m1]; exact s3, fun b hb => ?_, fun p hp => ?_⟩
    · obtain ⟨b, hb2, rfl⟩ := List.mem_map.mp hb
      refine Rep.dp _ _ _ (e3 b hb2) (toP_pd (s1 _ ?_))
      rw [← e2]
      exact List.mem_map.mpr ⟨b, hb2, rfl⟩
    · obtain ⟨b, hb2, rfl⟩ := List.mem_map.mp hb
      refine s4 _ ?_
      rw [← e2]
      exact List.mem_map.mpr ⟨b, hb2, rfl⟩
    · have f1 : (((ws.zip ys).map fun b => (b.1, pd b.2)).mergeSort (PySem.W.dataLe false Prod.snd)) = ((ws.zip ys).mergeSort fun x y => leD x.2 y.2).map fun b => (b.1, pd b.2) := by
        symm
        exact PySem.W.sort_maps (fun b : V × D => (b.1, pd b.2)) fun _ _ _ _ => rfl
      have f2 : ((ws.zip ys).mergeSort fun x y => leD x.2 y.2).map Prod.snd = sortD ys := by
        unfold sortD
        rw [PySem.W.sort_maps (s := leD) Prod.snd fun _ _ _ _ => rfl, e2]
      have f3 := rep_unzip (K := K) (O := O) (T := T) (H := H) (bs := (ws.zip ys).mergeSort fun x y => leD x.2 y.2) fun b hb => e3 b ((List.mergeSort_perm _ _).mem_iff.mp hb)
      rw [f1, List.map_map]
      rw [f2] at f3
      exact c _ _ _ (DI.newS I hp f3) q
  · exact q.elim
end
end DL
set_option Elab.async false
set_option linter.all false
set_option maxRecDepth 100000
set_option maxHeartbeats 4000000
/-! DX15: in, not in; constants that are tuples; max, min of lists; texts compared. -/
namespace DL
open PySem L2
def itemsOf : D → Option (List D)
  | .tup ys => some ys
  | .lst ys => some ys
  | .frz ys => some ys
  | _ => none
def flatB (x : D) : Bool := (flatD x).isSome
def eqF (y x : D) : Bool := match flatD y, flatD x with
  | some a, some b => L2.eqV a b
  | _, _ => false
def inF (x : D) (ys : List D) : Bool := ys.any fun y => eqF y x
/-- x in y, x not in y -/
def fIn (neg : Bool) (x y : D) (Q : D → Prop) : Prop := (∃ ys, itemsOf y = some ys ∧ flatB x = true ∧ ys.all flatB = true ∧ Q (.bl (neg != inF x ys))) ∨
  ∃ ys d ds, y = .lst ys ∧ toP x = some d ∧ toPs ys = some ds ∧ SeqAt.shaped d = true ∧ SeqAt.shaped (.list ds) = true ∧ Q (.bl (neg != ds.any fun z => PyData.eqv z d))
def rInAll (K : PySem.W.Frag) : R2 := fun x y H Q => rIn K false x y H Q ∨ rInD K x y H Q
def rNotInAll (K : PySem.W.Frag) : R2 := fun x y H Q => rIn K true x y H Q ∨ rNotInD K x y H Q
theorem op_inAll {X : Cx} (hu : X.A.units + 65 < cLine) : OpR X (compareOp .In) (rInAll X.K) := op_in_seq.or (op_inD hu)
theorem op_notInAll {X : Cx} (hu : X.A.units + 65 < cLine) : OpR X (compareOp .NotIn) (rNotInAll X.K) := op_notIn_seq.or (op_notInD hu)
section
variable {tk : Tk} {K : PySem.W.Frag} {O : Addr → Prop} {T : Tks} {H : Hp}
theorem flat_rep {x : D} {v : V} (h : RepR K O T H x v) (f : flatB x = true) : flatD x = some v ∧ flatV v = true := by
  cases x with
  | non => obtain rfl : v = .non := h; exact ⟨rfl, rfl⟩
  | bl b => obtain rfl : v = .bl b := h; exact ⟨rfl, rfl⟩
  | int b => obtain rfl : v = .int b := h; exact ⟨rfl, rfl⟩
  | str b => obtain rfl : v = .str b := h; exact ⟨rfl, rfl⟩
  | _ => cases f
theorem flat_reps : ∀ {xs : List D} {vs : List V}, RepL K O T H xs vs → xs.all flatB = true → vs.all flatV = true ∧ ∀ (x : D) (v : V), RepR K O T H x v → flatB x = true → L2.inV v vs = inF x xs
  | [], vs, h, _ => by
    rw [show vs = [] from h]
    exact ⟨rfl, fun _ _ _ _ => rfl⟩
  | y :: xs, vs, h, f => by
    obtain ⟨u, r, rfl, h1, h2⟩ := h
    obtain ⟨f1, f2⟩ := Bool.and_eq_true_iff.mp (show (flatB y && xs.all flatB) = true from f)
    obtain ⟨g1, g2⟩ := flat_reps h2 f2
    obtain ⟨e1, e2⟩ := flat_rep h1.r f1
    refine ⟨by rw [List.all_cons, e2, g1]; rfl, fun x v hx fx => ?_⟩
    obtain ⟨e3, e4⟩ := flat_rep hx fx
    show (L2.eqV u v || L2.inV v r) = (eqF y x || inF x xs)
    rw [g2 x v hx fx]
    unfold eqF
    rw [e1, e3]
theorem items_rep {y : D} {v : V} {ys : List D} (h : RepR K O T H y v) (e : itemsOf y = some ys) : ∃ a vs, v = .ref a ∧ (SqL K H a vs ∨ SqT K H a vs) ∧ RepL K O T H ys vs := by
  cases y with
  | tup zs =>
    cases e
    obtain ⟨a, vs, rfl, ha, r⟩ := h.tup
    exact ⟨a, vs, rfl, .inr ha.sq, r⟩
  | lst zs =>
    cases e
    obtain ⟨a, vs, rfl, ha, r⟩ := h.lst
    exact ⟨a, vs, rfl, .inl (SqL.of ha), r⟩
  | frz zs =>
    cases e
    obtain ⟨a, vs, rfl, ha, r⟩ := (h : ∃ a vs, v = .ref a ∧ FrzAt K O H a vs ∧ RepL K O T H _ vs)
    exact ⟨a, vs, rfl, .inl ha.sq, r⟩
  | _ => cases e
theorem lst_dp {ys : List D} {v : V} {ds : List PyData} (h : RepR K O T H (.lst ys) v) (e : toPs ys = some ds) : Dp K H v (.list ds) := by
  refine RepR.dp h ?_
  unfold toP
  rw [e]
  rfl
theorem opd_in : OpD tk K (rInAll K) (fIn false) := by
  intro F pn σ H d O T x y v w Q k I rx ry q c
  rcases q with ⟨ys, e, f1, f2, q⟩ | ⟨ys, dx, ds, rfl, e1, e2, s1, s2, q⟩
  · obtain ⟨a, vs, rfl, ha, r⟩ := items_rep ry e
    obtain ⟨g1, g2⟩ := flat_reps r f2
    refine .inl ⟨a, vs, rfl, ha, (flat_rep rx f1).2, g1, ?_⟩
    rw [g2 x v rx f1]
    exact c _ _ H (DI.bl I _) (by cases h : inF x ys <;> (rw [h] at q; exact q))
  · exact .inr ⟨dx, ds, rx.dp e1, lst_dp ry e2, s1, s2, c _ _ H (DI.bl I _) (by cases h : (ds.any fun z => PyData.eqv z dx) <;> (rw [h] at q; exact q))⟩
theorem opd_notIn : OpD tk K (rNotInAll K) (fIn true) := by
  intro F pn σ H d O T x y v w Q k I rx ry q c
  rcases q with ⟨ys, e, f1, f2, q⟩ | ⟨ys, dx, ds, rfl, e1, e2, s1, s2, q⟩
  · obtain ⟨a, vs, rfl, ha, r⟩ := items_rep ry e
    obtain ⟨g1, g2⟩ := flat_reps r f2
    refine .inl ⟨a, vs, rfl, ha, (flat_rep rx f1).2, g1, ?_⟩
    rw [g2 x v rx f1]
    exact c _ _ H (DI.bl I _) (by cases h : inF x ys <;> (rw [h] at q; exact q))
  · exact .inr ⟨dx, ds, rx.dp e1, lst_dp ry e2, s1, s2, c _ _ H (DI.bl I _) (by cases h : (ds.any fun z => PyData.eqv z dx) <;> (rw [h] at q; exact q))⟩
/-- max(xs), min(xs) of a list of ints -/
def cMaxL (xs : List D) (Q : D → Prop) : Prop := match xs with
  | [.lst ys] => ∃ ns : List Int, ys = ns.map D.int ∧ ns ≠ [] ∧ ∀ m ∈ ns, (∀ n ∈ ns, n ≤ m) → Q (.int m)
  | _ => False
def cMinL (xs : List D) (Q : D → Prop) : Prop := match xs with
  | [.lst ys] => ∃ ns : List Int, ys = ns.map D.int ∧ ns ≠ [] ∧ ∀ m ∈ ns, (∀ n ∈ ns, m ≤ n) → Q (.int m)
  | _ => False
theorem calld_maxL : CallD tk K (rMax K) cMaxL := by
  intro F pn σ H d O T xs vs Q k I r q c
  unfold cMaxL at q
  split at q
  · obtain ⟨v, rfl, h⟩ := r.one
    obtain ⟨a, ws, rfl, ha, rw'⟩ := RepR.lst h
    obtain ⟨ns, rfl, hn, q⟩ := q
    exact ⟨a, ns, rfl, SqL.of (by rw [ha, rw'.ints]), List.length_pos_iff.mpr hn, fun m hm hx => c _ _ _ (DI.int I m) (q m hm hx)⟩
  · exact q.elim
theorem calld_minL : CallD tk K (rMin K) cMinL := by
  intro F pn σ H d O T xs vs Q k I r q c
  unfold cMinL at q
  split at q
  · obtain ⟨v, rfl, h⟩ := r.one
    obtain ⟨a, ws, rfl, ha, rw'⟩ := RepR.lst h
    obtain ⟨ns, rfl, hn, q⟩ := q
    exact ⟨a, ns, rfl, SqL.of (by rw [ha, rw'.ints]), List.length_pos_iff.mpr hn, fun m hm hx => c _ _ _ (DI.int I m) (q m hm hx)⟩
  · exact q.elim
/-- x < y of ints, of texts -/
def fLtA (x y : D) (Q : D → Prop) : Prop := match x, y with
  | .int i, .int j => Q (.bl (decide (i < j)))
  | .str i, .str j => Q (.bl (decide (i.cps.toList < j.cps.toList)))
  | _, _ => False
def rLtAll : R2 := fun x y H Q => (rI0 fun i j => .bl (decide (i < j))) x y H Q ∨ ∃ i j, x = .str i ∧ y = .str j ∧ Q (.bl (decide (i.cps.toList < j.cps.toList))) H
theorem op_ltAll {X : Cx} : OpR X (compareOp .Lt) rLtAll := op_lt.or op_lt_str
theorem opd_ltA : OpD tk K rLtAll fLtA := by
  intro F pn σ H d O T x y v w Q k I rx ry q c
  unfold fLtA at q
  split at q
  · exact .inl ⟨_, _, rx, ry, c _ _ H (DI.bl I _) q⟩
  · exact .inr ⟨_, _, rx, ry, c _ _ H (DI.bl I _) q⟩
  · exact q.elim
theorem z_lt_i {i j : Int} {Q : D → Prop} : fLtA (.int i) (.int j) Q = Q (.bl (decide (i < j))) := rfl
theorem z_lt_s {i j : Str} {Q : D → Prop} : fLtA (.str i) (.str j) Q = Q (.bl (decide (i.cps.toList < j.cps.toList))) := rfl
theorem z_maxL {ys : List D} {Q : D → Prop} : cMaxL [.lst ys] Q = ∃ ns : List Int, ys = ns.map D.int ∧ ns ≠ [] ∧ ∀ m ∈ ns, (∀ n ∈ ns, n ≤ m) → Q (.int m) := rfl
theorem z_minL {ys : List D} {Q : D → Prop} : cMinL [.lst ys] Q = ∃ ns : List Int, ys = ns.map D.int ∧ ns ≠ [] ∧ ∀ m ∈ ns, (∀ n ∈ ns, m ≤ n) → Q (.int m) := rfl
theorem z_sorted {ys : List D} {Q : D → Prop} : cSorted [.lst ys] Q = (SortOk ys ∧ Q (.lst (sortD ys))) := rfl
/-- flat items -/
theorem in_flat {neg : Bool} {x y : D} {ys : List D} {Q : D → Prop} (e : itemsOf y = some ys) (f : flatB x = true) (f' : ys.all flatB = true) (q : Q (.bl (neg != inF x ys))) : fIn neg x y Q := .inl ⟨ys, e, f, f', q⟩
/-- a constant of the module that is a tuple of flat values -/
theorem de_globT {X : Cx} {pos : Pos} {x : Str} {ds : List D} {vs : List V} {a : Addr} (hg : Gl X x) (hm : X.mg x = some (.ref a)) (hk : KTup X.K a vs) (hd : ds.map flatD = vs.map some) (hdb : (x == ("__debug__" : Str)) = false := by decide) : DE tk X (.Name x pos) (dC (.tup ds)) := by
  refine pe_imp (pe_glob (v := .ref a) hg hm rfl hdb) ?_
  rintro σ H k ⟨F, pn, d, Q, ⟨O, T, I⟩, q, c⟩
  exact c (.ref a) H (.tup ds) d (DI.add I ⟨a, vs, rfl, .inr hk, repFlat hd⟩) q
end
section
variable {tk : Tk} {X : Cx} {pos p p2 p4 : Pos} {e : Expr} {te : DTE}
theorem de_isi2' {n m : Str} {ty ty' : String} {p3 p4 : Pos} {z : Nat} (hg : Gl X "isinstance") (hm : X.mg "isinstance" = none) (he : DE tk X e te) (hgn : Gl X n) (hmn : X.mg n = none) (hb : bootBuiltins n = some (.type ty)) (hgm : Gl X m) (hmm : X.mg m = none) (hbm : bootBuiltins m = some (.type ty'))
    (hn : n ≠ "__name__" := by decide) (hd : (n == ("__debug__" : Str)) = false := by decide) (hn' : m ≠ "__name__" := by decide) (hd' : (m == ("__debug__" : Str)) = false := by decide)
    (hs : starEach [e, .Tuple [.Name n p2, .Name m p3] z p4] X.env = (false, eval e X.env) :: starEach [.Tuple [.Name n p2, .Name m p3] z p4] X.env := by rfl) (hpl : (backTo pos (starEach [.Tuple [.Name n p2, .Name m p3] z p4] X.env)).any (·.1) = false := by rfl) :
    DE tk X (.Call (.Name "isinstance" p) [e, .Tuple [.Name n p2, .Name m p3] z p4] [] pos) (dIsi2 ty ty' te) := de_isi2 hg hm he hgn hmn hb hgm hmm hbm hn hd hn' hd' (pa_cons he (pa_cons (pe_tup (pa_cons (pe_bltn hgn hmn hb rfl hn hd) (pa_cons (pe_bltn hgm hmm hbm rfl hn' hd') pa_nil))) pa_nil) hs) hs hpl
end
section
variable {tk : Tk} {X : Cx} {pos p : Pos} {x : Str} {k n : Nat} {ps : List Str} {f : Addr} {fd : FuncData} {c : DSp}
/-- a def without arguments -/
theorem de_fn0 (G : DFn tk X.prog X.w X.K X.mg X.base x k n ps f fd c) (hb : Binds X.K fd ps []) (hr : Room k X.A) (hg : Gl X x := by rfl) (hdb : (x == ("__debug__" : Str)) = false := by decide) :
    DE tk X (.Call (.Name x p) [] [] pos) (dCall n c [] dNil) := by
  refine pe_imp (pe_call0 G.ok hr hg G.at_ G.kp hb .nil pass0 hdb) ?_
  rintro σ H k ⟨F, pn, d, Q, I, q, c'⟩
  obtain ⟨O, T, I1⟩ := I
  have J := I1
  have rl : RepL X.K O T H ([] : List D) ([] : List V) := rfl
  exact ⟨q.1, O, T, [], J.dom, J.tok, rl, _, q.2, fun y v H' qy ret => c' v H' y d (J.back ret) qy⟩
end
theorem room65 {k : Nat} {A : Around} (h : Room k A) : A.units + 65 < cLine := by have := h.un; omega
end DL
set_option Elab.async false
set_option linter.all false
set_option maxRecDepth 100000
set_option maxHeartbeats 4000000
/-! DX16: the source of draws, family W: [left, stir, count]; its token is (p, p). -/
namespace DL
open PySem L2
def tokW : Tk where
  ok := fun H a b => a = b ∧ ∃ x y z : Int, H a = some (.lst [.int x, .int y, .int z])
  loc := fun H H' a b e1 _ ⟨h, x, y, z, h1⟩ => ⟨h, x, y, z, by rw [e1]; exact h1⟩
  there := fun H a b ⟨h, x, y, z, h1⟩ => by
    subst h
    exact ⟨by rw [h1]; exact Option.some_ne_none _, by rw [h1]; exact Option.some_ne_none _⟩
structure ShW (a : Addr) (H H' : Hp) : Prop where
  keep : ∀ c o, c ≠ a → H c = some o → H' c = some o
  src : ∃ x y z : Int, H' a = some (.lst [.int x, .int y, .int z])
theorem ShW.tok {a : Addr} {H H' : Hp} (s : ShW a H H') {p : Addr × Addr} (h : tokW.ok H p.1 p.2) : tokW.ok H' p.1 p.2 := by
  obtain ⟨e, x, y, z, h1⟩ := h
  refine ⟨e, ?_⟩
  by_cases q : p.1 = a
  · rw [q]
    exact s.src
  · exact ⟨x, y, z, s.keep _ _ q h1⟩
theorem ShW.ret {K : PySem.W.Frag} {H H' : Hp} {O : Addr → Prop} {T : Tks} {a b : Addr} (s : ShW a H H') (hd : ∀ a, O a → H a ≠ none) (ht : ∀ p ∈ T, O p.1 ∧ O p.2 ∧ tokW.ok H p.1 p.2) (hab : (a, b) ∈ T) {v : V} {x : D} (r : Rep K O T H x v) (hx : flatD x = some v) : RetOk tokW K ⟨H, O, T⟩ v H' x := by
  have kp : ∀ c, H c ≠ none → H' c ≠ none := fun c hc => by
    by_cases e : c = a
    · obtain ⟨_, _, _, g1⟩ := s.src
      rw [e, g1]; exact Option.some_ne_none _
    · cases q : H c with
      | none => exact absurd q hc
      | some o => rw [s.keep c o e q]; exact Option.some_ne_none _
  refine ⟨[], [], [], O, T, DIx.add (x := x) (v := v) ?_ (Rep.flat hx)⟩
  refine { fx := True.intro, len := rfl, ext := fun c o e f => s.keep c o (f _ hab).1 e, keep := kp, up := fun a e => e, fdom := hd, dom := fun c z => kp c (hd c z), new := fun a e => .inl e, sub := fun p hp => hp, tnew := fun p hp => .inl hp, tok := fun p hp => ⟨(ht p hp).1, (ht p hp).2.1, s.tok (ht p hp).2.2⟩, sl := fun i s e => by simp at e, pe := fun p hp => by simp at hp, ss := fun i j s t v n e => by simp at e, sp := fun i s v e => by simp at e, pp := List.Pairwise.nil }
section
variable {X : Cx} {e1 e2 e3 : Expr} {t1 t2 t3 : DTE} {pos : Pos}
/-- a new source -/
def dTokW (t1 t2 t3 : DTE) (d : DS) (Q : D → DS → Prop) : Prop := t1 d fun x d1 => t2 d1 fun y d2 => t3 d2 fun z d3 => match x, y, z with
  | .int _, .int _, .int _ => ∀ a b, Q (.tok a b) d3
  | _, _, _ => False
theorem de_tokW (h1 : DE tokW X e1 t1) (h2 : DE tokW X e2 t2) (h3 : DE tokW X e3 t3)
    (hs1 : starEach [e1, e2, e3] X.env = (false, eval e1 X.env) :: starEach [e2, e3] X.env := by rfl) (hs2 : starEach [e2, e3] X.env = (false, eval e2 X.env) :: starEach [e3] X.env := by rfl) (hs3 : starEach [e3] X.env = (false, eval e3 X.env) :: starEach [] X.env := by rfl) : DE tokW X (.List [e1, e2, e3] pos) (dTokW t1 t2 t3) := by
  refine pe_imp (pe_lst (pa_cons h1 (pa_cons h2 (pa_cons h3 pa_nil hs3) hs2) hs1)) ?_
  rintro σ H k ⟨F, pn, d, Q, I, q, c⟩
  refine upE_at I q fun v H1 x d1 I1 q1 => upE_at I1 q1 fun w H2 y d2 I2 q2 => upE_at I2 q2 fun u H3 z d3 I3 q3 => ?_
  split at q3
  · rename_i h i j
    obtain ⟨O, T, I3⟩ := I3
    have rx : v = .int h := I3.pe (v, .sh (.int h)) (by simp)
    have ry : w = .int i := I3.pe (w, .sh (.int i)) (by simp)
    have rz : u = .int j := I3.pe (u, .sh (.int j)) (by simp)
    subst rx
    subst ry
    subst rz
    refine ⟨by show 3 ≤ sizeLine; decide, fun p hp => ?_⟩
    have I4 := (I3.drop (pn' := pn) ((List.sublist_cons_self _ _).trans ((List.sublist_cons_self _ _).trans (List.sublist_cons_self _ _)))).own (o := .lst [.int h, .int i, .int j]) hp
    refine c (.ref p) _ (.tok p p) d3 ⟨fun a => O a ∨ a = p, (p, p) :: T, DIx.add ?_ ⟨rfl, List.mem_cons_self⟩⟩ (q3 p p)
    have off : ∀ a, offT T a → a ≠ p → offT ((p, p) :: T) a := fun a f n1 r hr => by
      rcases List.mem_cons.mp hr with e | hr
      · subst e; exact ⟨n1, n1⟩
      · exact f r hr
    have mv : ∀ {s : SV} {x : V}, RepS X.K F (fun a => O a ∨ a = p) T (upd H3 p (.lst [.int h, .int i, .int j])) s x → (s.own = true → x ≠ .ref p) → RepS X.K F (fun a => O a ∨ a = p) ((p, p) :: T) (upd H3 p (.lst [.int h, .int i, .int j])) s x := fun {s x} r hw =>
      r.mono (fun _ _ e _ => e) (fun _ z => .inl z) (fun _ z => List.mem_cons_of_mem _ z) fun w a e => by
        obtain ⟨a', e', oa, _, fa, _⟩ := r.ownAt w
        have q : a = a' := V.ref.inj (e.symm.trans e')
        subst q
        exact ⟨rfl, oa, off a fa (fun z => (hw w) (by rw [e, z]))⟩
    have nop : ∀ {s : SV} {x : V}, RepS X.K F O T H3 s x → s.own = true → x ≠ .ref p := fun {s x} r w e => by
      obtain ⟨a', e', _, _, _, na⟩ := r.ownAt w
      have z : a' = p := V.ref.inj (e'.symm.trans e)
      exact na (by rw [z]; exact hp)
    have J := I4
    refine { J with sub := fun r hr => List.mem_cons_of_mem _ (J.sub r hr), tnew := fun r hr => ?_, tok := fun r hr => ?_, sl := fun n s es => ?_, pe := fun r hr => ?_ }
    · rcases List.mem_cons.mp hr with e | hr
      · subst e; exact .inr ⟨I3.freshF hp, I3.freshF hp⟩
      · exact J.tnew r hr
    · rcases List.mem_cons.mp hr with e | hr
      · subst e; exact ⟨.inr rfl, .inr rfl, rfl, h, i, j, upd_same⟩
      · exact J.tok r hr
    · obtain ⟨x, h1, h2⟩ := J.sl n s es
      obtain ⟨x', h1', h2'⟩ := I3.sl n s es
      have ex : x = x' := Option.some.inj (Option.some.inj (h1.symm.trans h1'))
      subst ex
      exact ⟨x, h1, mv h2 fun w => nop h2' w⟩
    · exact mv (J.pe r hr) fun w => nop (I3.pe r (by simp [hr])) w
  · exact q3.elim
end
end DL
set_option Elab.async false
set_option linter.all false
set_option maxRecDepth 100000
set_option maxHeartbeats 4000000
/-! DX17: one draw out of a source of family W, walked. -/
namespace DL
open PySem L2
structure Pw (H0 : Hp) (a : Addr) (x s c : Int) (H : Hp) : Prop where
  keep : ∀ e o, e ≠ a → H0 e = some o → H e = some o
  src : H a = some (.lst [.int x, .int s, .int c])
section
variable {K : PySem.W.Frag} {H0 H : Hp} {a b : Addr} {x s c : Int}
theorem Pw.set (z : Pw H0 a x s c H) {x' s' c' : Int} : Pw H0 a x' s' c' (upd H a (.lst [.int x', .int s', .int c'])) :=
  ⟨fun e o' n1 h => by rw [upd_ne n1]; exact z.keep e o' n1 h, upd_same⟩
theorem Pw.sh (z : Pw H0 a x s c H) : ShW a H0 H := ⟨z.keep, x, s, c, z.src⟩
theorem jx0 {σ : St} {Q : VK} (hσ : σ[0]? = some (some (.ref a))) (z : Pw H0 a x s c H) (q : Q (.int x) H) : tIx K (tVar 0) 0 σ H Q :=
  ⟨.ref a, hσ, .inl ⟨a, _, 0, .int x, rfl, rfl, SqL.of z.src, rfl, q⟩⟩
theorem jx1 {σ : St} {Q : VK} (hσ : σ[0]? = some (some (.ref a))) (z : Pw H0 a x s c H) (q : Q (.int s) H) : tIx K (tVar 0) 1 σ H Q :=
  ⟨.ref a, hσ, .inl ⟨a, _, 1, .int s, rfl, rfl, SqL.of z.src, rfl, q⟩⟩
theorem jx2 {σ : St} {Q : VK} (hσ : σ[0]? = some (some (.ref a))) (z : Pw H0 a x s c H) (q : Q (.int c) H) : tIx K (tVar 0) 2 σ H Q :=
  ⟨.ref a, hσ, .inl ⟨a, _, 2, .int c, rfl, rfl, SqL.of z.src, rfl, q⟩⟩
abbrev tMod : TE → TE → TE := tOp (rI (fun _ j => 0 < j) fun i j => .int (i % j))
abbrev tAdd : TE → TE → TE := tOp (rI0 fun i j => .int (i + j))
abbrev tMul : TE → TE → TE := tOp (rI CMul fun i j => .int (i * j))
abbrev tDiv : TE → TE → TE := tOp (rI CDivW fun i j => .int (i / j))
abbrev tI1 (t : TE) : TE := tCB rInt1 (tCons t tNil)
def tDipW (K : PySem.W.Frag) : TS :=
  tSeq (tIfS (tTest (tOp (rI0 fun i j => .bl (decide (j < i))) (tIx K (tVar 0) 0) (tC (.int 0))))
      (tSeq (tAsg (tMod (tI1 (tIx K (tVar 0) 0)) (tVar 1)) (gName 2))
      (tSeq (tAsg (tDiv (tIx K (tVar 0) 0) (tVar 1)) (gSub (tVar 0) (tC (.int 0)) rSetL))
        (tRet (tVar 2))))
      tNext)
  (tSeq (tAsg (tAdd (tIx K (tVar 0) 2) (tC (.int 1))) (gSub (tVar 0) (tC (.int 2)) rSetL))
  (tSeq (tAsg (tMod (tI1 (tAdd (tMul (tAdd (tIx K (tVar 0) 1) (tMul (tC (.int 87011)) (tIx K (tVar 0) 2))) (tC (.int 59009))) (tC (.int 71)))) (tC (.int 2147483549))) (gName 3))
  (tSeq (tAsg (tAdd (tMod (tI1 (tAdd (tMul (tVar 3) (tC (.int 43117))) (tC (.int 19013)))) (tC (.int 2147483563))) (tC (.int 1))) (gSub (tVar 0) (tC (.int 1)) rSetL))
    (tRet (tMod (tI1 (tDiv (tAdd (tMul (tVar 3) (tC (.int 2147483587))) (tIx K (tVar 0) 1)) (tC (.int 8219)))) (tVar 1))))))
theorem dipW_ok {n : Int} {D : Ends} {x2 x3 : Option V} (hn0 : 0 < n) (hn : n < 2 ^ 64) (z : Pw H0 a x s c H) (q : ∀ (r : Int) x s c H', 0 ≤ r → r < n → Pw H0 a x s c H' → D.rt (.int r) H') :
    tDipW K D [some (.ref a), some (.int n), x2, x3] H := by
  dsimp only [tDipW, tSeq, tIfS, tTest]
  refine jx0 rfl z ⟨x, 0, rfl, rfl, decide (0 < x), rfl, ?_⟩
  by_cases e : 0 < x
  · rw [if_pos (decide_eq_true e)]
    dsimp only [tNext, tSeq, gName, tAsg, List.set_cons_zero, List.set_cons_succ]
    refine jx0 rfl z (.inl ⟨x, rfl, .int n, rfl, x, n, rfl, rfl, hn0, ?_⟩)
    refine jx0 rfl z ⟨.int n, rfl, x, n, rfl, rfl, ⟨hn0, log2_lt64 hn0 hn⟩, ?_⟩
    refine ⟨.ref a, rfl, a, _, 0, 0, rfl, rfl, z.src, rfl, ?_⟩
    have z3 := z.set (x' := x / n) (s' := s) (c' := c)
    refine ⟨.int (x % n), rfl, ?_⟩
    exact q _ _ _ _ _ (Int.emod_nonneg _ (by omega)) (Int.emod_lt_of_pos _ hn0) z3
  · rw [if_neg (by rw [decide_eq_false e]; decide)]
    dsimp only [tNext, tSeq, gName, tAsg, List.set_cons_zero, List.set_cons_succ]
    refine jx2 rfl z ⟨c, 1, rfl, rfl, ?_⟩
    refine ⟨.ref a, rfl, a, _, 2, 2, rfl, rfl, z.src, rfl, ?_⟩
    have z2 := z.set (x' := x) (s' := s) (c' := c + 1)
    refine jx1 rfl z2 (jx2 rfl z2 ⟨87011, c + 1, rfl, rfl, .inl ⟨by decide, by decide⟩, s, 87011 * (c + 1), rfl, rfl, _, 59009, rfl, rfl, .inr ⟨by decide, by decide⟩, _, 71, rfl, rfl, .inl ⟨_, rfl, _, 2147483549, rfl, rfl, by show (0 : Int) < 2147483549; decide, ?_⟩⟩)
    obtain ⟨R, hR⟩ : ∃ R, ((s + 87011 * (c + 1)) * 59009 + 71) % 2147483549 = R := ⟨_, rfl⟩
    dsimp only [tNext, tSeq, gName, tAsg, List.set_cons_zero, List.set_cons_succ]
    rw [hR]
    refine ⟨.int R, rfl, R, 43117, rfl, rfl, .inr ⟨by decide, by decide⟩, _, 19013, rfl, rfl, .inl ⟨_, rfl, _, 2147483563, rfl, rfl, by show (0 : Int) < 2147483563; decide, _, 1, rfl, rfl, ?_⟩⟩
    refine ⟨.ref a, rfl, a, _, 1, 1, rfl, rfl, z2.src, rfl, ?_⟩
    have z3 := z2.set (x' := x) (s' := (R * 43117 + 19013) % 2147483563 + 1) (c' := c + 1)
    dsimp only [tNext, tSeq, gName, tRet, List.set_cons_zero, List.set_cons_succ]
    refine ⟨.int R, rfl, R, 2147483587, rfl, rfl, .inr ⟨by decide, by decide⟩, jx1 rfl z3 ⟨_, _, rfl, rfl, _, 8219, rfl, rfl, ⟨by decide, by decide +kernel⟩, .inl ⟨_, rfl, .int n, rfl, _, n, rfl, rfl, hn0, ?_⟩⟩⟩
    exact q _ _ _ _ _ (Int.emod_nonneg _ (by omega)) (Int.emod_lt_of_pos _ hn0) z3
theorem dipW_sp {vs : List V} {H : Hp} {Q : VK} {E : XK} {nx bk ct : St → Hp → Prop} (h : spD tokW K 2 cDraw vs H Q E) : tDipW K ⟨nx, Q, bk, ct⟩ (start ["well", "many", "digit", "raw"] vs) H := by
  obtain ⟨hl, O, T, xs, hd, ht, rl, Qd, q, ret⟩ := h
  unfold cDraw at q
  split at q
  · rename_i a b n
    obtain ⟨⟨n0, n1⟩, q⟩ := q
    obtain ⟨v, r, rfl, hv, hr⟩ := rl
    obtain ⟨w, r', rfl, hw, hr'⟩ := hr
    obtain rfl : r' = [] := hr'
    obtain ⟨rfl, hab⟩ := hv
    obtain rfl : w = .int n := hw
    obtain ⟨oa, ob, eab, x, s, c, h1⟩ := ht _ hab
    refine dipW_ok (a := a) (H0 := H) (x := x) (s := s) (c := c) (x2 := none) (x3 := none) n0 n1 ⟨fun _ _ _ e => e, h1⟩ fun r x s c H' r0 r1 z => ?_
    exact ret (.int r) _ H' (q r r0 r1) (z.sh.ret hd ht hab rfl rfl)
  · exact q.elim
end
end DL
set_option Elab.async false
set_option linter.all false
set_option maxRecDepth 100000
set_option maxHeartbeats 4000000
namespace My
open PySem L2 DL
local macro_rules | `(tactic| walk_at "z") => `(tactic| dsimp only [↓z_var_sh, ↓z_var_ow, ↓z_var_s, ↓z_pk_sh, ↓z_pk_ow, ↓z_pk_s, ↓z_aug, ↓z_aug_s, ↓z_pow, ↓z_pow_s, ↓z_ow, ↓z_ow_s, ↓z_put, ↓z_put_s, ↓z_ob, ↓z_dOpv, ↓z_dCBv, ↓z_dTest, ↓z_dAndV, ↓z_dOrV, ↓z_dNotV, ↓z_tst, ↓z_int, ↓z_seq_l, ↓z_seq_t, ↓z_lf_t, ↓z_lf_l, ↓z_lf_f, ↓z_rv_l, ↓z_rv_f, ↓z_tup, ↓z_cut_tup, ↓z_cut_lst, ↓z_cut_frz, ↓z_obj, ↓z_some, ↓z_app0, ↓z_app1, ↓z_app2, ↓z_app3, ↓z_app4, ↓z_app5, ↓z_app6, ↓z_app7, ↓z_app8, ↓z_app9, ↓z_i1, ↓z_i2, ↓z_sv2, ↓z_sv3, ↓z_wip0, ↓z_wip1, ↓z_all0, ↓z_all1, ↓z_fI, ↓z_fI0, ↓z_add_i, ↓z_add_s, ↓z_add_t, ↓z_add_l, ↓z_mul_i, ↓z_mul_l, ↓z_mul_t, ↓z_eq_int, ↓z_eq_str, ↓z_eq_bl, ↓z_isB, ↓z_ix_tup_1_0, ↓z_ix_lst_1_0, ↓z_ix_tup_1_m, ↓z_ix_lst_1_m, ↓z_ix_tup_2_0, ↓z_ix_lst_2_0, ↓z_ix_tup_2_1, ↓z_ix_lst_2_1, ↓z_ix_tup_2_m, ↓z_ix_lst_2_m, ↓z_ix_tup_3_0, ↓z_ix_lst_3_0, ↓z_ix_tup_3_1, ↓z_ix_lst_3_1, ↓z_ix_tup_3_2, ↓z_ix_lst_3_2, ↓z_ix_tup_3_m, ↓z_ix_lst_3_m, ↓z_ix_tup_4_0, ↓z_ix_lst_4_0, ↓z_ix_tup_4_1, ↓z_ix_lst_4_1, ↓z_ix_tup_4_2, ↓z_ix_lst_4_2, ↓z_ix_tup_4_3, ↓z_ix_lst_4_3, ↓z_ix_tup_4_m, ↓z_ix_lst_4_m, ↓z_ix_tup_5_0, ↓z_ix_lst_5_0, ↓z_ix_tup_5_1, ↓z_ix_lst_5_1, ↓z_ix_tup_5_2, ↓z_ix_lst_5_2, ↓z_ix_tup_5_3, ↓z_ix_lst_5_3, ↓z_ix_tup_5_4, ↓z_ix_lst_5_4, ↓z_ix_tup_5_m, ↓z_ix_lst_5_m, ↓z_ix_tup_6_0, ↓z_ix_lst_6_0, ↓z_ix_tup_6_1, ↓z_ix_lst_6_1, ↓z_ix_tup_6_2, ↓z_ix_lst_6_2, ↓z_ix_tup_6_3, ↓z_ix_lst_6_3, ↓z_ix_tup_6_4, ↓z_ix_lst_6_4, ↓z_ix_tup_6_5, ↓z_ix_lst_6_5, ↓z_ix_tup_6_m, ↓z_ix_lst_6_m, ↓z_ix_tup_7_0, ↓z_ix_lst_7_0, ↓z_ix_tup_7_1, ↓z_ix_lst_7_1, ↓z_ix_tup_7_2, ↓z_ix_lst_7_2, ↓z_ix_tup_7_3, ↓z_ix_lst_7_3, ↓z_ix_tup_7_4, ↓z_ix_lst_7_4, ↓z_ix_tup_7_5, ↓z_ix_lst_7_5, ↓z_ix_tup_7_6, ↓z_ix_lst_7_6, ↓z_ix_tup_7_m, ↓z_ix_lst_7_m, ↓z_cI1, ↓z_cI2, ↓z_cInt_i, ↓z_cInt_b, ↓z_cStr_i, ↓z_cStr_s, ↓z_cLen_tup, ↓z_cTuple_tup, ↓z_cList_tup, ↓z_cLen_lst, ↓z_cTuple_lst, ↓z_cList_lst, ↓z_cLen_frz, ↓z_cTuple_frz, ↓z_cList_frz, ↓z_cLen_s, ↓z_cAll, ↓z_cAny, ↓z_cSum, ↓z_dIsi, ↓z_dIsi2, ↓z_isa_non_int, ↓z_isa_non_bool, ↓z_isa_non_str, ↓z_isa_non_tuple, ↓z_isa_non_list, ↓z_isa2_non_list, ↓z_isa2_non_tuple, ↓z_isa_bl_int, ↓z_isa_bl_bool, ↓z_isa_bl_str, ↓z_isa_bl_tuple, ↓z_isa_bl_list, ↓z_isa2_bl_list, ↓z_isa2_bl_tuple, ↓z_isa_int_int, ↓z_isa_int_bool, ↓z_isa_int_str, ↓z_isa_int_tuple, ↓z_isa_int_list, ↓z_isa2_int_list, ↓z_isa2_int_tuple, ↓z_isa_str_int, ↓z_isa_str_bool, ↓z_isa_str_str, ↓z_isa_str_tuple, ↓z_isa_str_list, ↓z_isa2_str_list, ↓z_isa2_str_tuple, ↓z_isa_tup_int, ↓z_isa_tup_bool, ↓z_isa_tup_str, ↓z_isa_tup_tuple, ↓z_isa_tup_list, ↓z_isa2_tup_list, ↓z_isa2_tup_tuple, ↓z_isa_lst_int, ↓z_isa_lst_bool, ↓z_isa_lst_str, ↓z_isa_lst_tuple, ↓z_isa_lst_list, ↓z_isa2_lst_list, ↓z_isa2_lst_tuple, ↓z_isa_frz_int, ↓z_isa_frz_bool, ↓z_isa_frz_str, ↓z_isa_frz_tuple, ↓z_isa_frz_list, ↓z_isa2_frz_list, ↓z_isa2_frz_tuple, ↓z_dFld, ↓z_dFldI, ↓z_dSl, ↓z_dPart, ↓z_dRevL, ↓z_dNeg, ↓z_dListF, ↓z_dCall, ↓z_dMake, ↓z_dApp, ↓z_dPop0, ↓z_dPopAt, ↓z_srcE, ↓z_srcEnum, ↓z_srcR1, ↓z_srcR2, ↓z_cNm, ↓z_cTp, ↓z_dLc, ↓z_lcTurn, ↓z_gNm, ↓z_gTp, ↓z_gsCons, ↓z_gsNil, ↓z_sSet, ↓z_sSetF, ↓z_sAug, ↓z_sPar, ↓z_sPar3, ↓z_sFldI, ↓z_sSetIx, ↓z_dChain, ↓z_draw, ↓z_pick_tup, ↓z_pick_lst, ↓z_itT, ↓z_itF, ↓z_itNT, ↓z_itNF, ↓z_nonN, ↓z_non_bl, ↓z_non_int, ↓z_non_str, ↓z_non_tup, ↓z_non_lst, ↓z_non_frz, ↓z_non_obj, ↓dC, ↓dOp, ↓dAnd, ↓dOr, ↓dNot, ↓dIf, ↓dIsN, ↓dNotN, ↓dNil, ↓dCons, ↓dTup, ↓dLst, ↓dLstF, ↓dSh, ↓dCB, ↓dNoPart, ↓vNil, ↓vCons, ↓vConsF, ↓dYes, ↓sRet, ↓sRetN, ↓sIf, ↓sDrop, ↓sNext, ↓sBreak, ↓sCont, ↓sAsg, ↓dCallX, ↓dMakeX, ↓sRaise, ↓z_lt_i, ↓z_lt_s, ↓z_maxL, ↓z_minL, ↓z_sorted, ↓id, List.map_cons, List.map_nil, List.length_cons, List.length_nil, List.getElem?_cons_zero, List.getElem?_cons_succ, List.set_cons_zero, List.set_cons_succ, List.replicate_zero, List.replicate_succ, List.cons_append, List.nil_append, Nat.reduceAdd, Nat.reduceSub, Nat.zero_add, Option.isSome_some, Option.isSome_none, Bool.not_true, Bool.not_false, Option.bind_some, wipeD, setAllD, enumD])
local macro_rules | `(tactic| walk_at "Z") => `(tactic| dsimp only [↓sSeq, ↓z_var_sh, ↓z_var_ow, ↓z_var_s, ↓z_pk_sh, ↓z_pk_ow, ↓z_pk_s, ↓z_aug, ↓z_aug_s, ↓z_pow, ↓z_pow_s, ↓z_ow, ↓z_ow_s, ↓z_put, ↓z_put_s, ↓z_ob, ↓z_dOpv, ↓z_dCBv, ↓z_dTest, ↓z_dAndV, ↓z_dOrV, ↓z_dNotV, ↓z_tst, ↓z_int, ↓z_seq_l, ↓z_seq_t, ↓z_lf_t, ↓z_lf_l, ↓z_lf_f, ↓z_rv_l, ↓z_rv_f, ↓z_tup, ↓z_cut_tup, ↓z_cut_lst, ↓z_cut_frz, ↓z_obj, ↓z_some, ↓z_app0, ↓z_app1, ↓z_app2, ↓z_app3, ↓z_app4, ↓z_app5, ↓z_app6, ↓z_app7, ↓z_app8, ↓z_app9, ↓z_i1, ↓z_i2, ↓z_sv2, ↓z_sv3, ↓z_wip0, ↓z_wip1, ↓z_all0, ↓z_all1, ↓z_fI, ↓z_fI0, ↓z_add_i, ↓z_add_s, ↓z_add_t, ↓z_add_l, ↓z_mul_i, ↓z_mul_l, ↓z_mul_t, ↓z_eq_int, ↓z_eq_str, ↓z_eq_bl, ↓z_isB, ↓z_ix_tup_1_0, ↓z_ix_lst_1_0, ↓z_ix_tup_1_m, ↓z_ix_lst_1_m, ↓z_ix_tup_2_0, ↓z_ix_lst_2_0, ↓z_ix_tup_2_1, ↓z_ix_lst_2_1, ↓z_ix_tup_2_m, ↓z_ix_lst_2_m, ↓z_ix_tup_3_0, ↓z_ix_lst_3_0, ↓z_ix_tup_3_1, ↓z_ix_lst_3_1, ↓z_ix_tup_3_2, ↓z_ix_lst_3_2, ↓z_ix_tup_3_m, ↓z_ix_lst_3_m, ↓z_ix_tup_4_0, ↓z_ix_lst_4_0, ↓z_ix_tup_4_1, ↓z_ix_lst_4_1, ↓z_ix_tup_4_2, ↓z_ix_lst_4_2, ↓z_ix_tup_4_3, ↓z_ix_lst_4_3, ↓z_ix_tup_4_m, ↓z_ix_lst_4_m, ↓z_ix_tup_5_0, ↓z_ix_lst_5_0, ↓z_ix_tup_5_1, ↓z_ix_lst_5_1, ↓z_ix_tup_5_2, ↓z_ix_lst_5_2, ↓z_ix_tup_5_3, ↓z_ix_lst_5_3, ↓z_ix_tup_5_4, ↓z_ix_lst_5_4, ↓z_ix_tup_5_m, ↓z_ix_lst_5_m, ↓z_ix_tup_6_0, ↓z_ix_lst_6_0, ↓z_ix_tup_6_1, ↓z_ix_lst_6_1, ↓z_ix_tup_6_2, ↓z_ix_lst_6_2, ↓z_ix_tup_6_3, ↓z_ix_lst_6_3, ↓z_ix_tup_6_4, ↓z_ix_lst_6_4, ↓z_ix_tup_6_5, ↓z_ix_lst_6_5, ↓z_ix_tup_6_m, ↓z_ix_lst_6_m, ↓z_ix_tup_7_0, ↓z_ix_lst_7_0, ↓z_ix_tup_7_1, ↓z_ix_lst_7_1, ↓z_ix_tup_7_2, ↓z_ix_lst_7_2, ↓z_ix_tup_7_3, ↓z_ix_lst_7_3, ↓z_ix_tup_7_4, ↓z_ix_lst_7_4, ↓z_ix_tup_7_5, ↓z_ix_lst_7_5, ↓z_ix_tup_7_6, ↓z_ix_lst_7_6, ↓z_ix_tup_7_m, ↓z_ix_lst_7_m, ↓z_cI1, ↓z_cI2, ↓z_cInt_i, ↓z_cInt_b, ↓z_cStr_i, ↓z_cStr_s, ↓z_cLen_tup, ↓z_cTuple_tup, ↓z_cList_tup, ↓z_cLen_lst, ↓z_cTuple_lst, ↓z_cList_lst, ↓z_cLen_frz, ↓z_cTuple_frz, ↓z_cList_frz, ↓z_cLen_s, ↓z_cAll, ↓z_cAny, ↓z_cSum, ↓z_dIsi, ↓z_dIsi2, ↓z_isa_non_int, ↓z_isa_non_bool, ↓z_isa_non_str, ↓z_isa_non_tuple, ↓z_isa_non_list, ↓z_isa2_non_list, ↓z_isa2_non_tuple, ↓z_isa_bl_int, ↓z_isa_bl_bool, ↓z_isa_bl_str, ↓z_isa_bl_tuple, ↓z_isa_bl_list, ↓z_isa2_bl_list, ↓z_isa2_bl_tuple, ↓z_isa_int_int, ↓z_isa_int_bool, ↓z_isa_int_str, ↓z_isa_int_tuple, ↓z_isa_int_list, ↓z_isa2_int_list, ↓z_isa2_int_tuple, ↓z_isa_str_int, ↓z_isa_str_bool, ↓z_isa_str_str, ↓z_isa_str_tuple, ↓z_isa_str_list, ↓z_isa2_str_list, ↓z_isa2_str_tuple, ↓z_isa_tup_int, ↓z_isa_tup_bool, ↓z_isa_tup_str, ↓z_isa_tup_tuple, ↓z_isa_tup_list, ↓z_isa2_tup_list, ↓z_isa2_tup_tuple, ↓z_isa_lst_int, ↓z_isa_lst_bool, ↓z_isa_lst_str, ↓z_isa_lst_tuple, ↓z_isa_lst_list, ↓z_isa2_lst_list, ↓z_isa2_lst_tuple, ↓z_isa_frz_int, ↓z_isa_frz_bool, ↓z_isa_frz_str, ↓z_isa_frz_tuple, ↓z_isa_frz_list, ↓z_isa2_frz_list, ↓z_isa2_frz_tuple, ↓z_dFld, ↓z_dFldI, ↓z_dSl, ↓z_dPart, ↓z_dRevL, ↓z_dNeg, ↓z_dListF, ↓z_dCall, ↓z_dMake, ↓z_dApp, ↓z_dPop0, ↓z_dPopAt, ↓z_srcE, ↓z_srcEnum, ↓z_srcR1, ↓z_srcR2, ↓z_cNm, ↓z_cTp, ↓z_dLc, ↓z_lcTurn, ↓z_gNm, ↓z_gTp, ↓z_gsCons, ↓z_gsNil, ↓z_sSet, ↓z_sSetF, ↓z_sAug, ↓z_sPar, ↓z_sPar3, ↓z_sFldI, ↓z_sSetIx, ↓z_dChain, ↓z_draw, ↓z_pick_tup, ↓z_pick_lst, ↓z_itT, ↓z_itF, ↓z_itNT, ↓z_itNF, ↓z_nonN, ↓z_non_bl, ↓z_non_int, ↓z_non_str, ↓z_non_tup, ↓z_non_lst, ↓z_non_frz, ↓z_non_obj, ↓dC, ↓dOp, ↓dAnd, ↓dOr, ↓dNot, ↓dIf, ↓dIsN, ↓dNotN, ↓dNil, ↓dCons, ↓dTup, ↓dLst, ↓dLstF, ↓dSh, ↓dCB, ↓dNoPart, ↓vNil, ↓vCons, ↓vConsF, ↓dYes, ↓sRet, ↓sRetN, ↓sIf, ↓sDrop, ↓sNext, ↓sBreak, ↓sCont, ↓sAsg, ↓dCallX, ↓dMakeX, ↓sRaise, ↓z_lt_i, ↓z_lt_s, ↓z_maxL, ↓z_minL, ↓z_sorted, ↓id, List.map_cons, List.map_nil, List.length_cons, List.length_nil, List.getElem?_cons_zero, List.getElem?_cons_succ, List.set_cons_zero, List.set_cons_succ, List.replicate_zero, List.replicate_succ, List.cons_append, List.nil_append, Nat.reduceAdd, Nat.reduceSub, Nat.zero_add, Option.isSome_some, Option.isSome_none, Bool.not_true, Bool.not_false, Option.bind_some, wipeD, setAllD, enumD])
local macro_rules | `(tactic| walk_at "rs") => `(tactic| dsimp only [dLc, sRaise, sTry, dCallX, dMakeX, dXat, sRet, sRetN, sIf, sDrop, sSet, sSetF, sAug, sAsg, sPar, sPar3, sFldI, sSetIx, sBreak, sCont, sNext, gNm, gTp, gsCons, gsNil, fSub, fDiv, fMod, fPow, fLt, fLe, fGt, fGe, fEq, fNe, cAbs, cMax, cMin, dVar, dC, dOp, dOpv, dPk, dTest, dAnd, dOr, dNot, dAndV, dOrV, dNotV, dIf, dIsN, dNotN, DL.isNon, fIsB, fI, fI0, fAdd, fMul, fEqG, fIx, dNil, dCons, dTup, dLst, dLstF, dListF, dSh, dCB, dCBv, cI1, cI2, cInt, cStr, cLen, cTuple, cList, cAll, cAny, cSum, dIsi, dIsi2, tyn_non, isd_non_int, isd_non_bool, isd_non_str, isd_non_tuple, isd_non_list, tyn_bl, isd_bl_int, isd_bl_bool, isd_bl_str, isd_bl_tuple, isd_bl_list, tyn_int, isd_int_int, isd_int_bool, isd_int_str, isd_int_tuple, isd_int_list, tyn_str, isd_str_int, isd_str_bool, isd_str_str, isd_str_tuple, isd_str_list, tyn_tup, isd_tup_int, isd_tup_bool, isd_tup_str, isd_tup_tuple, isd_tup_list, tyn_lst, isd_lst_int, isd_lst_bool, isd_lst_str, isd_lst_tuple, isd_lst_list, tyn_frz, isd_frz_int, isd_frz_bool, isd_frz_str, isd_frz_tuple, isd_frz_list, itT, itF, itNT, itNF, id, dFld, dFldI, dNoPart, dPart, dSl, dRevL, dNeg, dCall, dMake, isOw, dApp, dPop0, dPopAt, vNil, vCons, vConsF, srcE, srcR1, srcR2, srcEnum, dYes, lcTurn, cNm, cTp, setAllD, wipeD, startD, dChain, SV.data, enumD, at_1_0, at_1_m, at_2_0, at_2_1, at_2_m, at_3_0, at_3_1, at_3_2, at_3_m, at_4_0, at_4_1, at_4_2, at_4_3, at_4_m, at_5_0, at_5_1, at_5_2, at_5_3, at_5_4, at_5_m, at_6_0, at_6_1, at_6_2, at_6_3, at_6_4, at_6_5, at_6_m, at_7_0, at_7_1, at_7_2, at_7_3, at_7_4, at_7_5, at_7_6, at_7_m, List.map_cons, List.map_nil, List.length_cons, List.length_nil, List.getElem?_cons_zero, List.getElem?_cons_succ, List.set_cons_zero, List.set_cons_succ, List.replicate_zero, List.replicate_succ, List.cons_append, List.nil_append, Nat.reduceAdd, Nat.reduceSub, Nat.zero_add, Option.isSome_some, Option.isSome_none, Bool.not_true, Bool.not_false, Option.bind_some])
local macro_rules | `(tactic| walk_at "rd") => `(tactic| dsimp only [sSeq, dLc, sRaise, sTry, dCallX, dMakeX, dXat, sRet, sRetN, sIf, sDrop, sSet, sSetF, sAug, sAsg, sPar, sPar3, sFldI, sSetIx, sBreak, sCont, sNext, gNm, gTp, gsCons, gsNil, fSub, fDiv, fMod, fPow, fLt, fLe, fGt, fGe, fEq, fNe, cAbs, cMax, cMin, dVar, dC, dOp, dOpv, dPk, dTest, dAnd, dOr, dNot, dAndV, dOrV, dNotV, dIf, dIsN, dNotN, DL.isNon, fIsB, fI, fI0, fAdd, fMul, fEqG, fIx, dNil, dCons, dTup, dLst, dLstF, dListF, dSh, dCB, dCBv, cI1, cI2, cInt, cStr, cLen, cTuple, cList, cAll, cAny, cSum, dIsi, dIsi2, tyn_non, isd_non_int, isd_non_bool, isd_non_str, isd_non_tuple, isd_non_list, tyn_bl, isd_bl_int, isd_bl_bool, isd_bl_str, isd_bl_tuple, isd_bl_list, tyn_int, isd_int_int, isd_int_bool, isd_int_str, isd_int_tuple, isd_int_list, tyn_str, isd_str_int, isd_str_bool, isd_str_str, isd_str_tuple, isd_str_list, tyn_tup, isd_tup_int, isd_tup_bool, isd_tup_str, isd_tup_tuple, isd_tup_list, tyn_lst, isd_lst_int, isd_lst_bool, isd_lst_str, isd_lst_tuple, isd_lst_list, tyn_frz, isd_frz_int, isd_frz_bool, isd_frz_str, isd_frz_tuple, isd_frz_list, itT, itF, itNT, itNF, id, dFld, dFldI, dNoPart, dPart, dSl, dRevL, dNeg, dCall, dMake, isOw, dApp, dPop0, dPopAt, vNil, vCons, vConsF, srcE, srcR1, srcR2, srcEnum, dYes, lcTurn, cNm, cTp, setAllD, wipeD, startD, dChain, SV.data, enumD, at_1_0, at_1_m, at_2_0, at_2_1, at_2_m, at_3_0, at_3_1, at_3_2, at_3_m, at_4_0, at_4_1, at_4_2, at_4_3, at_4_m, at_5_0, at_5_1, at_5_2, at_5_3, at_5_4, at_5_m, at_6_0, at_6_1, at_6_2, at_6_3, at_6_4, at_6_5, at_6_m, at_7_0, at_7_1, at_7_2, at_7_3, at_7_4, at_7_5, at_7_6, at_7_m, List.map_cons, List.map_nil, List.length_cons, List.length_nil, List.getElem?_cons_zero, List.getElem?_cons_succ, List.set_cons_zero, List.set_cons_succ, List.replicate_zero, List.replicate_succ, List.cons_append, List.nil_append, Nat.reduceAdd, Nat.reduceSub, Nat.zero_add, Option.isSome_some, Option.isSome_none, Bool.not_true, Bool.not_false, Option.bind_some])
local macro_rules | `(tactic| walk_at "sz") => `(tactic| repeat (with_reducible refine And.intro ?_ ?_; focus (first | exact sz (by decide) | exact szl (by decide) | exact rfl)))
def top (i : Nat) : Stmt := PySem.Challenge.pw_allapart_k56_whole_what_each_promise_cos.main.body.getD i (.Pass ⟨0, 0, 0, 0⟩)
abbrev s_is_integer : Stmt := top 5
abbrev s_is_number : Stmt := top 6
abbrev s_is_sequence : Stmt := top 7
abbrev s_need_post : Stmt := top 10
abbrev s_parts_needed : Stmt := top 11
abbrev s_kind_of : Stmt := top 17
abbrev s_is_promises : Stmt := top 19
abbrev s_need_promises : Stmt := top 20
abbrev s_waits_for : Stmt := top 21
abbrev s_seen_of : Stmt := top 22
abbrev s_room_for : Stmt := top 23
abbrev s_least_for_story : Stmt := top 24
abbrev s_least_for_kind : Stmt := top 25
abbrev s_least_lot : Stmt := top 26
abbrev s_worth_of : Stmt := top 27
abbrev s_free_promises : Stmt := top 28
abbrev s_all_promises : Stmt := top 29
abbrev s_kept_with : Stmt := top 30
abbrev s_most_pieces : Stmt := top 31
abbrev s__law_heap : Stmt := top 33
abbrev s__law_draw : Stmt := top 34
abbrev s__law_pick : Stmt := top 35
abbrev s__law_is : Stmt := top 36
abbrev s__law_like : Stmt := top 37
abbrev s__law_want : Stmt := top 38
abbrev s__law_promises : Stmt := top 39
abbrev s__law_holds_story : Stmt := top 40
abbrev s__law_holds_kind : Stmt := top 41
abbrev s__law_least : Stmt := top 42
abbrev s__law_rows : Stmt := top 43
abbrev s__law_pieces : Stmt := top 44
abbrev s_law : Stmt := top 45
abbrev s_Want___init__ : Stmt := inClass (top 18) 0
structure Adr where
  f_is_integer : Addr
  d_is_integer : FuncData
  f_is_number : Addr
  d_is_number : FuncData
  f_is_sequence : Addr
  d_is_sequence : FuncData
  f_need_post : Addr
  d_need_post : FuncData
  f_parts_needed : Addr
  d_parts_needed : FuncData
  f_kind_of : Addr
  d_kind_of : FuncData
  f_is_promises : Addr
  d_is_promises : FuncData
  f_need_promises : Addr
  d_need_promises : FuncData
  f_waits_for : Addr
  d_waits_for : FuncData
  f_seen_of : Addr
  d_seen_of : FuncData
  f_room_for : Addr
  d_room_for : FuncData
  f_least_for_story : Addr
  d_least_for_story : FuncData
  f_least_for_kind : Addr
  d_least_for_kind : FuncData
  f_least_lot : Addr
  d_least_lot : FuncData
  f_worth_of : Addr
  d_worth_of : FuncData
  f_free_promises : Addr
  d_free_promises : FuncData
  f_all_promises : Addr
  d_all_promises : FuncData
  f_kept_with : Addr
  d_kept_with : FuncData
  f_most_pieces : Addr
  d_most_pieces : FuncData
  f__law_heap : Addr
  d__law_heap : FuncData
  f__law_draw : Addr
  d__law_draw : FuncData
  f__law_pick : Addr
  d__law_pick : FuncData
  f__law_like : Addr
  d__law_like : FuncData
  f__law_want : Addr
  d__law_want : FuncData
  f__law_holds_story : Addr
  d__law_holds_story : FuncData
  f__law_holds_kind : Addr
  d__law_holds_kind : FuncData
  f__law_least : Addr
  d__law_least : FuncData
  f__law_rows : Addr
  d__law_rows : FuncData
  f__law_pieces : Addr
  d__law_pieces : FuncData
  f_law : Addr
  d_law : FuncData
  C_Want : Addr
  f_Want : Addr
  d_Want : FuncData
structure Txt (P : Program) (K : PySem.W.Frag) (mg : Str → Option Value) (A : Adr) : Prop where
  f_is_integer : FnT K mg "is_integer" "is_integer" s_is_integer [] A.f_is_integer A.d_is_integer
  f_is_number : FnT K mg "is_number" "is_number" s_is_number [V.non] A.f_is_number A.d_is_number
  f_is_sequence : FnT K mg "is_sequence" "is_sequence" s_is_sequence [] A.f_is_sequence A.d_is_sequence
  f_need_post : FnT K mg "need_post" "need_post" s_need_post [] A.f_need_post A.d_need_post
  f_parts_needed : FnT K mg "parts_needed" "parts_needed" s_parts_needed [] A.f_parts_needed A.d_parts_needed
  f_kind_of : FnT K mg "kind_of" "kind_of" s_kind_of [] A.f_kind_of A.d_kind_of
  f_is_promises : FnT K mg "is_promises" "is_promises" s_is_promises [] A.f_is_promises A.d_is_promises
  f_need_promises : FnT K mg "need_promises" "need_promises" s_need_promises [] A.f_need_promises A.d_need_promises
  f_waits_for : FnT K mg "waits_for" "waits_for" s_waits_for [] A.f_waits_for A.d_waits_for
  f_seen_of : FnT K mg "seen_of" "seen_of" s_seen_of [] A.f_seen_of A.d_seen_of
  f_room_for : FnT K mg "room_for" "room_for" s_room_for [] A.f_room_for A.d_room_for
  f_least_for_story : FnT K mg "least_for_story" "least_for_story" s_least_for_story [] A.f_least_for_story A.d_least_for_story
  f_least_for_kind : FnT K mg "least_for_kind" "least_for_kind" s_least_for_kind [] A.f_least_for_kind A.d_least_for_kind
  f_least_lot : FnT K mg "least_lot" "least_lot" s_least_lot [] A.f_least_lot A.d_least_lot
  f_worth_of : FnT K mg "worth_of" "worth_of" s_worth_of [] A.f_worth_of A.d_worth_of
  f_free_promises : FnT K mg "free_promises" "free_promises" s_free_promises [] A.f_free_promises A.d_free_promises
  f_all_promises : FnT K mg "all_promises" "all_promises" s_all_promises [] A.f_all_promises A.d_all_promises
  f_kept_with : FnT K mg "kept_with" "kept_with" s_kept_with [] A.f_kept_with A.d_kept_with
  f_most_pieces : FnT K mg "most_pieces" "most_pieces" s_most_pieces [] A.f_most_pieces A.d_most_pieces
  f__law_heap : FnT K mg "_law_heap" "_law_heap" s__law_heap [] A.f__law_heap A.d__law_heap
  f__law_draw : FnT K mg "_law_draw" "_law_draw" s__law_draw [] A.f__law_draw A.d__law_draw
  f__law_pick : FnT K mg "_law_pick" "_law_pick" s__law_pick [] A.f__law_pick A.d__law_pick
  f__law_like : FnT K mg "_law_like" "_law_like" s__law_like [] A.f__law_like A.d__law_like
  f__law_want : FnT K mg "_law_want" "_law_want" s__law_want [] A.f__law_want A.d__law_want
  f__law_holds_story : FnT K mg "_law_holds_story" "_law_holds_story" s__law_holds_story [] A.f__law_holds_story A.d__law_holds_story
  f__law_holds_kind : FnT K mg "_law_holds_kind" "_law_holds_kind" s__law_holds_kind [] A.f__law_holds_kind A.d__law_holds_kind
  f__law_least : FnT K mg "_law_least" "_law_least" s__law_least [] A.f__law_least A.d__law_least
  f__law_rows : FnT K mg "_law_rows" "_law_rows" s__law_rows [] A.f__law_rows A.d__law_rows
  f__law_pieces : FnT K mg "_law_pieces" "_law_pieces" s__law_pieces [] A.f__law_pieces A.d__law_pieces
  f_law : FnT K mg "law" "law" s_law [] A.f_law A.d_law
  c_Want : ClT K mg "Want" "Want.__init__" s_Want___init__ [] A.C_Want A.f_Want A.d_Want
  a_Want_k : PySem.W.findIn K (.ref A.C_Want) "k" = some none
  a_Want_s : PySem.W.findIn K (.ref A.C_Want) "s" = some none
  a_Want_u : PySem.W.findIn K (.ref A.C_Want) "u" = some none
  a_Want_t : PySem.W.findIn K (.ref A.C_Want) "t" = some none
  a_Want_kinds : PySem.W.findIn K (.ref A.C_Want) "kinds" = some none
  a_Want_post : PySem.W.findIn K (.ref A.C_Want) "post" = some none
  n_abs : mg "abs" = none
  n_all : mg "all" = none
  n_any : mg "any" = none
  n_bool : mg "bool" = none
  n_int : mg "int" = none
  n_isinstance : mg "isinstance" = none
  n_len : mg "len" = none
  n_list : mg "list" = none
  n_max : mg "max" = none
  n_min : mg "min" = none
  n_range : mg "range" = none
  n_sorted : mg "sorted" = none
  n_str : mg "str" = none
  n_tuple : mg "tuple" = none
  g_POSTS : ∃ a, mg "POSTS" = some (.ref a) ∧ ∃ vs : List V, KTup K a vs ∧ ([.str "lost", .str "kept"] : List D).map flatD = vs.map some
  g_MOST_LOT : ∃ t, mg "MOST_LOT" = some (.int 7 t)
  g_MOST_SEEN : ∃ t, mg "MOST_SEEN" = some (.int 3 t)
  g_MOST_PACKED : ∃ t, mg "MOST_PACKED" = some (.int 3 t)
  g_PROMISES : ∃ a, mg "PROMISES" = some (.ref a) ∧ ∃ vs : List V, KTup K a vs ∧ ([.str "ends", .str "had", .str "small", .str "story", .str "unseen"] : List D).map flatD = vs.map some

abbrev tk : Tk := tokA
section
variable {P : Program} {w : World} {K : PySem.W.Frag} {mg : Str → Option Value} {base : Heap} {A : Adr}

def isIntB : D → Bool
  | .int _ => true
  | _ => false
def c_is_integer : DSp := fun xs Q => match xs with
  | [x] => (tyn x).isSome = true ∧ Q (.bl (isIntB x))
  | _ => False
theorem sc_is_integer : FnScope ["value"] ["value"] (defScope s_is_integer) := ⟨rfl, rfl, rfl, by decide +kernel, rfl, by decide +kernel, by decide +kernel⟩
set_option maxHeartbeats 16000000 in
theorem ok_is_integer (T : Txt P K mg A) : DFn tk P w K mg base "is_integer" 1 1 ["value"] A.f_is_integer A.d_is_integer c_is_integer := by
  have sc := sc_is_integer
  refine DFn.of (fun _ => True.intro) T.f_is_integer sc rfl (fun cdv B outer s H E hr =>
    (dss_one (ds_ret (de_and (de_isi (ty := "int") rfl T.n_isinstance (de_nm (pv 0)) rfl T.n_int (by decide +kernel)) (de_one (de_not (de_isi (ty := "bool") rfl T.n_isinstance (de_nm (pv 0)) rfl T.n_bool (by decide +kernel)))))))) ?_

  intro xs Q hl h
  match xs, hl with
  | [x], _ =>
    obtain ⟨h0, h⟩ := h
    cases x <;> first | (walk_at "rd"; exact h) | cases h0
theorem b_is_integer (T : Txt P K mg A) : Binds K A.d_is_integer ["value"] [] := T.f_is_integer.fn.bindsN (ps := ["value"]) fun _ _ _ _ _ _ us hl => match us, hl with | [_], _ => rfl


def isNumB : D → D → Bool
  | .int i, .int k => decide (0 ≤ i ∧ i ≤ k)
  | .int i, .non => decide (0 ≤ i)
  | _, _ => false
def c_is_number : DSp := fun xs Q => match xs with
  | [x, .int k] => (tyn x).isSome = true ∧ Q (.bl (isNumB x (.int k)))
  | [x, .non] => (tyn x).isSome = true ∧ Q (.bl (isNumB x .non))
  | _ => False
theorem sc_is_number : FnScope ["value", "most"] ["value", "most"] (defScope s_is_number) := ⟨rfl, rfl, rfl, by decide +kernel, rfl, by decide +kernel, by decide +kernel⟩
set_option maxHeartbeats 16000000 in
theorem ok_is_number (T : Txt P K mg A) : DFn tk P w K mg base "is_number" 2 2 ["value", "most"] A.f_is_number A.d_is_number c_is_number := by
  have sc := sc_is_number
  refine DFn.of (fun _ => True.intro) T.f_is_number sc rfl (fun cdv B outer s H E hr =>
    (dss_one (ds_ret (de_and (de_fn (ok_is_integer T) (b_is_integer T) (hr.mono (by decide)) (da_cons (de_nm (pv 0)) da_nil)) (de_and (de_cmpv op_ge opd_ge (pv 0) de_int (nomark _)) (de_one (de_or (de_isN (de_nm (pv 1))) (de_one (de_cmpv op_le opd_le (pv 0) (de_nm (pv 1)) (nomark _)))))))))) ?_

  intro xs Q hl h
  match xs, hl with
  | [x, y], _ =>
    cases y with
    | int k =>
      obtain ⟨h0, h⟩ := h
      cases x with
      | int i =>
        rw [show startD ["value", "most"] (List.map SV.sh [.int i, .int k]) = ([some (.sh (.int i)), some (.sh (.int k))] : DS) from rfl]
        dsimp only [sSeq, dLc, sRaise, sTry, dCallX, dMakeX, dXat, sRet, sRetN, sIf, sDrop, sSet, sSetF, sAug, sAsg, sPar, sPar3, sFldI, sSetIx, sBreak, sCont, sNext, gNm, gTp, gsCons, gsNil, fSub, fDiv, fMod, fPow, fLt, fLe, fGt, fGe, fEq, fNe, cAbs, cMax, cMin, dVar, dC, dOp, dOpv, dPk, dTest, dAnd, dOr, dNot, dAndV, dOrV, dNotV, dIf, dIsN, dNotN, DL.isNon, fIsB, fI, fI0, fAdd, fMul, fEqG, fIx, dNil, dCons, dTup, dLst, dLstF, dListF, dSh, dCB, dCBv, cI1, cI2, cInt, cStr, cLen, cTuple, cList, cAll, cAny, cSum, dIsi, dIsi2, tyn_non, isd_non_int, isd_non_bool, isd_non_str, isd_non_tuple, isd_non_list, tyn_bl, isd_bl_int, isd_bl_bool, isd_bl_str, isd_bl_tuple, isd_bl_list, tyn_int, isd_int_int, isd_int_bool, isd_int_str, isd_int_tuple, isd_int_list, tyn_str, isd_str_int, isd_str_bool, isd_str_str, isd_str_tuple, isd_str_list, tyn_tup, isd_tup_int, isd_tup_bool, isd_tup_str, isd_tup_tuple, isd_tup_list, tyn_lst, isd_lst_int, isd_lst_bool, isd_lst_str, isd_lst_tuple, isd_lst_list, tyn_frz, isd_frz_int, isd_frz_bool, isd_frz_str, isd_frz_tuple, isd_frz_list, itT, itF, itNT, itNF, id, dFld, dFldI, dNoPart, dPart, dSl, dRevL, dNeg, dCall, dMake, isOw, dApp, dPop0, dPopAt, vNil, vCons, vConsF, srcE, srcR1, srcR2, srcEnum, dYes, lcTurn, cNm, cTp, setAllD, wipeD, startD, dChain, SV.data, enumD, at_1_0, at_1_m, at_2_0, at_2_1, at_2_m, at_3_0, at_3_1, at_3_2, at_3_m, at_4_0, at_4_1, at_4_2, at_4_3, at_4_m, at_5_0, at_5_1, at_5_2, at_5_3, at_5_4, at_5_m, at_6_0, at_6_1, at_6_2, at_6_3, at_6_4, at_6_5, at_6_m, at_7_0, at_7_1, at_7_2, at_7_3, at_7_4, at_7_5, at_7_6, at_7_m, List.map_cons, List.map_nil, List.length_cons, List.length_nil, List.getElem?_cons_zero, List.getElem?_cons_succ, List.set_cons_zero, List.set_cons_succ, List.replicate_zero, List.replicate_succ, List.cons_append, List.nil_append, Nat.reduceAdd, Nat.reduceSub, Nat.zero_add, Option.isSome_some, Option.isSome_none, Bool.not_true, Bool.not_false, Option.bind_some, c_is_integer, isIntB]
        refine ⟨rfl, rfl, ?_⟩
        by_cases h1 : 0 ≤ i
        · simp only [reduceIte, Bool.false_eq_true, if_false, if_true, true_and, and_true, List.append_nil, Bool.not_true, Bool.not_false, decide_true, decide_false, Option.isSome_some, Option.isSome_none, h1]
          refine bl_eq h ?_
          simp only [isNumB, h1, true_and]
        · simp only [reduceIte, Bool.false_eq_true, if_false, if_true, true_and, and_true, List.append_nil, Bool.not_true, Bool.not_false, decide_true, decide_false, Option.isSome_some, Option.isSome_none, h1]
          refine bl_eq h ?_
          simp only [isNumB, h1, false_and, decide_false]
      | _ => first | exact ⟨rfl, rfl, h⟩ | cases h0
    | non =>
      obtain ⟨h0, h⟩ := h
      cases x with
      | int i =>
        rw [show startD ["value", "most"] (List.map SV.sh [.int i, .non]) = ([some (.sh (.int i)), some (.sh (.non))] : DS) from rfl]
        dsimp only [sSeq, dLc, sRaise, sTry, dCallX, dMakeX, dXat, sRet, sRetN, sIf, sDrop, sSet, sSetF, sAug, sAsg, sPar, sPar3, sFldI, sSetIx, sBreak, sCont, sNext, gNm, gTp, gsCons, gsNil, fSub, fDiv, fMod, fPow, fLt, fLe, fGt, fGe, fEq, fNe, cAbs, cMax, cMin, dVar, dC, dOp, dOpv, dPk, dTest, dAnd, dOr, dNot, dAndV, dOrV, dNotV, dIf, dIsN, dNotN, DL.isNon, fIsB, fI, fI0, fAdd, fMul, fEqG, fIx, dNil, dCons, dTup, dLst, dLstF, dListF, dSh, dCB, dCBv, cI1, cI2, cInt, cStr, cLen, cTuple, cList, cAll, cAny, cSum, dIsi, dIsi2, tyn_non, isd_non_int, isd_non_bool, isd_non_str, isd_non_tuple, isd_non_list, tyn_bl, isd_bl_int, isd_bl_bool, isd_bl_str, isd_bl_tuple, isd_bl_list, tyn_int, isd_int_int, isd_int_bool, isd_int_str, isd_int_tuple, isd_int_list, tyn_str, isd_str_int, isd_str_bool, isd_str_str, isd_str_tuple, isd_str_list, tyn_tup, isd_tup_int, isd_tup_bool, isd_tup_str, isd_tup_tuple, isd_tup_list, tyn_lst, isd_lst_int, isd_lst_bool, isd_lst_str, isd_lst_tuple, isd_lst_list, tyn_frz, isd_frz_int, isd_frz_bool, isd_frz_str, isd_frz_tuple, isd_frz_list, itT, itF, itNT, itNF, id, dFld, dFldI, dNoPart, dPart, dSl, dRevL, dNeg, dCall, dMake, isOw, dApp, dPop0, dPopAt, vNil, vCons, vConsF, srcE, srcR1, srcR2, srcEnum, dYes, lcTurn, cNm, cTp, setAllD, wipeD, startD, dChain, SV.data, enumD, at_1_0, at_1_m, at_2_0, at_2_1, at_2_m, at_3_0, at_3_1, at_3_2, at_3_m, at_4_0, at_4_1, at_4_2, at_4_3, at_4_m, at_5_0, at_5_1, at_5_2, at_5_3, at_5_4, at_5_m, at_6_0, at_6_1, at_6_2, at_6_3, at_6_4, at_6_5, at_6_m, at_7_0, at_7_1, at_7_2, at_7_3, at_7_4, at_7_5, at_7_6, at_7_m, List.map_cons, List.map_nil, List.length_cons, List.length_nil, List.getElem?_cons_zero, List.getElem?_cons_succ, List.set_cons_zero, List.set_cons_succ, List.replicate_zero, List.replicate_succ, List.cons_append, List.nil_append, Nat.reduceAdd, Nat.reduceSub, Nat.zero_add, Option.isSome_some, Option.isSome_none, Bool.not_true, Bool.not_false, Option.bind_some, c_is_integer, isIntB]
        refine ⟨rfl, rfl, ?_⟩
        by_cases h1 : 0 ≤ i
        · simp only [reduceIte, Bool.false_eq_true, if_false, if_true, true_and, and_true, List.append_nil, Bool.not_true, Bool.not_false, decide_true, decide_false, Option.isSome_some, Option.isSome_none, h1]
          refine bl_eq h ?_
          simp only [isNumB, h1, decide_true]
        · simp only [reduceIte, Bool.false_eq_true, if_false, if_true, true_and, and_true, List.append_nil, Bool.not_true, Bool.not_false, decide_true, decide_false, Option.isSome_some, Option.isSome_none, h1]
          refine bl_eq h ?_
          simp only [isNumB, h1, decide_false]
      | _ => first | exact ⟨rfl, rfl, h⟩ | cases h0
    | _ => exact False.elim h
theorem b_is_number (T : Txt P K mg A) : Binds K A.d_is_number ["value", "most"] [] := bindsAll T.f_is_number.fn (ps := ["value", "most"]) (n := 2) (j := 1) (by decide) rfl rfl fun _ _ _ _ _ _ _ us its hl hi => match us, its, hl, hi with | [_, _], [_], _, _ => ⟨_, rfl, rfl⟩
theorem b1_is_number (T : Txt P K mg A) : ∃ ds, Vals ([V.non] : List V) ds ∧ Binds K A.d_is_number ["value", "most"] ds := T.f_is_number.fn.binds1 (ps := ["value", "most"]) 1 0 (by decide) rfl fun _ _ _ _ _ _ _ us its hl hi => match us, its, hl, hi with | [_], [_], _, _ => ⟨_, rfl, rfl⟩

theorem isNum_int {a : D} {k : Int} (h : isNumB a (.int k) = true) : ∃ i, a = .int i ∧ 0 ≤ i ∧ i ≤ k := by
  cases a with
  | int i => exact ⟨i, rfl, of_decide_eq_true h⟩
  | _ => cases h
theorem isNum_non {a : D} (h : isNumB a .non = true) : ∃ i, a = .int i ∧ 0 ≤ i := by
  cases a with
  | int i => exact ⟨i, rfl, of_decide_eq_true h⟩
  | _ => cases h

def c__law_heap : DSp := fun xs Q => ∃ ns : List Int, xs = [.frz (ns.map D.int)] ∧ ns.length ≤ 63 ∧ ∀ a b, Q (.tok a b)
theorem sc__law_heap : FnScope ["script", "cells", "stir", "cell"] ["script"] (defScope s__law_heap) := ⟨rfl, rfl, rfl, by decide +kernel, rfl, by decide +kernel, by decide +kernel⟩
set_option maxHeartbeats 16000000 in
theorem ok__law_heap (T : Txt P K mg A) : DFn tk P w K mg base "_law_heap" 1 1 ["script"] A.f__law_heap A.d__law_heap c__law_heap := by
  have sc := sc__law_heap
  refine DFn.of (fun _ => True.intro) T.f__law_heap sc rfl (fun cdv B outer s H E hr =>
    (dss_cons (ds_par (i := 1) (j := 2) rfl sc.nd rfl rfl (by decide) rfl rfl (dv_consF (df_lc (own := [("cell", 3)]) (vs := [3]) rfl rfl sc.nd (sr_e (de_slice (de_nm (pv 0)) do_none (do_some de_int))) (blkOk_by (own := [("cell", 3)]) (N := ["script", "cells", "stir", "cell"]) (sc := defScope s__law_heap) (by decide +kernel)) (gok_nm (i := 3) (by decide)) (fun _ _ _ _ _ => pg_name (i := 3) sc.nd rfl (by first | exact Or.inl rfl | exact Or.inr rfl)) (fun _ _ _ _ _ => dts_nil) (fun _ _ _ _ _ => (de_op op_mod opd_mod (de_callTy call_int1 calld_int rfl T.n_int (by decide +kernel) (da_cons (de_op op_addAll opd_add (de_op op_mulAll opd_mul de_int (de_callB call_abs calld_abs rfl T.n_abs (by decide +kernel) (da_cons (de_nm (pv 3)) da_nil))) (de_callTy call_int1 calld_int rfl T.n_int (by decide +kernel) (da_cons (de_cmpv op_lt opd_lt (pv 3) de_int (nomark _)) da_nil))) da_nil)) (de_op op_pow opd_pow de_int de_int)))) (dv_cons de_int dv_nil)) (by rfl))
    (dss_cons (ds_for PassesOwn.never rfl (sr_e (de_nm (pv 1))) (dg_name (i := 3) sc.nd rfl (by first | exact Or.inl rfl | exact Or.inr rfl))
      (dss_one (ds_set (i := 2) sc.nd rfl (by first | exact Or.inl rfl | exact Or.inr rfl) (de_op op_mod opd_mod (de_callTy call_int1 calld_int rfl T.n_int (by decide +kernel) (da_cons (de_op op_addAll opd_add (de_op op_addAll opd_add (de_op op_mulAll opd_mul (de_nm (pv 2)) de_int) (de_op op_mod opd_mod (de_callTy call_int1 calld_int rfl T.n_int (by decide +kernel) (da_cons (de_nm (pv 3)) da_nil)) de_int)) de_int) da_nil)) de_int))))
    (dss_one (ds_ret (de_tokA (df_revL (de_fr (df_lc (own := [("cell", 3)]) (vs := [3]) rfl rfl sc.nd (sr_e (de_nm (pv 1))) (blkOk_by (own := [("cell", 3)]) (N := ["script", "cells", "stir", "cell"]) (sc := defScope s__law_heap) (by decide +kernel)) (gok_nm (i := 3) (by decide)) (fun _ _ _ _ _ => pg_name (i := 3) sc.nd rfl (by first | exact Or.inl rfl | exact Or.inr rfl)) (fun _ _ _ _ _ => dts_one (dt_cmpv op_ge opd_ge (pv 3) (de_op op_pow opd_pow de_int de_int) (nomark _))) (fun _ _ _ _ _ => (de_nm (pv 3)))))) (de_nm (pv 2)) de_int)))))) ?_

  rintro xs Q hl ⟨ns, rfl, hn, h⟩
  rw [show startD ["script", "cells", "stir", "cell"] (List.map SV.sh [.frz (ns.map D.int)]) = ([some (.sh (.frz (ns.map D.int))), none, none, none] : DS) from rfl]
  obtain ⟨ms, em, lm⟩ := int_of_cut (ns := ns) (lo := none) (hi := some 60)
  apply sq
  walk_at "rs"
  rw [em]
  refine ⟨fun i acc => ∃ zs : List Int, acc = zs.map D.int ∧ zs.length = i, ⟨[], rfl, rfl⟩, ?_, ?_⟩
  · rintro i y acc hy ⟨zs, rfl, rfl⟩
    rw [List.getElem?_map] at hy
    obtain ⟨c, hc, rfl⟩ := Option.map_eq_some_iff.mp hy
    have hi : zs.length < ms.length := (List.getElem?_eq_some_iff.mp hc).1
    dsimp only [dLc, sRaise, sTry, dCallX, dMakeX, dXat, sRet, sRetN, sIf, sDrop, sSet, sSetF, sAug, sAsg, sPar, sPar3, sFldI, sSetIx, sBreak, sCont, sNext, gNm, gTp, gsCons, gsNil, fSub, fDiv, fMod, fPow, fLt, fLe, fGt, fGe, fEq, fNe, cAbs, cMax, cMin, dVar, dC, dOp, dOpv, dPk, dTest, dAnd, dOr, dNot, dAndV, dOrV, dNotV, dIf, dIsN, dNotN, DL.isNon, fIsB, fI, fI0, fAdd, fMul, fEqG, fIx, dNil, dCons, dTup, dLst, dLstF, dListF, dSh, dCB, dCBv, cI1, cI2, cInt, cStr, cLen, cTuple, cList, cAll, cAny, cSum, dIsi, dIsi2, tyn_non, isd_non_int, isd_non_bool, isd_non_str, isd_non_tuple, isd_non_list, tyn_bl, isd_bl_int, isd_bl_bool, isd_bl_str, isd_bl_tuple, isd_bl_list, tyn_int, isd_int_int, isd_int_bool, isd_int_str, isd_int_tuple, isd_int_list, tyn_str, isd_str_int, isd_str_bool, isd_str_str, isd_str_tuple, isd_str_list, tyn_tup, isd_tup_int, isd_tup_bool, isd_tup_str, isd_tup_tuple, isd_tup_list, tyn_lst, isd_lst_int, isd_lst_bool, isd_lst_str, isd_lst_tuple, isd_lst_list, tyn_frz, isd_frz_int, isd_frz_bool, isd_frz_str, isd_frz_tuple, isd_frz_list, itT, itF, itNT, itNF, id, dFld, dFldI, dNoPart, dPart, dSl, dRevL, dNeg, dCall, dMake, isOw, dApp, dPop0, dPopAt, vNil, vCons, vConsF, srcE, srcR1, srcR2, srcEnum, dYes, lcTurn, cNm, cTp, setAllD, wipeD, startD, dChain, SV.data, enumD, at_1_0, at_1_m, at_2_0, at_2_1, at_2_m, at_3_0, at_3_1, at_3_2, at_3_m, at_4_0, at_4_1, at_4_2, at_4_3, at_4_m, at_5_0, at_5_1, at_5_2, at_5_3, at_5_4, at_5_m, at_6_0, at_6_1, at_6_2, at_6_3, at_6_4, at_6_5, at_6_m, at_7_0, at_7_1, at_7_2, at_7_3, at_7_4, at_7_5, at_7_6, at_7_m, List.map_cons, List.map_nil, List.length_cons, List.length_nil, List.getElem?_cons_zero, List.getElem?_cons_succ, List.set_cons_zero, List.set_cons_succ, List.replicate_zero, List.replicate_succ, List.cons_append, List.nil_append, Nat.reduceAdd, Nat.reduceSub, Nat.zero_add, Option.isSome_some, Option.isSome_none, Bool.not_true, Bool.not_false, Option.bind_some, wipeD]
    refine ⟨.inl (.inl ⟨by decide, by decide⟩), ⟨by decide, by decide, by decide⟩, by decide, rfl, ?_, zs ++ [_], (by rw [List.map_append]; rfl), by rw [List.length_append]; rfl⟩
    rw [List.length_map]
    exact Nat.lt_of_lt_of_le hi (Nat.le_trans lm (Nat.le_trans hn (by decide)))
  · rintro acc ⟨zs, rfl, hz⟩
    rw [List.length_map] at hz
    apply sq
    dsimp only [sFor]
    walk_at "rs"
    refine ⟨fun n d => ∃ s x3, d = [some (.sh (.frz (ns.map D.int))), some (.sh (.lst (zs.map D.int))), some (.sh (.int s)), x3], ⟨_, _, rfl⟩, ?_, ?_⟩
    · rintro n y d hy ⟨s, x3, rfl⟩
      rw [List.getElem?_map] at hy
      obtain ⟨c, hc, rfl⟩ := Option.map_eq_some_iff.mp hy
      walk_at "rs"
      exact ⟨.inl (.inr ⟨by decide, by decide⟩), by decide, by decide, _, _, rfl⟩
    · rintro d ⟨s, x3, rfl⟩
      dsimp only [dLc, sRaise, sTry, dCallX, dMakeX, dXat, sRet, sRetN, sIf, sDrop, sSet, sSetF, sAug, sAsg, sPar, sPar3, sFldI, sSetIx, sBreak, sCont, sNext, gNm, gTp, gsCons, gsNil, fSub, fDiv, fMod, fPow, fLt, fLe, fGt, fGe, fEq, fNe, cAbs, cMax, cMin, dVar, dC, dOp, dOpv, dPk, dTest, dAnd, dOr, dNot, dAndV, dOrV, dNotV, dIf, dIsN, dNotN, DL.isNon, fIsB, fI, fI0, fAdd, fMul, fEqG, fIx, dNil, dCons, dTup, dLst, dLstF, dListF, dSh, dCB, dCBv, cI1, cI2, cInt, cStr, cLen, cTuple, cList, cAll, cAny, cSum, dIsi, dIsi2, tyn_non, isd_non_int, isd_non_bool, isd_non_str, isd_non_tuple, isd_non_list, tyn_bl, isd_bl_int, isd_bl_bool, isd_bl_str, isd_bl_tuple, isd_bl_list, tyn_int, isd_int_int, isd_int_bool, isd_int_str, isd_int_tuple, isd_int_list, tyn_str, isd_str_int, isd_str_bool, isd_str_str, isd_str_tuple, isd_str_list, tyn_tup, isd_tup_int, isd_tup_bool, isd_tup_str, isd_tup_tuple, isd_tup_list, tyn_lst, isd_lst_int, isd_lst_bool, isd_lst_str, isd_lst_tuple, isd_lst_list, tyn_frz, isd_frz_int, isd_frz_bool, isd_frz_str, isd_frz_tuple, isd_frz_list, itT, itF, itNT, itNF, id, dFld, dFldI, dNoPart, dPart, dSl, dRevL, dNeg, dCall, dMake, isOw, dApp, dPop0, dPopAt, vNil, vCons, vConsF, srcE, srcR1, srcR2, srcEnum, dYes, lcTurn, cNm, cTp, setAllD, wipeD, startD, dChain, SV.data, enumD, at_1_0, at_1_m, at_2_0, at_2_1, at_2_m, at_3_0, at_3_1, at_3_2, at_3_m, at_4_0, at_4_1, at_4_2, at_4_3, at_4_m, at_5_0, at_5_1, at_5_2, at_5_3, at_5_4, at_5_m, at_6_0, at_6_1, at_6_2, at_6_3, at_6_4, at_6_5, at_6_m, at_7_0, at_7_1, at_7_2, at_7_3, at_7_4, at_7_5, at_7_6, at_7_m, List.map_cons, List.map_nil, List.length_cons, List.length_nil, List.getElem?_cons_zero, List.getElem?_cons_succ, List.set_cons_zero, List.set_cons_succ, List.replicate_zero, List.replicate_succ, List.cons_append, List.nil_append, Nat.reduceAdd, Nat.reduceSub, Nat.zero_add, Option.isSome_some, Option.isSome_none, Bool.not_true, Bool.not_false, Option.bind_some, dTokA]
      refine ⟨fun i acc => ∃ ws : List Int, acc = ws.map D.int ∧ ws.length ≤ i, ⟨[], rfl, Nat.le_refl _⟩, ?_, ?_⟩
      · rintro i y acc hy ⟨ws, rfl, hw⟩
        rw [List.getElem?_map] at hy
        obtain ⟨c, hc, rfl⟩ := Option.map_eq_some_iff.mp hy
        have hi : i < zs.length := (List.getElem?_eq_some_iff.mp hc).1
        dsimp only [dLc, sRaise, sTry, dCallX, dMakeX, dXat, sRet, sRetN, sIf, sDrop, sSet, sSetF, sAug, sAsg, sPar, sPar3, sFldI, sSetIx, sBreak, sCont, sNext, gNm, gTp, gsCons, gsNil, fSub, fDiv, fMod, fPow, fLt, fLe, fGt, fGe, fEq, fNe, cAbs, cMax, cMin, dVar, dC, dOp, dOpv, dPk, dTest, dAnd, dOr, dNot, dAndV, dOrV, dNotV, dIf, dIsN, dNotN, DL.isNon, fIsB, fI, fI0, fAdd, fMul, fEqG, fIx, dNil, dCons, dTup, dLst, dLstF, dListF, dSh, dCB, dCBv, cI1, cI2, cInt, cStr, cLen, cTuple, cList, cAll, cAny, cSum, dIsi, dIsi2, tyn_non, isd_non_int, isd_non_bool, isd_non_str, isd_non_tuple, isd_non_list, tyn_bl, isd_bl_int, isd_bl_bool, isd_bl_str, isd_bl_tuple, isd_bl_list, tyn_int, isd_int_int, isd_int_bool, isd_int_str, isd_int_tuple, isd_int_list, tyn_str, isd_str_int, isd_str_bool, isd_str_str, isd_str_tuple, isd_str_list, tyn_tup, isd_tup_int, isd_tup_bool, isd_tup_str, isd_tup_tuple, isd_tup_list, tyn_lst, isd_lst_int, isd_lst_bool, isd_lst_str, isd_lst_tuple, isd_lst_list, tyn_frz, isd_frz_int, isd_frz_bool, isd_frz_str, isd_frz_tuple, isd_frz_list, itT, itF, itNT, itNF, id, dFld, dFldI, dNoPart, dPart, dSl, dRevL, dNeg, dCall, dMake, isOw, dApp, dPop0, dPopAt, vNil, vCons, vConsF, srcE, srcR1, srcR2, srcEnum, dYes, lcTurn, cNm, cTp, setAllD, wipeD, startD, dChain, SV.data, enumD, at_1_0, at_1_m, at_2_0, at_2_1, at_2_m, at_3_0, at_3_1, at_3_2, at_3_m, at_4_0, at_4_1, at_4_2, at_4_3, at_4_m, at_5_0, at_5_1, at_5_2, at_5_3, at_5_4, at_5_m, at_6_0, at_6_1, at_6_2, at_6_3, at_6_4, at_6_5, at_6_m, at_7_0, at_7_1, at_7_2, at_7_3, at_7_4, at_7_5, at_7_6, at_7_m, List.map_cons, List.map_nil, List.length_cons, List.length_nil, List.getElem?_cons_zero, List.getElem?_cons_succ, List.set_cons_zero, List.set_cons_succ, List.replicate_zero, List.replicate_succ, List.cons_append, List.nil_append, Nat.reduceAdd, Nat.reduceSub, Nat.zero_add, Option.isSome_some, Option.isSome_none, Bool.not_true, Bool.not_false, Option.bind_some, wipeD]
        refine ⟨⟨by decide, by decide, by decide⟩, ifB (fun _ => ⟨rfl, ?_, ws ++ [c], (by rw [List.map_append]; rfl), by rw [List.length_append]; exact Nat.succ_le_succ hw⟩) (fun _ => ⟨rfl, ws, rfl, Nat.le_succ_of_le hw⟩)⟩
        rw [List.length_map]
        refine Nat.lt_of_le_of_lt hw (Nat.lt_of_lt_of_le hi ?_)
        rw [hz]
        exact Nat.le_trans lm (Nat.le_trans hn (by decide))
      · rintro acc ⟨ws, rfl, hw⟩
        refine ⟨⟨ws.reverse, (List.map_reverse).symm, ?_⟩, h⟩
        rw [List.length_map, hz] at hw
        rw [List.length_reverse]
        omega
theorem b__law_heap (T : Txt P K mg A) : Binds K A.d__law_heap ["script"] [] := T.f__law_heap.fn.bindsN (ps := ["script"]) fun _ _ _ _ _ _ us hl => match us, hl with | [_], _ => rfl

theorem sc__law_draw : FnScope ["heap", "many", "rest"] ["heap", "many"] (defScope s__law_draw) := ⟨rfl, rfl, rfl, by decide +kernel, rfl, by decide +kernel, by decide +kernel⟩

set_option maxHeartbeats 16000000 in
theorem ok__law_draw (T : Txt P K mg A) : DFn tk P w K mg base "_law_draw" 1 2 ["heap", "many"] A.f__law_draw A.d__law_draw cDraw := by
  have sc := sc__law_draw
  refine ⟨T.f__law_draw.at_, T.f__law_draw.fn.kp, T.f__law_draw.fn.ok sc (fun vs H Q E h => h.1) fun cdv B outer s H vs Q E hr h => ⟨_, PSs.nox ?_, drawA_sp h⟩, rfl⟩
  exact pss_cons (ps_while PassesOwn.never (PW.pt (pw_and (pt_cmpR (op_neAll hr.units) (pe_ix ix_seq (pv 0) pe_int (by intro _ _; rfl)) (pe_lst pa_nil) (nomark _)) (pw_and1 (pt_cmpR (op_eqAll hr.units) (pe_ix ix_seq (pe_ix ix_seq (pv 0) pe_int (by intro _ _; rfl)) (pe_un un_neg pe_int) (by intro _ _; rfl)) pe_int (nomark _))))) (pss_one (ps_expr (pe_bm0 PySem.F.plainAttrs_list PySem.F.slot_list_pop PySem.F.type_list_pop mt_pop (pe_ix ix_seq (pv 0) pe_int (by intro _ _; rfl))))))
    (pss_cons (ps_if (pt_cmpR (op_neAll hr.units) (pe_ix ix_seq (pv 0) pe_int (by intro _ _; rfl)) (pe_lst pa_nil) (nomark _))
      (pss_cons (ps_asg (pe_bm0 PySem.F.plainAttrs_list PySem.F.slot_list_pop PySem.F.type_list_pop mt_pop (pe_ix ix_seq (pv 0) pe_int (by intro _ _; rfl))) (pg_name (i := 2) sc.nd rfl (Or.inl rfl)))
      (pss_cons (ps_expr (pe_bm PySem.F.plainAttrs_list PySem.F.slot_list_append PySem.F.type_list_append mt_append (pe_ix ix_seq (pv 0) pe_int (by intro _ _; rfl)) (pa_cons (pe_op op_fdivW (pv 2) (pv 1)) pa_nil)))
        (pss_one (ps_ret (pe_op op_mod (pe_callTy call_int1 rfl T.n_int (by decide +kernel) (pa_cons (pv 2) pa_nil)) (pv 1)))))) pss_nil)
    (pss_cons (ps_augS (pv 0) pe_int get_lst pe_int ip_add set_list)
    (pss_cons (ps_asg (pe_op op_mod (pe_callTy call_int1 rfl T.n_int (by decide +kernel) (pa_cons (pe_op op_add (pe_op op_add (pe_op op_mul (pe_ix ix_seq (pv 0) pe_int (by intro _ _; rfl)) pe_int) pe_int) (pe_ix ix_seq (pv 0) pe_int (by intro _ _; rfl))) pa_nil)) pe_int) (pg_sub (pv 0) pe_int set_list))
      (pss_one (ps_ret (pe_op op_mod (pe_callTy call_int1 rfl T.n_int (by decide +kernel) (pa_cons (pe_op op_fdivW (pe_ix ix_seq (pv 0) pe_int (by intro _ _; rfl)) pe_int) pa_nil)) (pv 1)))))))
theorem b__law_draw (T : Txt P K mg A) : Binds K A.d__law_draw ["heap", "many"] [] := T.f__law_draw.fn.bindsN (ps := ["heap", "many"]) fun _ _ _ _ _ _ us hl => match us, hl with | [_, _], _ => rfl


abbrev c__law_pick : DSp := cPick
theorem sc__law_pick : FnScope ["heap", "some"] ["heap", "some"] (defScope s__law_pick) := ⟨rfl, rfl, rfl, by decide +kernel, rfl, by decide +kernel, by decide +kernel⟩
set_option maxHeartbeats 16000000 in
theorem ok__law_pick (T : Txt P K mg A) : DFn tk P w K mg base "_law_pick" 2 2 ["heap", "some"] A.f__law_pick A.d__law_pick c__law_pick := by
  have sc := sc__law_pick
  refine DFn.of (fun _ => True.intro) T.f__law_pick sc rfl (fun cdv B outer s H E hr =>
    (dss_one (ds_ret (de_ixv ix_seq opd_ix (pv 1) (de_fn (ok__law_draw T) (b__law_draw T) (hr.mono (by decide)) (da_cons (de_nm (pv 0)) (da_cons (de_callBv call_lenAll calld_len rfl T.n_len (by decide +kernel) (pv 1)) da_nil))))))) ?_

  intro xs Q hl h
  unfold c__law_pick cPick at h
  split at h
  · rename_i a b ys
    obtain ⟨⟨h1, h2⟩, h⟩ := h
    rw [show startD ["heap", "some"] (List.map SV.sh [.tok a b, .tup ys]) = ([some (.sh (.tok a b)), some (.sh (.tup ys))] : DS) from rfl]
    dsimp only [dLc, sRaise, sTry, dCallX, dMakeX, dXat, sRet, sRetN, sIf, sDrop, sSet, sSetF, sAug, sAsg, sPar, sPar3, sFldI, sSetIx, sBreak, sCont, sNext, gNm, gTp, gsCons, gsNil, fSub, fDiv, fMod, fPow, fLt, fLe, fGt, fGe, fEq, fNe, cAbs, cMax, cMin, dVar, dC, dOp, dOpv, dPk, dTest, dAnd, dOr, dNot, dAndV, dOrV, dNotV, dIf, dIsN, dNotN, DL.isNon, fIsB, fI, fI0, fAdd, fMul, fEqG, fIx, dNil, dCons, dTup, dLst, dLstF, dListF, dSh, dCB, dCBv, cI1, cI2, cInt, cStr, cLen, cTuple, cList, cAll, cAny, cSum, dIsi, dIsi2, tyn_non, isd_non_int, isd_non_bool, isd_non_str, isd_non_tuple, isd_non_list, tyn_bl, isd_bl_int, isd_bl_bool, isd_bl_str, isd_bl_tuple, isd_bl_list, tyn_int, isd_int_int, isd_int_bool, isd_int_str, isd_int_tuple, isd_int_list, tyn_str, isd_str_int, isd_str_bool, isd_str_str, isd_str_tuple, isd_str_list, tyn_tup, isd_tup_int, isd_tup_bool, isd_tup_str, isd_tup_tuple, isd_tup_list, tyn_lst, isd_lst_int, isd_lst_bool, isd_lst_str, isd_lst_tuple, isd_lst_list, tyn_frz, isd_frz_int, isd_frz_bool, isd_frz_str, isd_frz_tuple, isd_frz_list, itT, itF, itNT, itNF, id, dFld, dFldI, dNoPart, dPart, dSl, dRevL, dNeg, dCall, dMake, isOw, dApp, dPop0, dPopAt, vNil, vCons, vConsF, srcE, srcR1, srcR2, srcEnum, dYes, lcTurn, cNm, cTp, setAllD, wipeD, startD, dChain, SV.data, enumD, at_1_0, at_1_m, at_2_0, at_2_1, at_2_m, at_3_0, at_3_1, at_3_2, at_3_m, at_4_0, at_4_1, at_4_2, at_4_3, at_4_m, at_5_0, at_5_1, at_5_2, at_5_3, at_5_4, at_5_m, at_6_0, at_6_1, at_6_2, at_6_3, at_6_4, at_6_5, at_6_m, at_7_0, at_7_1, at_7_2, at_7_3, at_7_4, at_7_5, at_7_6, at_7_m, List.map_cons, List.map_nil, List.length_cons, List.length_nil, List.getElem?_cons_zero, List.getElem?_cons_succ, List.set_cons_zero, List.set_cons_succ, List.replicate_zero, List.replicate_succ, List.cons_append, List.nil_append, Nat.reduceAdd, Nat.reduceSub, Nat.zero_add, Option.isSome_some, Option.isSome_none, Bool.not_true, Bool.not_false, Option.bind_some, cDraw]
    refine ⟨rfl, ⟨by omega, by omega⟩, fun r r0 r1 => ?_⟩
    obtain ⟨y, hy, e⟩ := atI_draw r0 r1
    rw [e]
    exact h y hy
  · rename_i a b ys
    obtain ⟨⟨h1, h2⟩, h⟩ := h
    rw [show startD ["heap", "some"] (List.map SV.sh [.tok a b, .lst ys]) = ([some (.sh (.tok a b)), some (.sh (.lst ys))] : DS) from rfl]
    dsimp only [dLc, sRaise, sTry, dCallX, dMakeX, dXat, sRet, sRetN, sIf, sDrop, sSet, sSetF, sAug, sAsg, sPar, sPar3, sFldI, sSetIx, sBreak, sCont, sNext, gNm, gTp, gsCons, gsNil, fSub, fDiv, fMod, fPow, fLt, fLe, fGt, fGe, fEq, fNe, cAbs, cMax, cMin, dVar, dC, dOp, dOpv, dPk, dTest, dAnd, dOr, dNot, dAndV, dOrV, dNotV, dIf, dIsN, dNotN, DL.isNon, fIsB, fI, fI0, fAdd, fMul, fEqG, fIx, dNil, dCons, dTup, dLst, dLstF, dListF, dSh, dCB, dCBv, cI1, cI2, cInt, cStr, cLen, cTuple, cList, cAll, cAny, cSum, dIsi, dIsi2, tyn_non, isd_non_int, isd_non_bool, isd_non_str, isd_non_tuple, isd_non_list, tyn_bl, isd_bl_int, isd_bl_bool, isd_bl_str, isd_bl_tuple, isd_bl_list, tyn_int, isd_int_int, isd_int_bool, isd_int_str, isd_int_tuple, isd_int_list, tyn_str, isd_str_int, isd_str_bool, isd_str_str, isd_str_tuple, isd_str_list, tyn_tup, isd_tup_int, isd_tup_bool, isd_tup_str, isd_tup_tuple, isd_tup_list, tyn_lst, isd_lst_int, isd_lst_bool, isd_lst_str, isd_lst_tuple, isd_lst_list, tyn_frz, isd_frz_int, isd_frz_bool, isd_frz_str, isd_frz_tuple, isd_frz_list, itT, itF, itNT, itNF, id, dFld, dFldI, dNoPart, dPart, dSl, dRevL, dNeg, dCall, dMake, isOw, dApp, dPop0, dPopAt, vNil, vCons, vConsF, srcE, srcR1, srcR2, srcEnum, dYes, lcTurn, cNm, cTp, setAllD, wipeD, startD, dChain, SV.data, enumD, at_1_0, at_1_m, at_2_0, at_2_1, at_2_m, at_3_0, at_3_1, at_3_2, at_3_m, at_4_0, at_4_1, at_4_2, at_4_3, at_4_m, at_5_0, at_5_1, at_5_2, at_5_3, at_5_4, at_5_m, at_6_0, at_6_1, at_6_2, at_6_3, at_6_4, at_6_5, at_6_m, at_7_0, at_7_1, at_7_2, at_7_3, at_7_4, at_7_5, at_7_6, at_7_m, List.map_cons, List.map_nil, List.length_cons, List.length_nil, List.getElem?_cons_zero, List.getElem?_cons_succ, List.set_cons_zero, List.set_cons_succ, List.replicate_zero, List.replicate_succ, List.cons_append, List.nil_append, Nat.reduceAdd, Nat.reduceSub, Nat.zero_add, Option.isSome_some, Option.isSome_none, Bool.not_true, Bool.not_false, Option.bind_some, cDraw]
    refine ⟨rfl, ⟨by omega, by omega⟩, fun r r0 r1 => ?_⟩
    obtain ⟨y, hy, e⟩ := atI_draw r0 r1
    rw [e]
    exact h y hy
  · exact h.elim
theorem b__law_pick (T : Txt P K mg A) : Binds K A.d__law_pick ["heap", "some"] [] := T.f__law_pick.fn.bindsN (ps := ["heap", "some"]) fun _ _ _ _ _ _ us hl => match us, hl with | [_, _], _ => rfl


abbrev c__law_like : Nat → DSp := c_like
theorem sc__law_like : FnScope ["told", "due", "at"] ["told", "due"] (defScope s__law_like) := ⟨rfl, rfl, rfl, by decide +kernel, rfl, by decide +kernel, by decide +kernel⟩
theorem b__law_like (T : Txt P K mg A) : Binds K A.d__law_like ["told", "due"] [] := T.f__law_like.fn.bindsN (ps := ["told", "due"]) fun _ _ _ _ _ _ us hl => match us, hl with | [_, _], _ => rfl
theorem ok0__law_like (T : Txt P K mg A) : DFn tk P w K mg base "_law_like" 0 2 ["told", "due"] A.f__law_like A.d__law_like (c__law_like 0) := DFn.never T.f__law_like rfl fun _ _ h => h
set_option maxHeartbeats 16000000 in
theorem okS__law_like (T : Txt P K mg A) {j : Nat} (G : DFn tk P w K mg base "_law_like" j 2 ["told", "due"] A.f__law_like A.d__law_like (c__law_like j)) : DFn tk P w K mg base "_law_like" (j + 1) 2 ["told", "due"] A.f__law_like A.d__law_like (c__law_like (j + 1)) := by
  have sc := sc__law_like
  refine DFn.of (fun _ => True.intro) T.f__law_like sc rfl (fun cdv B outer s H E hr =>
    (dss_cons (ds_if (dt_val (de_isi (ty := "tuple") rfl T.n_isinstance (de_nm (pv 1)) rfl T.n_tuple (by decide +kernel)))
      (dss_one (ds_ret (de_and (de_isi (ty := "tuple") rfl T.n_isinstance (de_nm (pv 0)) rfl T.n_tuple (by decide +kernel)) (de_and (de_cmp (op_eqAll hr.units) opd_eq (de_callBv call_lenAll calld_len rfl T.n_len (by decide +kernel) (pv 0)) (de_callBv call_lenAll calld_len rfl T.n_len (by decide +kernel) (pv 1)) (nomark _)) (de_one (de_callB (cr_all rfl) calld_all rfl T.n_all (by decide +kernel) (da_cons (de_fr (df_lc (own := [("at", 2)]) (vs := [2]) rfl rfl sc.nd (sr_r1 rfl T.n_range (da_cons (de_callBv call_lenAll calld_len rfl T.n_len (by decide +kernel) (pv 1)) da_nil)) (blkOk_by (own := [("at", 2)]) (N := ["told", "due", "at"]) (sc := defScope s__law_like) (by decide +kernel)) (gok_nm (i := 2) (by decide)) (fun _ _ _ _ _ => pg_name (i := 2) sc.nd rfl (by first | exact Or.inl rfl | exact Or.inr rfl)) (fun _ _ _ _ _ => dts_nil) (fun _ _ _ _ _ => (de_fn G (b__law_like T) hr (da_cons (de_ixv ix_seq opd_ix (pv 0) (de_nm (pv 2))) (da_cons (de_ixv ix_seq opd_ix (pv 1) (de_nm (pv 2))) da_nil)))))) da_nil)))))))
      dss_nil)
    (dss_cons (ds_if (dt_isN (de_nm (pv 1)))
      (dss_one (ds_ret (de_isN (de_nm (pv 0)))))
      dss_nil)
    (dss_cons (ds_if (dt_val (de_isi (ty := "bool") rfl T.n_isinstance (de_nm (pv 1)) rfl T.n_bool (by decide +kernel)))
      (dss_one (ds_ret (de_ifExp (dt_val (de_nm (pv 1))) (de_cmp op_isBl opd_isB (de_nm (pv 0)) de_bl (nomark _)) (de_cmp op_isBl opd_isB (de_nm (pv 0)) de_bl (nomark _)))))
      dss_nil)
    (dss_cons (ds_if (dt_val (de_isi (ty := "int") rfl T.n_isinstance (de_nm (pv 1)) rfl T.n_int (by decide +kernel)))
      (dss_one (ds_ret (de_and (de_isi (ty := "int") rfl T.n_isinstance (de_nm (pv 0)) rfl T.n_int (by decide +kernel)) (de_and (de_not (de_isi (ty := "bool") rfl T.n_isinstance (de_nm (pv 0)) rfl T.n_bool (by decide +kernel))) (de_one (de_cmpv (op_eqAll hr.units) opd_eq (pv 0) (de_nm (pv 1)) (nomark _)))))))
      dss_nil)
    (dss_one (ds_ret (de_and (de_isi (ty := "str") rfl T.n_isinstance (de_nm (pv 0)) rfl T.n_str (by decide +kernel)) (de_one (de_cmpv (op_eqAll hr.units) opd_eq (pv 0) (de_nm (pv 1)) (nomark _))))))))))) ?_

  rintro xs Q hl ⟨x, rfl, hp, h⟩
  cases x with
  | tup ys =>
    unfold plainD at hp
    obtain ⟨h1, h2⟩ := Bool.and_eq_true_iff.mp hp
    have h1' := of_decide_eq_true h1
    rw [show startD ["told", "due", "at"] (List.map SV.sh [.tup ys, .tup ys]) = ([some (.sh (.tup ys)), some (.sh (.tup ys)), none] : DS) from rfl]
    apply sq
    walk_at "rs"
    refine ifT (by simp) ⟨⟨by omega, by omega⟩, fun i acc => acc = List.replicate i (.bl true), rfl, ?_, ?_⟩
    · rintro i y acc hy rfl
      obtain ⟨hi, rfl⟩ := rngD_at hy
      have hi' : i < ys.length := by simpa using hi
      have e : atI ys (0 + (i : Int)) = some ys[i] := by rw [Int.zero_add]; exact atI_nat (List.getElem?_eq_getElem hi')
      dsimp only [dLc, sRaise, sTry, dCallX, dMakeX, dXat, sRet, sRetN, sIf, sDrop, sSet, sSetF, sAug, sAsg, sPar, sPar3, sFldI, sSetIx, sBreak, sCont, sNext, gNm, gTp, gsCons, gsNil, fSub, fDiv, fMod, fPow, fLt, fLe, fGt, fGe, fEq, fNe, cAbs, cMax, cMin, dVar, dC, dOp, dOpv, dPk, dTest, dAnd, dOr, dNot, dAndV, dOrV, dNotV, dIf, dIsN, dNotN, DL.isNon, fIsB, fI, fI0, fAdd, fMul, fEqG, fIx, dNil, dCons, dTup, dLst, dLstF, dListF, dSh, dCB, dCBv, cI1, cI2, cInt, cStr, cLen, cTuple, cList, cAll, cAny, cSum, dIsi, dIsi2, tyn_non, isd_non_int, isd_non_bool, isd_non_str, isd_non_tuple, isd_non_list, tyn_bl, isd_bl_int, isd_bl_bool, isd_bl_str, isd_bl_tuple, isd_bl_list, tyn_int, isd_int_int, isd_int_bool, isd_int_str, isd_int_tuple, isd_int_list, tyn_str, isd_str_int, isd_str_bool, isd_str_str, isd_str_tuple, isd_str_list, tyn_tup, isd_tup_int, isd_tup_bool, isd_tup_str, isd_tup_tuple, isd_tup_list, tyn_lst, isd_lst_int, isd_lst_bool, isd_lst_str, isd_lst_tuple, isd_lst_list, tyn_frz, isd_frz_int, isd_frz_bool, isd_frz_str, isd_frz_tuple, isd_frz_list, itT, itF, itNT, itNF, id, dFld, dFldI, dNoPart, dPart, dSl, dRevL, dNeg, dCall, dMake, isOw, dApp, dPop0, dPopAt, vNil, vCons, vConsF, srcE, srcR1, srcR2, srcEnum, dYes, lcTurn, cNm, cTp, setAllD, wipeD, startD, dChain, SV.data, enumD, at_1_0, at_1_m, at_2_0, at_2_1, at_2_m, at_3_0, at_3_1, at_3_2, at_3_m, at_4_0, at_4_1, at_4_2, at_4_3, at_4_m, at_5_0, at_5_1, at_5_2, at_5_3, at_5_4, at_5_m, at_6_0, at_6_1, at_6_2, at_6_3, at_6_4, at_6_5, at_6_m, at_7_0, at_7_1, at_7_2, at_7_3, at_7_4, at_7_5, at_7_6, at_7_m, List.map_cons, List.map_nil, List.length_cons, List.length_nil, List.getElem?_cons_zero, List.getElem?_cons_succ, List.set_cons_zero, List.set_cons_succ, List.replicate_zero, List.replicate_succ, List.cons_append, List.nil_append, Nat.reduceAdd, Nat.reduceSub, Nat.zero_add, Option.isSome_some, Option.isSome_none, Bool.not_true, Bool.not_false, Option.bind_some, wipeD]
      rw [e]
      refine ⟨rfl, ?_⟩
      have hz := List.all_eq_true.mp h2 ys[i] (List.getElem_mem hi')
      cases j with
      | zero => cases hz
      | succ j => exact ⟨_, rfl, hz, rfl, by rw [List.length_replicate]; exact Nat.lt_of_lt_of_le (Nat.lt_trans hi' h1') (by decide), List.replicate_succ'.symm⟩
    · rintro acc rfl
      refine ⟨List.replicate _ true, by rw [List.map_replicate], bl_eq h ?_⟩
      symm
      rw [List.all_eq_true]
      intro b hb
      exact List.eq_of_mem_replicate hb
  | non =>
    rw [show startD ["told", "due", "at"] (List.map SV.sh [.non, .non]) = ([some (.sh (.non)), some (.sh (.non)), none] : DS) from rfl]
    walk_at "rd"
    exact h
  | bl v =>
    rw [show startD ["told", "due", "at"] (List.map SV.sh [.bl v, .bl v]) = ([some (.sh (.bl v)), some (.sh (.bl v)), none] : DS) from rfl]
    walk_at "rd"
    cases v <;> exact h
  | int v =>
    rw [show startD ["told", "due", "at"] (List.map SV.sh [.int v, .int v]) = ([some (.sh (.int v)), some (.sh (.int v)), none] : DS) from rfl]
    walk_at "rd"
    exact bl_eq h (by simp)
  | str v =>
    rw [show startD ["told", "due", "at"] (List.map SV.sh [.str v, .str v]) = ([some (.sh (.str v)), some (.sh (.str v)), none] : DS) from rfl]
    walk_at "rd"
    exact bl_eq h (by simp)
  | _ => cases hp
theorem ok__law_like (T : Txt P K mg A) : ∀ j, DFn tk P w K mg base "_law_like" j 2 ["told", "due"] A.f__law_like A.d__law_like (c__law_like j)
  | 0 => ok0__law_like T
  | j + 1 => okS__law_like T (ok__law_like T j)


def isSeqB : D → Bool
  | .tup _ => true
  | .lst _ => true
  | .frz _ => true
  | _ => false
def c_is_sequence : DSp := fun xs Q => ∃ x, xs = [x] ∧ (tyn x).isSome = true ∧ Q (.bl (isSeqB x))
theorem sc_is_sequence : FnScope ["value"] ["value"] (defScope s_is_sequence) := ⟨rfl, rfl, rfl, by decide +kernel, rfl, by decide +kernel, by decide +kernel⟩
set_option maxHeartbeats 16000000 in
theorem ok_is_sequence (T : Txt P K mg A) : DFn tk P w K mg base "is_sequence" 1 1 ["value"] A.f_is_sequence A.d_is_sequence c_is_sequence := by
  have sc := sc_is_sequence
  refine DFn.of (fun _ => True.intro) T.f_is_sequence sc rfl (fun cdv B outer s H E hr =>
    (dss_one (ds_ret (de_isi2' (ty := "list") (ty' := "tuple") rfl T.n_isinstance (de_nm (pv 0)) rfl T.n_list (by decide +kernel) rfl T.n_tuple (by decide +kernel))))) ?_

  rintro xs Q hl ⟨x, rfl, h0, h⟩
  cases x <;> first | (walk_at "rd"; exact h) | cases h0
theorem b_is_sequence (T : Txt P K mg A) : Binds K A.d_is_sequence ["value"] [] := T.f_is_sequence.fn.bindsN (ps := ["value"]) fun _ _ _ _ _ _ us hl => match us, hl with | [_], _ => rfl

def postS (b : Bool) : Str := if b then "lost" else "kept"

def c_need_post : DSp := fun xs Q => ∃ b, xs = [.str (postS b)] ∧ Q .non
theorem sc_need_post : FnScope ["post"] ["post"] (defScope s_need_post) := ⟨rfl, rfl, rfl, by decide +kernel, rfl, by decide +kernel, by decide +kernel⟩
set_option maxHeartbeats 16000000 in
theorem ok_need_post (T : Txt P K mg A) : DFn tk P w K mg base "need_post" 1 1 ["post"] A.f_need_post A.d_need_post c_need_post := by
  have sc := sc_need_post
  refine DFn.of (fun _ => True.intro) T.f_need_post sc rfl (fun cdv B outer s H E hr =>
    (dss_one (ds_if (dt_w (dw_or (dt_not (dt_val (de_isi (ty := "str") rfl T.n_isinstance (de_nm (pv 0)) rfl T.n_str (by decide +kernel)))) (dw_or1 (dt_cmpv (op_notInAll (room65 hr)) opd_notIn (pv 0) (de_globT (ds := [.str "lost", .str "kept"]) rfl T.g_POSTS.choose_spec.1 T.g_POSTS.choose_spec.2.choose_spec.1 T.g_POSTS.choose_spec.2.choose_spec.2) (by rfl)))))
      (dss_one ds_never)
      dss_nil))) ?_

  rintro xs Q hl ⟨b, rfl, h⟩
  rw [show startD ["post"] (List.map SV.sh [.str (postS b)]) = ([some (.sh (.str (postS b)))] : DS) from rfl]
  try walk_at "Z"
  cases b
  all_goals refine in_flat rfl rfl rfl ?_
  all_goals exact h
theorem b_need_post (T : Txt P K mg A) : Binds K A.d_need_post ["post"] [] := T.f_need_post.fn.bindsN (ps := ["post"]) fun _ _ _ _ _ _ us hl => match us, hl with | [_], _ => rfl

def partsI (t m n : Int) : Int := t + (m + n - 1) / n

def c_parts_needed : DSp := fun xs Q => ∃ t m n : Int, xs = [.int t, .int m, .int n] ∧ (0 ≤ t ∧ t ≤ 10 ∧ 1 ≤ m ∧ m ≤ 10 ∧ 1 ≤ n ∧ n ≤ 10) ∧ Q (.int (partsI t m n))
theorem sc_parts_needed : FnScope ["t", "m", "n"] ["t", "m", "n"] (defScope s_parts_needed) := ⟨rfl, rfl, rfl, by decide +kernel, rfl, by decide +kernel, by decide +kernel⟩
set_option maxHeartbeats 16000000 in
theorem ok_parts_needed (T : Txt P K mg A) : DFn tk P w K mg base "parts_needed" 1 3 ["t", "m", "n"] A.f_parts_needed A.d_parts_needed c_parts_needed := by
  have sc := sc_parts_needed
  refine DFn.of (fun _ => True.intro) T.f_parts_needed sc rfl (fun cdv B outer s H E hr =>
    (dss_one (ds_ret (de_op op_addAll opd_add (de_nm (pv 0)) (de_op op_fdivW opd_div (de_op op_sub opd_sub (de_op op_addAll opd_add (de_nm (pv 1)) (de_nm (pv 2))) de_int) (de_nm (pv 2))))))) ?_

  rintro xs Q hl ⟨t, m, n, rfl, ⟨h1, h2, h3, h4, h5, h6⟩, h⟩
  rw [show startD ["t", "m", "n"] (List.map SV.sh [.int t, .int m, .int n]) = ([some (.sh (.int t)), some (.sh (.int m)), some (.sh (.int n))] : DS) from rfl]
  walk_at "rs"
  exact ⟨⟨by omega, log2_lt64 (by omega) (by omega)⟩, h⟩
theorem b_parts_needed (T : Txt P K mg A) : Binds K A.d_parts_needed ["t", "m", "n"] [] := T.f_parts_needed.fn.bindsN (ps := ["t", "m", "n"]) fun _ _ _ _ _ _ us hl => match us, hl with | [_, _, _], _ => rfl

/-- a kind -/
structure Kd where
  x : Bool
  m : Int
  n : Int
def kdD (k : Kd) : D := .tup [.bl k.x, .int k.m, .int k.n]
structure Kd.ok (k : Kd) : Prop where
  m1 : 1 ≤ k.m
  m3 : k.m ≤ 3
  n1 : 1 ≤ k.n
  n3 : k.n ≤ 3

def c_kind_of : DSp := fun xs Q => ∃ k : Kd, xs = [kdD k] ∧ k.ok ∧ Q (kdD k)
theorem sc_kind_of : FnScope ["value"] ["value"] (defScope s_kind_of) := ⟨rfl, rfl, rfl, by decide +kernel, rfl, by decide +kernel, by decide +kernel⟩
set_option maxHeartbeats 16000000 in
theorem ok_kind_of (T : Txt P K mg A) : DFn tk P w K mg base "kind_of" 3 1 ["value"] A.f_kind_of A.d_kind_of c_kind_of := by
  have sc := sc_kind_of
  refine DFn.of (fun _ => True.intro) T.f_kind_of sc rfl (fun cdv B outer s H E hr =>
    (dss_cons (ds_if (dt_w (dw_or (dt_not (dt_val (de_fn (ok_is_sequence T) (b_is_sequence T) (hr.mono (by decide)) (da_cons (de_nm (pv 0)) da_nil)))) (dw_or (dt_cmp (op_neAll hr.units) opd_ne (de_callBv call_lenAll calld_len rfl T.n_len (by decide +kernel) (pv 0)) de_int (nomark _)) (dw_or1 (dt_not (dt_val (de_isi (ty := "bool") rfl T.n_isinstance (de_ixv ix_seq opd_ix (pv 0) de_int) rfl T.n_bool (by decide +kernel))))))))
      (dss_one (ds_ret de_non))
      dss_nil)
    (dss_cons (ds_if (dt_w (dw_or (dt_not (dt_val (de_fn (ok_is_number T) (b_is_number T) (hr.mono (by decide)) (da_cons (de_ixv ix_seq opd_ix (pv 0) de_int) (da_cons (de_glob (y := .int 3) (v := .int 3) rfl T.g_MOST_PACKED.choose_spec ⟨_, rfl⟩ rfl) da_nil))))) (dw_or (dt_not (dt_val (de_fn (ok_is_number T) (b_is_number T) (hr.mono (by decide)) (da_cons (de_ixv ix_seq opd_ix (pv 0) de_int) (da_cons (de_glob (y := .int 3) (v := .int 3) rfl T.g_MOST_PACKED.choose_spec ⟨_, rfl⟩ rfl) da_nil))))) (dw_or1 (dt_cmp (op_inAll (room65 hr)) opd_in de_int (de_tup (da_cons (de_ixv ix_seq opd_ix (pv 0) de_int) (da_cons (de_ixv ix_seq opd_ix (pv 0) de_int) da_nil))) (by rfl))))))
      (dss_one (ds_ret de_non))
      dss_nil)
    (dss_one (ds_ret (de_callTyv call_tuple_of calld_tuple rfl T.n_tuple (by decide +kernel) (pv 0))))))) ?_

  rintro xs Q hl ⟨⟨b, m, n⟩, rfl, ⟨m1, m3, n1, n3⟩, h⟩
  dsimp only at m1 m3 n1 n3
  unfold kdD at h ⊢
  dsimp only at h ⊢
  rw [show startD ["value"] (List.map SV.sh [.tup [.bl b, .int m, .int n]]) = ([some (.sh (.tup [.bl b, .int m, .int n]))] : DS) from rfl]
  apply sq
  dsimp only [dLc, sRaise, sTry, dCallX, dMakeX, dXat, sRet, sRetN, sIf, sDrop, sSet, sSetF, sAug, sAsg, sPar, sPar3, sFldI, sSetIx, sBreak, sCont, sNext, gNm, gTp, gsCons, gsNil, fSub, fDiv, fMod, fPow, fLt, fLe, fGt, fGe, fEq, fNe, cAbs, cMax, cMin, dVar, dC, dOp, dOpv, dPk, dTest, dAnd, dOr, dNot, dAndV, dOrV, dNotV, dIf, dIsN, dNotN, DL.isNon, fIsB, fI, fI0, fAdd, fMul, fEqG, fIx, dNil, dCons, dTup, dLst, dLstF, dListF, dSh, dCB, dCBv, cI1, cI2, cInt, cStr, cLen, cTuple, cList, cAll, cAny, cSum, dIsi, dIsi2, tyn_non, isd_non_int, isd_non_bool, isd_non_str, isd_non_tuple, isd_non_list, tyn_bl, isd_bl_int, isd_bl_bool, isd_bl_str, isd_bl_tuple, isd_bl_list, tyn_int, isd_int_int, isd_int_bool, isd_int_str, isd_int_tuple, isd_int_list, tyn_str, isd_str_int, isd_str_bool, isd_str_str, isd_str_tuple, isd_str_list, tyn_tup, isd_tup_int, isd_tup_bool, isd_tup_str, isd_tup_tuple, isd_tup_list, tyn_lst, isd_lst_int, isd_lst_bool, isd_lst_str, isd_lst_tuple, isd_lst_list, tyn_frz, isd_frz_int, isd_frz_bool, isd_frz_str, isd_frz_tuple, isd_frz_list, itT, itF, itNT, itNF, id, dFld, dFldI, dNoPart, dPart, dSl, dRevL, dNeg, dCall, dMake, isOw, dApp, dPop0, dPopAt, vNil, vCons, vConsF, srcE, srcR1, srcR2, srcEnum, dYes, lcTurn, cNm, cTp, setAllD, wipeD, startD, dChain, SV.data, enumD, at_1_0, at_1_m, at_2_0, at_2_1, at_2_m, at_3_0, at_3_1, at_3_2, at_3_m, at_4_0, at_4_1, at_4_2, at_4_3, at_4_m, at_5_0, at_5_1, at_5_2, at_5_3, at_5_4, at_5_m, at_6_0, at_6_1, at_6_2, at_6_3, at_6_4, at_6_5, at_6_m, at_7_0, at_7_1, at_7_2, at_7_3, at_7_4, at_7_5, at_7_6, at_7_m, List.map_cons, List.map_nil, List.length_cons, List.length_nil, List.getElem?_cons_zero, List.getElem?_cons_succ, List.set_cons_zero, List.set_cons_succ, List.replicate_zero, List.replicate_succ, List.cons_append, List.nil_append, Nat.reduceAdd, Nat.reduceSub, Nat.zero_add, Option.isSome_some, Option.isSome_none, Bool.not_true, Bool.not_false, Option.bind_some, c_is_sequence, isSeqB]
  refine ⟨rfl, _, rfl, rfl, ifF rfl (ifF rfl ?_)⟩
  apply sq
  dsimp only [dLc, sRaise, sTry, dCallX, dMakeX, dXat, sRet, sRetN, sIf, sDrop, sSet, sSetF, sAug, sAsg, sPar, sPar3, sFldI, sSetIx, sBreak, sCont, sNext, gNm, gTp, gsCons, gsNil, fSub, fDiv, fMod, fPow, fLt, fLe, fGt, fGe, fEq, fNe, cAbs, cMax, cMin, dVar, dC, dOp, dOpv, dPk, dTest, dAnd, dOr, dNot, dAndV, dOrV, dNotV, dIf, dIsN, dNotN, DL.isNon, fIsB, fI, fI0, fAdd, fMul, fEqG, fIx, dNil, dCons, dTup, dLst, dLstF, dListF, dSh, dCB, dCBv, cI1, cI2, cInt, cStr, cLen, cTuple, cList, cAll, cAny, cSum, dIsi, dIsi2, tyn_non, isd_non_int, isd_non_bool, isd_non_str, isd_non_tuple, isd_non_list, tyn_bl, isd_bl_int, isd_bl_bool, isd_bl_str, isd_bl_tuple, isd_bl_list, tyn_int, isd_int_int, isd_int_bool, isd_int_str, isd_int_tuple, isd_int_list, tyn_str, isd_str_int, isd_str_bool, isd_str_str, isd_str_tuple, isd_str_list, tyn_tup, isd_tup_int, isd_tup_bool, isd_tup_str, isd_tup_tuple, isd_tup_list, tyn_lst, isd_lst_int, isd_lst_bool, isd_lst_str, isd_lst_tuple, isd_lst_list, tyn_frz, isd_frz_int, isd_frz_bool, isd_frz_str, isd_frz_tuple, isd_frz_list, itT, itF, itNT, itNF, id, dFld, dFldI, dNoPart, dPart, dSl, dRevL, dNeg, dCall, dMake, isOw, dApp, dPop0, dPopAt, vNil, vCons, vConsF, srcE, srcR1, srcR2, srcEnum, dYes, lcTurn, cNm, cTp, setAllD, wipeD, startD, dChain, SV.data, enumD, at_1_0, at_1_m, at_2_0, at_2_1, at_2_m, at_3_0, at_3_1, at_3_2, at_3_m, at_4_0, at_4_1, at_4_2, at_4_3, at_4_m, at_5_0, at_5_1, at_5_2, at_5_3, at_5_4, at_5_m, at_6_0, at_6_1, at_6_2, at_6_3, at_6_4, at_6_5, at_6_m, at_7_0, at_7_1, at_7_2, at_7_3, at_7_4, at_7_5, at_7_6, at_7_m, List.map_cons, List.map_nil, List.length_cons, List.length_nil, List.getElem?_cons_zero, List.getElem?_cons_succ, List.set_cons_zero, List.set_cons_succ, List.replicate_zero, List.replicate_succ, List.cons_append, List.nil_append, Nat.reduceAdd, Nat.reduceSub, Nat.zero_add, Option.isSome_some, Option.isSome_none, Bool.not_true, Bool.not_false, Option.bind_some, c_is_number, isNumB]
  refine ⟨rfl, rfl, ifF (by simp; omega) ⟨rfl, rfl, ifF (by simp; omega) ?_⟩⟩
  refine ⟨sz (by decide), in_flat (ys := [.int m, .int n]) rfl rfl rfl ?_⟩
  walk_at "rs"
  refine ifF ?_ h
  show (false != ((decide (m = 0)) || (decide (n = 0) || false))) = false
  simp; omega
theorem b_kind_of (T : Txt P K mg A) : Binds K A.d_kind_of ["value"] [] := T.f_kind_of.fn.bindsN (ps := ["value"]) fun _ _ _ _ _ _ us hl => match us, hl with | [_], _ => rfl

structure Wt where
  k : Int
  s : Int
  u : Int
  t : Int
  ks : List Kd
  lost : Bool
structure Wt.ok (w : Wt) : Prop where
  k2 : 2 ≤ w.k
  k7 : w.k ≤ 7
  s0 : 0 ≤ w.s
  sk : w.s < w.k
  s3 : w.s ≤ 3
  u0 : 0 ≤ w.u
  uk : w.u < w.k
  u3 : w.u ≤ 3
  t0 : 0 ≤ w.t
  t3 : w.t ≤ 3
  kl : w.ks.length ≤ 3
  kk : ∀ k ∈ w.ks, k.ok
def wF (w : Wt) : List (Str × D) := [("k", .int w.k), ("s", .int w.s), ("u", .int w.u), ("t", .int w.t), ("kinds", .tup (w.ks.map kdD)), ("post", .str (postS w.lost))]
theorem none_kinds (ks : List Kd) : toPs (ks.map kdD) = some (ks.map fun k => .tuple [.bool k.x, .int k.m, .int k.n]) := by
  induction ks with
  | nil => rfl
  | cons k ks ih =>
    show (match toP (kdD k), toPs (ks.map kdD) with | some p, some ps => some (p :: ps) | _, _ => none) = _
    rw [ih]
    rfl
theorem none_any (ks : List Kd) : (ks.map fun k => PyData.tuple [.bool k.x, .int k.m, .int k.n]).any (fun z => PyData.eqv z .none) = false := by
  induction ks with
  | nil => rfl
  | cons k ks ih =>
    rw [List.map_cons, List.any_cons, ih]
    rfl
theorem kinds_shaped {ks : List Kd} (h : ks.length ≤ 3) : SeqAt.shaped (.list (ks.map fun k => PyData.tuple [.bool k.x, .int k.m, .int k.n])) = true := by
  match ks, h with
  | [], _ => rfl
  | [a], _ => rfl
  | [a, b], _ => rfl
  | [a, b, c], _ => rfl

def c_Want : DMk := fun xs Q => ∃ w : Wt, xs = [.int w.k, .int w.s, .int w.u, .int w.t, .tup (w.ks.map kdD), .str (postS w.lost)] ∧ w.ok ∧ Q (wF w)
theorem sc_Want : FnScope ["self", "k", "s", "u", "t", "kinds", "post", "found", "kind"] ["self", "k", "s", "u", "t", "kinds", "post"] (defScope s_Want___init__) := ⟨rfl, rfl, rfl, by decide +kernel, rfl, by decide +kernel, by decide +kernel⟩
set_option maxHeartbeats 16000000 in
theorem ok_Want (T : Txt P K mg A) : DCl tk P w K mg base "Want" 4 6 ["self", "k", "s", "u", "t", "kinds", "post"] A.C_Want A.f_Want A.d_Want c_Want := by
  have sc := sc_Want
  refine DCl.of (fun _ => True.intro) T.c_Want sc rfl (fun cdv B outer s H E hr =>
    (dss_cons (ds_if (dt_w (dw_or (dt_not (dt_val (de_fn (ok_is_number T) (b_is_number T) (hr.mono (by decide)) (da_cons (de_nm (pv 1)) (da_cons (de_glob (y := .int 7) (v := .int 7) rfl T.g_MOST_LOT.choose_spec ⟨_, rfl⟩ rfl) da_nil))))) (dw_or1 (dt_cmpv op_lt opd_lt (pv 1) de_int (nomark _)))))
      (dss_one ds_never)
      dss_nil)
    (dss_cons (ds_if (dt_not (dt_val (de_fn (ok_is_number T) (b_is_number T) (hr.mono (by decide)) (da_cons (de_nm (pv 2)) (da_cons (de_op op_sub opd_sub (de_nm (pv 1)) de_int) da_nil)))))
      (dss_one ds_never)
      dss_nil)
    (dss_cons (ds_if (dt_not (dt_val (de_fn (ok_is_number T) (b_is_number T) (hr.mono (by decide)) (da_cons (de_nm (pv 3)) (da_cons (de_op op_sub opd_sub (de_nm (pv 1)) de_int) da_nil)))))
      (dss_one ds_never)
      dss_nil)
    (dss_cons (ds_if (dt_not (dt_val (de_fn (ok_is_number T) (b_is_number T) (hr.mono (by decide)) (da_cons (de_nm (pv 4)) (da_cons (de_glob (y := .int 3) (v := .int 3) rfl T.g_MOST_SEEN.choose_spec ⟨_, rfl⟩ rfl) da_nil)))))
      (dss_one ds_never)
      dss_nil)
    (dss_cons (ds_if (dt_w (dw_or (dt_not (dt_val (de_fn (ok_is_sequence T) (b_is_sequence T) (hr.mono (by decide)) (da_cons (de_nm (pv 5)) da_nil)))) (dw_or1 (dt_cmp op_gt opd_gt (de_callBv call_lenAll calld_len rfl T.n_len (by decide +kernel) (pv 5)) de_int (nomark _)))))
      (dss_one ds_never)
      dss_nil)
    (dss_cons (ds_setLc (i := 7) (own := [("kind", 8)]) (vs := [8]) rfl rfl sc.nd rfl rfl (sw_true rfl rfl rfl (by decide +kernel)) (sr_e (de_nm (pv 5))) (blkOk_by (own := [("kind", 8)]) (N := ["self", "k", "s", "u", "t", "kinds", "post", "found", "kind"]) (sc := defScope s_Want___init__) (by decide +kernel)) (gok_nm (i := 8) (by decide)) (fun _ _ _ _ _ => pg_name (i := 8) sc.nd rfl (by first | exact Or.inl rfl | exact Or.inr rfl)) (fun _ _ _ _ _ => dts_nil) (fun _ _ _ _ _ => (de_fn (ok_kind_of T) (b_kind_of T) (hr.mono (by decide)) (da_cons (de_nm (pv 8)) da_nil))))
    (dss_cons (ds_if (dt_cmp (op_inAll (room65 hr)) opd_in de_non (de_nm (pv 7)) (by rfl))
      (dss_one ds_never)
      dss_nil)
    (dss_cons (ds_if (dt_w (dw_or (dt_not (dt_val (de_isi (ty := "str") rfl T.n_isinstance (de_nm (pv 6)) rfl T.n_str (by decide +kernel)))) (dw_or1 (dt_cmpv (op_notInAll (room65 hr)) opd_notIn (pv 6) (de_tup (da_cons de_str (da_cons de_str da_nil))) (by rfl)))))
      (dss_one ds_never)
      dss_nil)
    (dss_cons (ds_fldI K (pv 0) (de_nm (pv 1)))
    (dss_cons (ds_fldI K (pv 0) (de_nm (pv 2)))
    (dss_cons (ds_fldI K (pv 0) (de_nm (pv 3)))
    (dss_cons (ds_fldI K (pv 0) (de_nm (pv 4)))
    (dss_cons (ds_fldI K (pv 0) (de_callTyv call_tuple_of calld_tuple rfl T.n_tuple (by decide +kernel) (pv 7)))
    (dss_one (ds_fldI K (pv 0) (de_nm (pv 6)))))))))))))))))) ?_

  rintro y xs Q hl ⟨⟨k, s, u, t, ks, p⟩, rfl, ⟨h1, h2, h3, h4, h5, h6, h7, h8, h9, h10, h11, h12⟩, q⟩
  dsimp only at h1 h2 h3 h4 h5 h6 h7 h8 h9 h10 h11 h12
  unfold wF at q
  dsimp only at q ⊢
  rw [show startD ["self", "k", "s", "u", "t", "kinds", "post", "found", "kind"] (SV.ob y A.C_Want [] :: List.map SV.sh [.int k, .int s, .int u, .int t, .tup (ks.map kdD), .str (postS p)]) = ([some (.ob y A.C_Want []), some (.sh (.int k)), some (.sh (.int s)), some (.sh (.int u)), some (.sh (.int t)), some (.sh (.tup (ks.map kdD))), some (.sh (.str (postS p))), none, none] : DS) from rfl]
  iterate 4
    apply sq
    dsimp only [dLc, sRaise, sTry, dCallX, dMakeX, dXat, sRet, sRetN, sIf, sDrop, sSet, sSetF, sAug, sAsg, sPar, sPar3, sFldI, sSetIx, sBreak, sCont, sNext, gNm, gTp, gsCons, gsNil, fSub, fDiv, fMod, fPow, fLt, fLe, fGt, fGe, fEq, fNe, cAbs, cMax, cMin, dVar, dC, dOp, dOpv, dPk, dTest, dAnd, dOr, dNot, dAndV, dOrV, dNotV, dIf, dIsN, dNotN, DL.isNon, fIsB, fI, fI0, fAdd, fMul, fEqG, fIx, dNil, dCons, dTup, dLst, dLstF, dListF, dSh, dCB, dCBv, cI1, cI2, cInt, cStr, cLen, cTuple, cList, cAll, cAny, cSum, dIsi, dIsi2, tyn_non, isd_non_int, isd_non_bool, isd_non_str, isd_non_tuple, isd_non_list, tyn_bl, isd_bl_int, isd_bl_bool, isd_bl_str, isd_bl_tuple, isd_bl_list, tyn_int, isd_int_int, isd_int_bool, isd_int_str, isd_int_tuple, isd_int_list, tyn_str, isd_str_int, isd_str_bool, isd_str_str, isd_str_tuple, isd_str_list, tyn_tup, isd_tup_int, isd_tup_bool, isd_tup_str, isd_tup_tuple, isd_tup_list, tyn_lst, isd_lst_int, isd_lst_bool, isd_lst_str, isd_lst_tuple, isd_lst_list, tyn_frz, isd_frz_int, isd_frz_bool, isd_frz_str, isd_frz_tuple, isd_frz_list, itT, itF, itNT, itNF, id, dFld, dFldI, dNoPart, dPart, dSl, dRevL, dNeg, dCall, dMake, isOw, dApp, dPop0, dPopAt, vNil, vCons, vConsF, srcE, srcR1, srcR2, srcEnum, dYes, lcTurn, cNm, cTp, setAllD, wipeD, startD, dChain, SV.data, enumD, at_1_0, at_1_m, at_2_0, at_2_1, at_2_m, at_3_0, at_3_1, at_3_2, at_3_m, at_4_0, at_4_1, at_4_2, at_4_3, at_4_m, at_5_0, at_5_1, at_5_2, at_5_3, at_5_4, at_5_m, at_6_0, at_6_1, at_6_2, at_6_3, at_6_4, at_6_5, at_6_m, at_7_0, at_7_1, at_7_2, at_7_3, at_7_4, at_7_5, at_7_6, at_7_m, List.map_cons, List.map_nil, List.length_cons, List.length_nil, List.getElem?_cons_zero, List.getElem?_cons_succ, List.set_cons_zero, List.set_cons_succ, List.replicate_zero, List.replicate_succ, List.cons_append, List.nil_append, Nat.reduceAdd, Nat.reduceSub, Nat.zero_add, Option.isSome_some, Option.isSome_none, Bool.not_true, Bool.not_false, Option.bind_some, c_is_number, isNumB]
    refine ⟨rfl, rfl, ?_⟩
    repeat refine ifF (by simp; omega) ?_
  apply sq
  dsimp only [dLc, sRaise, sTry, dCallX, dMakeX, dXat, sRet, sRetN, sIf, sDrop, sSet, sSetF, sAug, sAsg, sPar, sPar3, sFldI, sSetIx, sBreak, sCont, sNext, gNm, gTp, gsCons, gsNil, fSub, fDiv, fMod, fPow, fLt, fLe, fGt, fGe, fEq, fNe, cAbs, cMax, cMin, dVar, dC, dOp, dOpv, dPk, dTest, dAnd, dOr, dNot, dAndV, dOrV, dNotV, dIf, dIsN, dNotN, DL.isNon, fIsB, fI, fI0, fAdd, fMul, fEqG, fIx, dNil, dCons, dTup, dLst, dLstF, dListF, dSh, dCB, dCBv, cI1, cI2, cInt, cStr, cLen, cTuple, cList, cAll, cAny, cSum, dIsi, dIsi2, tyn_non, isd_non_int, isd_non_bool, isd_non_str, isd_non_tuple, isd_non_list, tyn_bl, isd_bl_int, isd_bl_bool, isd_bl_str, isd_bl_tuple, isd_bl_list, tyn_int, isd_int_int, isd_int_bool, isd_int_str, isd_int_tuple, isd_int_list, tyn_str, isd_str_int, isd_str_bool, isd_str_str, isd_str_tuple, isd_str_list, tyn_tup, isd_tup_int, isd_tup_bool, isd_tup_str, isd_tup_tuple, isd_tup_list, tyn_lst, isd_lst_int, isd_lst_bool, isd_lst_str, isd_lst_tuple, isd_lst_list, tyn_frz, isd_frz_int, isd_frz_bool, isd_frz_str, isd_frz_tuple, isd_frz_list, itT, itF, itNT, itNF, id, dFld, dFldI, dNoPart, dPart, dSl, dRevL, dNeg, dCall, dMake, isOw, dApp, dPop0, dPopAt, vNil, vCons, vConsF, srcE, srcR1, srcR2, srcEnum, dYes, lcTurn, cNm, cTp, setAllD, wipeD, startD, dChain, SV.data, enumD, at_1_0, at_1_m, at_2_0, at_2_1, at_2_m, at_3_0, at_3_1, at_3_2, at_3_m, at_4_0, at_4_1, at_4_2, at_4_3, at_4_m, at_5_0, at_5_1, at_5_2, at_5_3, at_5_4, at_5_m, at_6_0, at_6_1, at_6_2, at_6_3, at_6_4, at_6_5, at_6_m, at_7_0, at_7_1, at_7_2, at_7_3, at_7_4, at_7_5, at_7_6, at_7_m, List.map_cons, List.map_nil, List.length_cons, List.length_nil, List.getElem?_cons_zero, List.getElem?_cons_succ, List.set_cons_zero, List.set_cons_succ, List.replicate_zero, List.replicate_succ, List.cons_append, List.nil_append, Nat.reduceAdd, Nat.reduceSub, Nat.zero_add, Option.isSome_some, Option.isSome_none, Bool.not_true, Bool.not_false, Option.bind_some, c_is_sequence, isSeqB]
  refine ⟨rfl, _, rfl, rfl, ifF rfl (ifF (by simp; omega) ?_)⟩
  apply sq
  walk_at "rs"
  refine ⟨lcA ks (fun k => some (kdD k)), lcA0, fun i y acc hy hR => ?_, fun acc hR => ?_⟩
  · obtain ⟨kd, he, rfl⟩ := map_at hy
    exact ⟨rfl, kd, rfl, h12 kd (List.mem_of_getElem? he), rfl, lcAlt he hR (by omega), lcAs he hR rfl⟩
  have e := lcAe hR
  rw [fm_some] at e
  subst e
  apply sq
  walk_at "rs"
  refine .inr ⟨_, .none, _, rfl, rfl, none_kinds ks, rfl, kinds_shaped h11, ?_⟩
  rw [show (ks.map fun k => PyData.tuple [.bool k.x, .int k.m, .int k.n]).any (fun z => PyData.eqv z .none) = false from none_any ks]
  dsimp only
  refine ifF rfl ?_
  apply sq
  walk_at "rs"
  refine ⟨sz (by decide), ?_⟩
  cases p
  all_goals
    refine in_flat (ys := [.str "lost", .str "kept"]) rfl rfl rfl ?_
    refine ifF rfl ?_
    apply sq
    walk_at "rs"
    refine ⟨⟨T.c_Want.cl, T.a_Want_k⟩, Nat.le_of_ble_eq_true rfl, ?_⟩
    simp only [putD]; repeat rw [if_neg (by decide +kernel)]
    apply sq
    walk_at "rs"
    refine ⟨⟨T.c_Want.cl, T.a_Want_s⟩, Nat.le_of_ble_eq_true rfl, ?_⟩
    simp only [putD]; repeat rw [if_neg (by decide +kernel)]
    apply sq
    walk_at "rs"
    refine ⟨⟨T.c_Want.cl, T.a_Want_u⟩, Nat.le_of_ble_eq_true rfl, ?_⟩
    simp only [putD]; repeat rw [if_neg (by decide +kernel)]
    apply sq
    walk_at "rs"
    refine ⟨⟨T.c_Want.cl, T.a_Want_t⟩, Nat.le_of_ble_eq_true rfl, ?_⟩
    simp only [putD]; repeat rw [if_neg (by decide +kernel)]
    apply sq
    walk_at "rs"
    refine ⟨⟨T.c_Want.cl, T.a_Want_kinds⟩, Nat.le_of_ble_eq_true rfl, ?_⟩
    simp only [putD]; repeat rw [if_neg (by decide +kernel)]
    walk_at "rs"
    refine ⟨⟨T.c_Want.cl, T.a_Want_post⟩, Nat.le_of_ble_eq_true rfl, ?_⟩
    simp only [putD]; repeat rw [if_neg (by decide +kernel)]
    exact ⟨_, rfl, q⟩
theorem b_Want (T : Txt P K mg A) : Binds K A.d_Want ["self", "k", "s", "u", "t", "kinds", "post"] [] := T.c_Want.fn.bindsN (ps := ["self", "k", "s", "u", "t", "kinds", "post"]) fun _ _ _ _ _ _ us hl => match us, hl with | [_, _, _, _, _, _, _], _ => rfl

/-- which promises are asked: ends, had, small, story, unseen -/
structure B5 where
  e : Bool
  h : Bool
  m : Bool
  t : Bool
  n : Bool
deriving DecidableEq
def psL (b : B5) : List Str := (bif b.e then [("ends" : Str)] else []) ++ ((bif b.h then [("had" : Str)] else []) ++ ((bif b.m then [("small" : Str)] else []) ++ ((bif b.t then [("story" : Str)] else []) ++ (bif b.n then [("unseen" : Str)] else []))))
def prD (b : B5) : D := .tup ((psL b).map D.str)
def everyL : List D := [.str "ends", .str "had", .str "small", .str "story", .str "unseen"]
theorem B5.all {p : B5 → Prop} (h : ∀ e h m t n, p ⟨e, h, m, t, n⟩) (b : B5) : p b := h _ _ _ _ _
theorem ps_len (b : B5) : (psL b).length ≤ 5 := by
  revert b
  refine B5.all ?_
  decide +kernel
theorem ps_in (b : B5) : ∀ p ∈ psL b, inF (.str p) everyL = true := by
  have h : ((psL b).all fun p => inF (.str p) everyL) = true := by
    revert b
    refine B5.all ?_
    decide +kernel
  exact List.all_eq_true.mp h
def ltS (x y : Str) : Bool := decide (x.cps.toList < y.cps.toList)
def ltB (b : B5) : Bool := (List.range ((psL b).length - 1)).all fun i => match (psL b)[i]?, (psL b)[i + 1]? with
    | some x, some y => ltS x y
    | _, _ => false
theorem ltB_ok (b : B5) : ltB b = true := by
  revert b
  refine B5.all ?_
  decide +kernel
theorem ps_lt {b : B5} {i : Nat} (hi : i + 1 < (psL b).length) : ∃ x y, (psL b)[i]? = some x ∧ (psL b)[i + 1]? = some y ∧ decide (x.cps.toList < y.cps.toList) = true := by
  have q := List.all_eq_true.mp (ltB_ok b) i (List.mem_range.mpr (by omega))
  split at q
  · exact ⟨_, _, by assumption, by assumption, q⟩
  · cases q
theorem flat_strs (ps : List Str) : (ps.map D.str).all flatB = true := by
  induction ps with
  | nil => rfl
  | cons p ps ih => exact ih

def c_is_promises : DSp := fun xs Q => ∃ b, xs = [prD b] ∧ Q (.bl true)
theorem sc_is_promises : FnScope ["value", "one", "at"] ["value"] (defScope s_is_promises) := ⟨rfl, rfl, rfl, by decide +kernel, rfl, by decide +kernel, by decide +kernel⟩
set_option maxHeartbeats 16000000 in
theorem ok_is_promises (T : Txt P K mg A) : DFn tk P w K mg base "is_promises" 1 1 ["value"] A.f_is_promises A.d_is_promises c_is_promises := by
  have sc := sc_is_promises
  refine DFn.of (fun _ => True.intro) T.f_is_promises sc rfl (fun cdv B outer s H E hr =>
    (dss_cons (ds_if (dt_w (dw_or (dt_not (dt_val (de_isi (ty := "tuple") rfl T.n_isinstance (de_nm (pv 0)) rfl T.n_tuple (by decide +kernel)))) (dw_or1 (dt_not (dt_val (de_callB (cr_all rfl) calld_all rfl T.n_all (by decide +kernel) (da_cons (de_fr (df_lc (own := [("one", 1)]) (vs := [1]) rfl rfl sc.nd (sr_e (de_nm (pv 0))) (blkOk_by (own := [("one", 1)]) (N := ["value", "one", "at"]) (sc := defScope s_is_promises) (by decide +kernel)) (gok_nm (i := 1) (by decide)) (fun _ _ _ _ _ => pg_name (i := 1) sc.nd rfl (by first | exact Or.inl rfl | exact Or.inr rfl)) (fun _ _ _ _ _ => dts_nil) (fun _ _ _ _ _ => (de_and (de_isi (ty := "str") rfl T.n_isinstance (de_nm (pv 1)) rfl T.n_str (by decide +kernel)) (de_one (de_cmpv (op_inAll (room65 hr)) opd_in (pv 1) (de_globT (ds := [.str "ends", .str "had", .str "small", .str "story", .str "unseen"]) rfl T.g_PROMISES.choose_spec.1 T.g_PROMISES.choose_spec.2.choose_spec.1 T.g_PROMISES.choose_spec.2.choose_spec.2) (by rfl))))))) da_nil)))))))
      (dss_one (ds_ret de_bl))
      dss_nil)
    (dss_one (ds_ret (de_callB (cr_all rfl) calld_all rfl T.n_all (by decide +kernel) (da_cons (de_fr (df_lc (own := [("at", 2)]) (vs := [2]) rfl rfl sc.nd (sr_r2 rfl T.n_range (da_cons de_int (da_cons (de_callBv call_lenAll calld_len rfl T.n_len (by decide +kernel) (pv 0)) da_nil))) (blkOk_by (own := [("at", 2)]) (N := ["value", "one", "at"]) (sc := defScope s_is_promises) (by decide +kernel)) (gok_nm (i := 2) (by decide)) (fun _ _ _ _ _ => pg_name (i := 2) sc.nd rfl (by first | exact Or.inl rfl | exact Or.inr rfl)) (fun _ _ _ _ _ => dts_nil) (fun _ _ _ _ _ => (de_cmp op_ltAll opd_ltA (de_ixv ix_seq opd_ix (pv 0) (de_op op_sub opd_sub (de_nm (pv 2)) de_int)) (de_ixv ix_seq opd_ix (pv 0) (de_nm (pv 2))) (nomark _))))) da_nil)))))) ?_

  rintro xs Q hl ⟨b, rfl, h⟩
  unfold prD
  have hl5 := ps_len b
  rw [show startD ["value", "one", "at"] (List.map SV.sh [.tup ((psL b).map D.str)]) = ([some (.sh (.tup ((psL b).map D.str))), none, none] : DS) from rfl]
  apply sq
  walk_at "rs"
  refine ⟨lcA (psL b) (fun p => some (.bl true)), lcA0, fun i y acc hy hR => ?_, fun acc hR => ?_⟩
  · obtain ⟨p, he, rfl⟩ := map_at hy
    walk_at "rs"
    refine in_flat (ys := everyL) rfl rfl rfl ?_
    rw [ps_in b p (List.mem_of_getElem? he)]
    exact ⟨rfl, lcAlt he hR (by omega), lcAs he hR rfl⟩
  · obtain ⟨bs, rfl, hb⟩ := all_lc (lcAe hR)
    refine ⟨bs, rfl, ?_⟩
    rw [hb]
    refine ifF (by simp) ?_
    rw [List.length_map]
    refine ⟨⟨by decide, by decide, by omega, by omega⟩, lcA (List.range (((psL b).length : Int) - 1).toNat) (fun p => some (.bl true)), lcA0, fun i y acc hy hR => ?_, fun acc hR => ?_⟩
    · obtain ⟨hi, rfl⟩ := rngD_at hy
      obtain ⟨x, y, hx, hy', hlt⟩ := ps_lt (b := b) (i := i) (by omega)
      dsimp only
      rw [atI_map (z := 1 + (i : Int) - 1) hx (by omega)]
      dsimp only
      rw [atI_map (z := 1 + (i : Int)) hy' (by omega)]
      dsimp only [fLtA]
      rw [hlt]
      have he : (List.range (((psL b).length : Int) - 1).toNat)[i]? = some i := List.getElem?_range hi
      exact ⟨rfl, lcAlt he hR (by rw [List.length_range]; omega), lcAs he hR rfl⟩
    · obtain ⟨bs, rfl, hb⟩ := all_lc (p := fun _ => true) (lcAr hR)
      refine ⟨bs, rfl, ?_⟩
      rw [hb]
      exact bl_eq h (by simp)
theorem b_is_promises (T : Txt P K mg A) : Binds K A.d_is_promises ["value"] [] := T.f_is_promises.fn.bindsN (ps := ["value"]) fun _ _ _ _ _ _ us hl => match us, hl with | [_], _ => rfl


def c_need_promises : DSp := fun xs Q => ∃ b, xs = [prD b] ∧ Q .non
theorem sc_need_promises : FnScope ["value"] ["value"] (defScope s_need_promises) := ⟨rfl, rfl, rfl, by decide +kernel, rfl, by decide +kernel, by decide +kernel⟩
set_option maxHeartbeats 16000000 in
theorem ok_need_promises (T : Txt P K mg A) : DFn tk P w K mg base "need_promises" 2 1 ["value"] A.f_need_promises A.d_need_promises c_need_promises := by
  have sc := sc_need_promises
  refine DFn.of (fun _ => True.intro) T.f_need_promises sc rfl (fun cdv B outer s H E hr =>
    (dss_one (ds_if (dt_not (dt_val (de_fn (ok_is_promises T) (b_is_promises T) (hr.mono (by decide)) (da_cons (de_nm (pv 0)) da_nil))))
      (dss_one ds_never)
      dss_nil))) ?_

  rintro xs Q hl ⟨b, rfl, h⟩
  rw [show startD ["value"] (List.map SV.sh [prD b]) = ([some (.sh (prD b))] : DS) from rfl]
  dsimp only [dLc, sRaise, sTry, dCallX, dMakeX, dXat, sRet, sRetN, sIf, sDrop, sSet, sSetF, sAug, sAsg, sPar, sPar3, sFldI, sSetIx, sBreak, sCont, sNext, gNm, gTp, gsCons, gsNil, fSub, fDiv, fMod, fPow, fLt, fLe, fGt, fGe, fEq, fNe, cAbs, cMax, cMin, dVar, dC, dOp, dOpv, dPk, dTest, dAnd, dOr, dNot, dAndV, dOrV, dNotV, dIf, dIsN, dNotN, DL.isNon, fIsB, fI, fI0, fAdd, fMul, fEqG, fIx, dNil, dCons, dTup, dLst, dLstF, dListF, dSh, dCB, dCBv, cI1, cI2, cInt, cStr, cLen, cTuple, cList, cAll, cAny, cSum, dIsi, dIsi2, tyn_non, isd_non_int, isd_non_bool, isd_non_str, isd_non_tuple, isd_non_list, tyn_bl, isd_bl_int, isd_bl_bool, isd_bl_str, isd_bl_tuple, isd_bl_list, tyn_int, isd_int_int, isd_int_bool, isd_int_str, isd_int_tuple, isd_int_list, tyn_str, isd_str_int, isd_str_bool, isd_str_str, isd_str_tuple, isd_str_list, tyn_tup, isd_tup_int, isd_tup_bool, isd_tup_str, isd_tup_tuple, isd_tup_list, tyn_lst, isd_lst_int, isd_lst_bool, isd_lst_str, isd_lst_tuple, isd_lst_list, tyn_frz, isd_frz_int, isd_frz_bool, isd_frz_str, isd_frz_tuple, isd_frz_list, itT, itF, itNT, itNF, id, dFld, dFldI, dNoPart, dPart, dSl, dRevL, dNeg, dCall, dMake, isOw, dApp, dPop0, dPopAt, vNil, vCons, vConsF, srcE, srcR1, srcR2, srcEnum, dYes, lcTurn, cNm, cTp, setAllD, wipeD, startD, dChain, SV.data, enumD, at_1_0, at_1_m, at_2_0, at_2_1, at_2_m, at_3_0, at_3_1, at_3_2, at_3_m, at_4_0, at_4_1, at_4_2, at_4_3, at_4_m, at_5_0, at_5_1, at_5_2, at_5_3, at_5_4, at_5_m, at_6_0, at_6_1, at_6_2, at_6_3, at_6_4, at_6_5, at_6_m, at_7_0, at_7_1, at_7_2, at_7_3, at_7_4, at_7_5, at_7_6, at_7_m, List.map_cons, List.map_nil, List.length_cons, List.length_nil, List.getElem?_cons_zero, List.getElem?_cons_succ, List.set_cons_zero, List.set_cons_succ, List.replicate_zero, List.replicate_succ, List.cons_append, List.nil_append, Nat.reduceAdd, Nat.reduceSub, Nat.zero_add, Option.isSome_some, Option.isSome_none, Bool.not_true, Bool.not_false, Option.bind_some, c_is_promises]
  exact ⟨rfl, b, rfl, h⟩
theorem b_need_promises (T : Txt P K mg A) : Binds K A.d_need_promises ["value"] [] := T.f_need_promises.fn.bindsN (ps := ["value"]) fun _ _ _ _ _ _ us hl => match us, hl with | [_], _ => rfl

theorem in_e (b : B5) : inF (.str "ends") ((psL b).map D.str) = b.e := by
  revert b
  refine B5.all ?_
  decide +kernel
theorem in_h (b : B5) : inF (.str "had") ((psL b).map D.str) = b.h := by
  revert b
  refine B5.all ?_
  decide +kernel
theorem in_m (b : B5) : inF (.str "small") ((psL b).map D.str) = b.m := by
  revert b
  refine B5.all ?_
  decide +kernel
theorem in_t (b : B5) : inF (.str "story") ((psL b).map D.str) = b.t := by
  revert b
  refine B5.all ?_
  decide +kernel
theorem in_n (b : B5) : inF (.str "unseen") ((psL b).map D.str) = b.n := by
  revert b
  refine B5.all ?_
  decide +kernel
theorem inp_ (b : B5) {p : Str} {v : Bool} {Q : D → Prop} (h : inF (.str p) ((psL b).map D.str) = v) (q1 : v = true → Q (.bl true)) (q2 : v = false → Q (.bl false)) : fIn false (.str p) (prD b) Q := by
  refine in_flat (ys := (psL b).map D.str) rfl rfl (flat_strs _) ?_
  rw [h]
  cases hv : v
  · exact q2 hv
  · exact q1 hv
theorem inn_ (b : B5) {p : Str} {v : Bool} {Q : D → Prop} (h : inF (.str p) ((psL b).map D.str) = v) (q1 : v = true → Q (.bl false)) (q2 : v = false → Q (.bl true)) : fIn true (.str p) (prD b) Q := by
  refine in_flat (ys := (psL b).map D.str) rfl rfl (flat_strs _) ?_
  rw [h]
  cases hv : v
  · exact q2 hv
  · exact q1 hv
theorem lw_k (w : Wt) : List.lookup ("k" : Str) (wF w) = some (D.int w.k) := rfl
theorem lw_s (w : Wt) : List.lookup ("s" : Str) (wF w) = some (D.int w.s) := rfl
theorem lw_u (w : Wt) : List.lookup ("u" : Str) (wF w) = some (D.int w.u) := rfl
theorem lw_t (w : Wt) : List.lookup ("t" : Str) (wF w) = some (D.int w.t) := rfl
theorem lw_kinds (w : Wt) : List.lookup ("kinds" : Str) (wF w) = some (D.tup (w.ks.map kdD)) := rfl
theorem lw_post (w : Wt) : List.lookup ("post" : Str) (wF w) = some (D.str (postS w.lost)) := rfl
def waitI (w : Wt) (b : B5) : Int := if b.e then w.s else 0
def seenI (w : Wt) (k : Kd) (b : B5) : Int := if k.x && b.n then w.t else 0
def roomI (k : Kd) (b : B5) : Int := if b.m then min k.m k.n else k.m
def storyI (w : Wt) (b : B5) : Int := if b.t then 2 * waitI w b + w.u + 1 else 1
def kindI (w : Wt) (k : Kd) (b : B5) : Int := if b.h then (if w.lost then waitI w b + w.u + partsI (seenI w k b) k.m (roomI k b) else waitI w b + max (w.u + seenI w k b + 1) (partsI (seenI w k b) k.m (roomI k b))) else 1
theorem wait_b {w : Wt} (ok : w.ok) (b : B5) : 0 ≤ waitI w b ∧ waitI w b ≤ 3 := by
  have ⟨k2, k7, s0, sk, s3, u0, uk, u3, t0, t3, kl, kk⟩ := ok
  unfold waitI
  split <;> omega
theorem seen_b {w : Wt} (ok : w.ok) (k : Kd) (b : B5) : 0 ≤ seenI w k b ∧ seenI w k b ≤ 3 := by
  have ⟨k2, k7, s0, sk, s3, u0, uk, u3, t0, t3, kl, kk⟩ := ok
  unfold seenI
  split <;> omega
theorem room_b {k : Kd} (kk : k.ok) (b : B5) : 1 ≤ roomI k b ∧ roomI k b ≤ 3 := by
  have ⟨m1, m3, n1, n3⟩ := kk
  unfold roomI
  split <;> omega

def c_waits_for (A : Adr) : DSp := fun xs Q => ∃ w b, xs = [.obj A.C_Want (wF w), prD b] ∧ Q (.int (waitI w b))
theorem sc_waits_for : FnScope ["want", "promises"] ["want", "promises"] (defScope s_waits_for) := ⟨rfl, rfl, rfl, by decide +kernel, rfl, by decide +kernel, by decide +kernel⟩
set_option maxHeartbeats 16000000 in
theorem ok_waits_for (T : Txt P K mg A) : DFn tk P w K mg base "waits_for" 1 2 ["want", "promises"] A.f_waits_for A.d_waits_for (c_waits_for A) := by
  have sc := sc_waits_for
  refine DFn.of (fun _ => True.intro) T.f_waits_for sc rfl (fun cdv B outer s H E hr =>
    (dss_one (ds_ret (de_ifExp (dt_cmp (op_inAll (room65 hr)) opd_in de_str (de_nm (pv 1)) (by rfl)) (de_fld K (de_nm (pv 0)) rfl) de_int)))) ?_

  rintro xs Q hl ⟨w, b, rfl, h⟩
  unfold waitI at h
  rw [show startD ["want", "promises"] (List.map SV.sh [.obj A.C_Want (wF w), prD b]) = ([some (.sh (.obj A.C_Want (wF w))), some (.sh (prD b))] : DS) from rfl]
  dsimp only [dLc, sRaise, sTry, dCallX, dMakeX, dXat, sRet, sRetN, sIf, sDrop, sSet, sSetF, sAug, sAsg, sPar, sPar3, sFldI, sSetIx, sBreak, sCont, sNext, gNm, gTp, gsCons, gsNil, fSub, fDiv, fMod, fPow, fLt, fLe, fGt, fGe, fEq, fNe, cAbs, cMax, cMin, dVar, dC, dOp, dOpv, dPk, dTest, dAnd, dOr, dNot, dAndV, dOrV, dNotV, dIf, dIsN, dNotN, DL.isNon, fIsB, fI, fI0, fAdd, fMul, fEqG, fIx, dNil, dCons, dTup, dLst, dLstF, dListF, dSh, dCB, dCBv, cI1, cI2, cInt, cStr, cLen, cTuple, cList, cAll, cAny, cSum, dIsi, dIsi2, tyn_non, isd_non_int, isd_non_bool, isd_non_str, isd_non_tuple, isd_non_list, tyn_bl, isd_bl_int, isd_bl_bool, isd_bl_str, isd_bl_tuple, isd_bl_list, tyn_int, isd_int_int, isd_int_bool, isd_int_str, isd_int_tuple, isd_int_list, tyn_str, isd_str_int, isd_str_bool, isd_str_str, isd_str_tuple, isd_str_list, tyn_tup, isd_tup_int, isd_tup_bool, isd_tup_str, isd_tup_tuple, isd_tup_list, tyn_lst, isd_lst_int, isd_lst_bool, isd_lst_str, isd_lst_tuple, isd_lst_list, tyn_frz, isd_frz_int, isd_frz_bool, isd_frz_str, isd_frz_tuple, isd_frz_list, itT, itF, itNT, itNF, id, dFld, dFldI, dNoPart, dPart, dSl, dRevL, dNeg, dCall, dMake, isOw, dApp, dPop0, dPopAt, vNil, vCons, vConsF, srcE, srcR1, srcR2, srcEnum, dYes, lcTurn, cNm, cTp, setAllD, wipeD, startD, dChain, SV.data, enumD, at_1_0, at_1_m, at_2_0, at_2_1, at_2_m, at_3_0, at_3_1, at_3_2, at_3_m, at_4_0, at_4_1, at_4_2, at_4_3, at_4_m, at_5_0, at_5_1, at_5_2, at_5_3, at_5_4, at_5_m, at_6_0, at_6_1, at_6_2, at_6_3, at_6_4, at_6_5, at_6_m, at_7_0, at_7_1, at_7_2, at_7_3, at_7_4, at_7_5, at_7_6, at_7_m, List.map_cons, List.map_nil, List.length_cons, List.length_nil, List.getElem?_cons_zero, List.getElem?_cons_succ, List.set_cons_zero, List.set_cons_succ, List.replicate_zero, List.replicate_succ, List.cons_append, List.nil_append, Nat.reduceAdd, Nat.reduceSub, Nat.zero_add, Option.isSome_some, Option.isSome_none, Bool.not_true, Bool.not_false, Option.bind_some, lw_k, lw_s, lw_u, lw_t, lw_kinds, lw_post]
  refine inp_ b (in_e b) (fun q => And.intro (⟨T.c_Want.cl, T.a_Want_s⟩ : AtOk K A.C_Want "s") ?_) (fun q => ?_)
  · rw [if_pos q] at h
    exact h
  · rw [if_neg (by rw [q]; decide)] at h
    exact h
theorem b_waits_for (T : Txt P K mg A) : Binds K A.d_waits_for ["want", "promises"] [] := T.f_waits_for.fn.bindsN (ps := ["want", "promises"]) fun _ _ _ _ _ _ us hl => match us, hl with | [_, _], _ => rfl


def c_seen_of (A : Adr) : DSp := fun xs Q => ∃ w k b, xs = [.obj A.C_Want (wF w), kdD k, prD b] ∧ Q (.int (seenI w k b))
theorem sc_seen_of : FnScope ["want", "kind", "promises"] ["want", "kind", "promises"] (defScope s_seen_of) := ⟨rfl, rfl, rfl, by decide +kernel, rfl, by decide +kernel, by decide +kernel⟩
set_option maxHeartbeats 16000000 in
theorem ok_seen_of (T : Txt P K mg A) : DFn tk P w K mg base "seen_of" 1 3 ["want", "kind", "promises"] A.f_seen_of A.d_seen_of (c_seen_of A) := by
  have sc := sc_seen_of
  refine DFn.of (fun _ => True.intro) T.f_seen_of sc rfl (fun cdv B outer s H E hr =>
    (dss_one (ds_ret (de_ifExp (dt_w (dw_and (dt_val (de_ixv ix_seq opd_ix (pv 1) de_int)) (dw_and1 (dt_cmp (op_inAll (room65 hr)) opd_in de_str (de_nm (pv 2)) (by rfl))))) (de_fld K (de_nm (pv 0)) rfl) de_int)))) ?_

  rintro xs Q hl ⟨w, ⟨x, m, n⟩, b, rfl, h⟩
  unfold seenI at h
  unfold kdD
  dsimp only at h ⊢
  rw [show startD ["want", "kind", "promises"] (List.map SV.sh [.obj A.C_Want (wF w), .tup [.bl x, .int m, .int n], prD b]) = ([some (.sh (.obj A.C_Want (wF w))), some (.sh (.tup [.bl x, .int m, .int n])), some (.sh (prD b))] : DS) from rfl]
  dsimp only [dLc, sRaise, sTry, dCallX, dMakeX, dXat, sRet, sRetN, sIf, sDrop, sSet, sSetF, sAug, sAsg, sPar, sPar3, sFldI, sSetIx, sBreak, sCont, sNext, gNm, gTp, gsCons, gsNil, fSub, fDiv, fMod, fPow, fLt, fLe, fGt, fGe, fEq, fNe, cAbs, cMax, cMin, dVar, dC, dOp, dOpv, dPk, dTest, dAnd, dOr, dNot, dAndV, dOrV, dNotV, dIf, dIsN, dNotN, DL.isNon, fIsB, fI, fI0, fAdd, fMul, fEqG, fIx, dNil, dCons, dTup, dLst, dLstF, dListF, dSh, dCB, dCBv, cI1, cI2, cInt, cStr, cLen, cTuple, cList, cAll, cAny, cSum, dIsi, dIsi2, tyn_non, isd_non_int, isd_non_bool, isd_non_str, isd_non_tuple, isd_non_list, tyn_bl, isd_bl_int, isd_bl_bool, isd_bl_str, isd_bl_tuple, isd_bl_list, tyn_int, isd_int_int, isd_int_bool, isd_int_str, isd_int_tuple, isd_int_list, tyn_str, isd_str_int, isd_str_bool, isd_str_str, isd_str_tuple, isd_str_list, tyn_tup, isd_tup_int, isd_tup_bool, isd_tup_str, isd_tup_tuple, isd_tup_list, tyn_lst, isd_lst_int, isd_lst_bool, isd_lst_str, isd_lst_tuple, isd_lst_list, tyn_frz, isd_frz_int, isd_frz_bool, isd_frz_str, isd_frz_tuple, isd_frz_list, itT, itF, itNT, itNF, id, dFld, dFldI, dNoPart, dPart, dSl, dRevL, dNeg, dCall, dMake, isOw, dApp, dPop0, dPopAt, vNil, vCons, vConsF, srcE, srcR1, srcR2, srcEnum, dYes, lcTurn, cNm, cTp, setAllD, wipeD, startD, dChain, SV.data, enumD, at_1_0, at_1_m, at_2_0, at_2_1, at_2_m, at_3_0, at_3_1, at_3_2, at_3_m, at_4_0, at_4_1, at_4_2, at_4_3, at_4_m, at_5_0, at_5_1, at_5_2, at_5_3, at_5_4, at_5_m, at_6_0, at_6_1, at_6_2, at_6_3, at_6_4, at_6_5, at_6_m, at_7_0, at_7_1, at_7_2, at_7_3, at_7_4, at_7_5, at_7_6, at_7_m, List.map_cons, List.map_nil, List.length_cons, List.length_nil, List.getElem?_cons_zero, List.getElem?_cons_succ, List.set_cons_zero, List.set_cons_succ, List.replicate_zero, List.replicate_succ, List.cons_append, List.nil_append, Nat.reduceAdd, Nat.reduceSub, Nat.zero_add, Option.isSome_some, Option.isSome_none, Bool.not_true, Bool.not_false, Option.bind_some, lw_k, lw_s, lw_u, lw_t, lw_kinds, lw_post]
  cases x
  · exact h
  · rw [if_pos rfl]
    refine inp_ b (in_n b) (fun q => And.intro (⟨T.c_Want.cl, T.a_Want_t⟩ : AtOk K A.C_Want "t") ?_) (fun q => ?_)
    · rw [q] at h
      exact h
    · rw [q] at h
      exact h
theorem b_seen_of (T : Txt P K mg A) : Binds K A.d_seen_of ["want", "kind", "promises"] [] := T.f_seen_of.fn.bindsN (ps := ["want", "kind", "promises"]) fun _ _ _ _ _ _ us hl => match us, hl with | [_, _, _], _ => rfl


def c_room_for : DSp := fun xs Q => ∃ k b, xs = [kdD k, prD b] ∧ Q (.int (roomI k b))
theorem sc_room_for : FnScope ["kind", "promises"] ["kind", "promises"] (defScope s_room_for) := ⟨rfl, rfl, rfl, by decide +kernel, rfl, by decide +kernel, by decide +kernel⟩
set_option maxHeartbeats 16000000 in
theorem ok_room_for (T : Txt P K mg A) : DFn tk P w K mg base "room_for" 1 2 ["kind", "promises"] A.f_room_for A.d_room_for c_room_for := by
  have sc := sc_room_for
  refine DFn.of (fun _ => True.intro) T.f_room_for sc rfl (fun cdv B outer s H E hr =>
    (dss_one (ds_ret (de_ifExp (dt_cmp (op_inAll (room65 hr)) opd_in de_str (de_nm (pv 1)) (by rfl)) (de_callB (call_min2 rfl) calld_min rfl T.n_min (by decide +kernel) (da_cons (de_ixv ix_seq opd_ix (pv 0) de_int) (da_cons (de_ixv ix_seq opd_ix (pv 0) de_int) da_nil))) (de_ixv ix_seq opd_ix (pv 0) de_int))))) ?_

  rintro xs Q hl ⟨k, b, rfl, h⟩
  unfold roomI at h
  unfold kdD
  rw [show startD ["kind", "promises"] (List.map SV.sh [.tup [.bl k.x, .int k.m, .int k.n], prD b]) = ([some (.sh (.tup [.bl k.x, .int k.m, .int k.n])), some (.sh (prD b))] : DS) from rfl]
  walk_at "rs"
  refine inp_ b (in_m b) (fun q => ?_) (fun q => ?_)
  · rw [if_pos q, ← min_if] at h
    exact h
  · rw [if_neg (by rw [q]; decide)] at h
    exact h
theorem b_room_for (T : Txt P K mg A) : Binds K A.d_room_for ["kind", "promises"] [] := T.f_room_for.fn.bindsN (ps := ["kind", "promises"]) fun _ _ _ _ _ _ us hl => match us, hl with | [_, _], _ => rfl


def c_least_for_story (A : Adr) : DSp := fun xs Q => ∃ w b, xs = [.obj A.C_Want (wF w), prD b] ∧ w.ok ∧ Q (.int (storyI w b))
theorem sc_least_for_story : FnScope ["want", "promises"] ["want", "promises"] (defScope s_least_for_story) := ⟨rfl, rfl, rfl, by decide +kernel, rfl, by decide +kernel, by decide +kernel⟩
set_option maxHeartbeats 16000000 in
theorem ok_least_for_story (T : Txt P K mg A) : DFn tk P w K mg base "least_for_story" 3 2 ["want", "promises"] A.f_least_for_story A.d_least_for_story (c_least_for_story A) := by
  have sc := sc_least_for_story
  refine DFn.of (fun _ => True.intro) T.f_least_for_story sc rfl (fun cdv B outer s H E hr =>
    (dss_cons (ds_expr (de_fn (ok_need_promises T) (b_need_promises T) (hr.mono (by decide)) (da_cons (de_nm (pv 1)) da_nil)))
    (dss_one (ds_ret (de_ifExp (dt_cmp (op_inAll (room65 hr)) opd_in de_str (de_nm (pv 1)) (by rfl)) (de_op op_addAll opd_add (de_op op_addAll opd_add (de_op op_mulAll opd_mul de_int (de_fn (ok_waits_for T) (b_waits_for T) (hr.mono (by decide)) (da_cons (de_nm (pv 0)) (da_cons (de_nm (pv 1)) da_nil)))) (de_fld K (de_nm (pv 0)) rfl)) de_int) de_int))))) ?_

  rintro xs Q hl ⟨w, b, rfl, ok, h⟩
  unfold storyI at h
  rw [show startD ["want", "promises"] (List.map SV.sh [.obj A.C_Want (wF w), prD b]) = ([some (.sh (.obj A.C_Want (wF w))), some (.sh (prD b))] : DS) from rfl]
  apply sq
  dsimp only [dLc, sRaise, sTry, dCallX, dMakeX, dXat, sRet, sRetN, sIf, sDrop, sSet, sSetF, sAug, sAsg, sPar, sPar3, sFldI, sSetIx, sBreak, sCont, sNext, gNm, gTp, gsCons, gsNil, fSub, fDiv, fMod, fPow, fLt, fLe, fGt, fGe, fEq, fNe, cAbs, cMax, cMin, dVar, dC, dOp, dOpv, dPk, dTest, dAnd, dOr, dNot, dAndV, dOrV, dNotV, dIf, dIsN, dNotN, DL.isNon, fIsB, fI, fI0, fAdd, fMul, fEqG, fIx, dNil, dCons, dTup, dLst, dLstF, dListF, dSh, dCB, dCBv, cI1, cI2, cInt, cStr, cLen, cTuple, cList, cAll, cAny, cSum, dIsi, dIsi2, tyn_non, isd_non_int, isd_non_bool, isd_non_str, isd_non_tuple, isd_non_list, tyn_bl, isd_bl_int, isd_bl_bool, isd_bl_str, isd_bl_tuple, isd_bl_list, tyn_int, isd_int_int, isd_int_bool, isd_int_str, isd_int_tuple, isd_int_list, tyn_str, isd_str_int, isd_str_bool, isd_str_str, isd_str_tuple, isd_str_list, tyn_tup, isd_tup_int, isd_tup_bool, isd_tup_str, isd_tup_tuple, isd_tup_list, tyn_lst, isd_lst_int, isd_lst_bool, isd_lst_str, isd_lst_tuple, isd_lst_list, tyn_frz, isd_frz_int, isd_frz_bool, isd_frz_str, isd_frz_tuple, isd_frz_list, itT, itF, itNT, itNF, id, dFld, dFldI, dNoPart, dPart, dSl, dRevL, dNeg, dCall, dMake, isOw, dApp, dPop0, dPopAt, vNil, vCons, vConsF, srcE, srcR1, srcR2, srcEnum, dYes, lcTurn, cNm, cTp, setAllD, wipeD, startD, dChain, SV.data, enumD, at_1_0, at_1_m, at_2_0, at_2_1, at_2_m, at_3_0, at_3_1, at_3_2, at_3_m, at_4_0, at_4_1, at_4_2, at_4_3, at_4_m, at_5_0, at_5_1, at_5_2, at_5_3, at_5_4, at_5_m, at_6_0, at_6_1, at_6_2, at_6_3, at_6_4, at_6_5, at_6_m, at_7_0, at_7_1, at_7_2, at_7_3, at_7_4, at_7_5, at_7_6, at_7_m, List.map_cons, List.map_nil, List.length_cons, List.length_nil, List.getElem?_cons_zero, List.getElem?_cons_succ, List.set_cons_zero, List.set_cons_succ, List.replicate_zero, List.replicate_succ, List.cons_append, List.nil_append, Nat.reduceAdd, Nat.reduceSub, Nat.zero_add, Option.isSome_some, Option.isSome_none, Bool.not_true, Bool.not_false, Option.bind_some, c_need_promises]
  refine ⟨rfl, b, rfl, ?_⟩
  dsimp only [dLc, sRaise, sTry, dCallX, dMakeX, dXat, sRet, sRetN, sIf, sDrop, sSet, sSetF, sAug, sAsg, sPar, sPar3, sFldI, sSetIx, sBreak, sCont, sNext, gNm, gTp, gsCons, gsNil, fSub, fDiv, fMod, fPow, fLt, fLe, fGt, fGe, fEq, fNe, cAbs, cMax, cMin, dVar, dC, dOp, dOpv, dPk, dTest, dAnd, dOr, dNot, dAndV, dOrV, dNotV, dIf, dIsN, dNotN, DL.isNon, fIsB, fI, fI0, fAdd, fMul, fEqG, fIx, dNil, dCons, dTup, dLst, dLstF, dListF, dSh, dCB, dCBv, cI1, cI2, cInt, cStr, cLen, cTuple, cList, cAll, cAny, cSum, dIsi, dIsi2, tyn_non, isd_non_int, isd_non_bool, isd_non_str, isd_non_tuple, isd_non_list, tyn_bl, isd_bl_int, isd_bl_bool, isd_bl_str, isd_bl_tuple, isd_bl_list, tyn_int, isd_int_int, isd_int_bool, isd_int_str, isd_int_tuple, isd_int_list, tyn_str, isd_str_int, isd_str_bool, isd_str_str, isd_str_tuple, isd_str_list, tyn_tup, isd_tup_int, isd_tup_bool, isd_tup_str, isd_tup_tuple, isd_tup_list, tyn_lst, isd_lst_int, isd_lst_bool, isd_lst_str, isd_lst_tuple, isd_lst_list, tyn_frz, isd_frz_int, isd_frz_bool, isd_frz_str, isd_frz_tuple, isd_frz_list, itT, itF, itNT, itNF, id, dFld, dFldI, dNoPart, dPart, dSl, dRevL, dNeg, dCall, dMake, isOw, dApp, dPop0, dPopAt, vNil, vCons, vConsF, srcE, srcR1, srcR2, srcEnum, dYes, lcTurn, cNm, cTp, setAllD, wipeD, startD, dChain, SV.data, enumD, at_1_0, at_1_m, at_2_0, at_2_1, at_2_m, at_3_0, at_3_1, at_3_2, at_3_m, at_4_0, at_4_1, at_4_2, at_4_3, at_4_m, at_5_0, at_5_1, at_5_2, at_5_3, at_5_4, at_5_m, at_6_0, at_6_1, at_6_2, at_6_3, at_6_4, at_6_5, at_6_m, at_7_0, at_7_1, at_7_2, at_7_3, at_7_4, at_7_5, at_7_6, at_7_m, List.map_cons, List.map_nil, List.length_cons, List.length_nil, List.getElem?_cons_zero, List.getElem?_cons_succ, List.set_cons_zero, List.set_cons_succ, List.replicate_zero, List.replicate_succ, List.cons_append, List.nil_append, Nat.reduceAdd, Nat.reduceSub, Nat.zero_add, Option.isSome_some, Option.isSome_none, Bool.not_true, Bool.not_false, Option.bind_some, lw_k, lw_s, lw_u, lw_t, lw_kinds, lw_post, c_waits_for]
  refine inp_ b (in_t b) (fun q => ?_) (fun q => ?_)
  · rw [if_pos q] at h
    refine And.intro rfl ⟨w, b, rfl, ?_⟩
    have hw : 0 ≤ waitI w b ∧ waitI w b ≤ 3 := wait_b ok b
    refine ⟨mul_ok (by omega) (by omega), ⟨T.c_Want.cl, T.a_Want_u⟩, h⟩
  · rw [if_neg (by rw [q]; decide)] at h
    exact h
theorem b_least_for_story (T : Txt P K mg A) : Binds K A.d_least_for_story ["want", "promises"] [] := T.f_least_for_story.fn.bindsN (ps := ["want", "promises"]) fun _ _ _ _ _ _ us hl => match us, hl with | [_, _], _ => rfl


def c_least_for_kind (A : Adr) : DSp := fun xs Q => ∃ w k b, xs = [.obj A.C_Want (wF w), kdD k, prD b] ∧ w.ok ∧ k.ok ∧ Q (.int (kindI w k b))
theorem sc_least_for_kind : FnScope ["want", "kind", "promises", "waits", "seen", "need"] ["want", "kind", "promises"] (defScope s_least_for_kind) := ⟨rfl, rfl, rfl, by decide +kernel, rfl, by decide +kernel, by decide +kernel⟩
set_option maxHeartbeats 16000000 in
theorem ok_least_for_kind (T : Txt P K mg A) : DFn tk P w K mg base "least_for_kind" 3 3 ["want", "kind", "promises"] A.f_least_for_kind A.d_least_for_kind (c_least_for_kind A) := by
  have sc := sc_least_for_kind
  refine DFn.of (fun _ => True.intro) T.f_least_for_kind sc rfl (fun cdv B outer s H E hr =>
    (dss_cons (ds_expr (de_fn (ok_need_promises T) (b_need_promises T) (hr.mono (by decide)) (da_cons (de_nm (pv 2)) da_nil)))
    (dss_cons (ds_if (dt_cmp (op_notInAll (room65 hr)) opd_notIn de_str (de_nm (pv 2)) (by rfl))
      (dss_one (ds_ret de_int))
      dss_nil)
    (dss_cons (ds_par (i := 3) (j := 4) rfl sc.nd rfl rfl (by decide) rfl rfl (dv_cons (de_fn (ok_waits_for T) (b_waits_for T) (hr.mono (by decide)) (da_cons (de_nm (pv 0)) (da_cons (de_nm (pv 2)) da_nil))) (dv_cons (de_fn (ok_seen_of T) (b_seen_of T) (hr.mono (by decide)) (da_cons (de_nm (pv 0)) (da_cons (de_nm (pv 1)) (da_cons (de_nm (pv 2)) da_nil)))) dv_nil)) (by rfl))
    (dss_cons (ds_set (i := 5) sc.nd rfl (by first | exact Or.inl rfl | exact Or.inr rfl) (de_fn (ok_parts_needed T) (b_parts_needed T) (hr.mono (by decide)) (da_cons (de_nm (pv 4)) (da_cons (de_ixv ix_seq opd_ix (pv 1) de_int) (da_cons (de_fn (ok_room_for T) (b_room_for T) (hr.mono (by decide)) (da_cons (de_nm (pv 1)) (da_cons (de_nm (pv 2)) da_nil))) da_nil)))))
    (dss_cons (ds_if (dt_cmp (op_eqAll hr.units) opd_eq (de_fld K (de_nm (pv 0)) rfl) de_str (nomark _))
      (dss_one (ds_ret (de_op op_addAll opd_add (de_op op_addAll opd_add (de_nm (pv 3)) (de_fld K (de_nm (pv 0)) rfl)) (de_nm (pv 5)))))
      dss_nil)
    (dss_one (ds_ret (de_op op_addAll opd_add (de_nm (pv 3)) (de_callB (call_max2 rfl) calld_max rfl T.n_max (by decide +kernel) (da_cons (de_op op_addAll opd_add (de_op op_addAll opd_add (de_fld K (de_nm (pv 0)) rfl) (de_nm (pv 4))) de_int) (da_cons (de_nm (pv 5)) da_nil)))))))))))) ?_

  rintro xs Q hl ⟨w, k, b, rfl, ok, kk, h⟩
  have hw := wait_b ok b
  have hs := seen_b ok k b
  have hr' := room_b kk b
  have ⟨m1, m3, n1, n3⟩ := kk
  have ⟨k2, k7, s0, sk, s3, u0, uk, u3, t0, t3, kl, _⟩ := ok
  unfold kindI at h
  rw [show startD ["want", "kind", "promises", "waits", "seen", "need"] (List.map SV.sh [.obj A.C_Want (wF w), kdD k, prD b]) = ([some (.sh (.obj A.C_Want (wF w))), some (.sh (kdD k)), some (.sh (prD b)), none, none, none] : DS) from rfl]
  apply sq
  dsimp only [dLc, sRaise, sTry, dCallX, dMakeX, dXat, sRet, sRetN, sIf, sDrop, sSet, sSetF, sAug, sAsg, sPar, sPar3, sFldI, sSetIx, sBreak, sCont, sNext, gNm, gTp, gsCons, gsNil, fSub, fDiv, fMod, fPow, fLt, fLe, fGt, fGe, fEq, fNe, cAbs, cMax, cMin, dVar, dC, dOp, dOpv, dPk, dTest, dAnd, dOr, dNot, dAndV, dOrV, dNotV, dIf, dIsN, dNotN, DL.isNon, fIsB, fI, fI0, fAdd, fMul, fEqG, fIx, dNil, dCons, dTup, dLst, dLstF, dListF, dSh, dCB, dCBv, cI1, cI2, cInt, cStr, cLen, cTuple, cList, cAll, cAny, cSum, dIsi, dIsi2, tyn_non, isd_non_int, isd_non_bool, isd_non_str, isd_non_tuple, isd_non_list, tyn_bl, isd_bl_int, isd_bl_bool, isd_bl_str, isd_bl_tuple, isd_bl_list, tyn_int, isd_int_int, isd_int_bool, isd_int_str, isd_int_tuple, isd_int_list, tyn_str, isd_str_int, isd_str_bool, isd_str_str, isd_str_tuple, isd_str_list, tyn_tup, isd_tup_int, isd_tup_bool, isd_tup_str, isd_tup_tuple, isd_tup_list, tyn_lst, isd_lst_int, isd_lst_bool, isd_lst_str, isd_lst_tuple, isd_lst_list, tyn_frz, isd_frz_int, isd_frz_bool, isd_frz_str, isd_frz_tuple, isd_frz_list, itT, itF, itNT, itNF, id, dFld, dFldI, dNoPart, dPart, dSl, dRevL, dNeg, dCall, dMake, isOw, dApp, dPop0, dPopAt, vNil, vCons, vConsF, srcE, srcR1, srcR2, srcEnum, dYes, lcTurn, cNm, cTp, setAllD, wipeD, startD, dChain, SV.data, enumD, at_1_0, at_1_m, at_2_0, at_2_1, at_2_m, at_3_0, at_3_1, at_3_2, at_3_m, at_4_0, at_4_1, at_4_2, at_4_3, at_4_m, at_5_0, at_5_1, at_5_2, at_5_3, at_5_4, at_5_m, at_6_0, at_6_1, at_6_2, at_6_3, at_6_4, at_6_5, at_6_m, at_7_0, at_7_1, at_7_2, at_7_3, at_7_4, at_7_5, at_7_6, at_7_m, List.map_cons, List.map_nil, List.length_cons, List.length_nil, List.getElem?_cons_zero, List.getElem?_cons_succ, List.set_cons_zero, List.set_cons_succ, List.replicate_zero, List.replicate_succ, List.cons_append, List.nil_append, Nat.reduceAdd, Nat.reduceSub, Nat.zero_add, Option.isSome_some, Option.isSome_none, Bool.not_true, Bool.not_false, Option.bind_some, c_need_promises]
  refine ⟨rfl, b, rfl, ?_⟩
  apply sq
  walk_at "rs"
  refine inn_ b (in_h b) (fun q => ?_) (fun q => ?_)
  case refine_2 =>
    rw [if_neg (by rw [q]; decide)] at h
    exact h
  rw [if_pos q] at h
  dsimp only
  refine ifF rfl ?_
  apply sq
  dsimp only [dLc, sRaise, sTry, dCallX, dMakeX, dXat, sRet, sRetN, sIf, sDrop, sSet, sSetF, sAug, sAsg, sPar, sPar3, sFldI, sSetIx, sBreak, sCont, sNext, gNm, gTp, gsCons, gsNil, fSub, fDiv, fMod, fPow, fLt, fLe, fGt, fGe, fEq, fNe, cAbs, cMax, cMin, dVar, dC, dOp, dOpv, dPk, dTest, dAnd, dOr, dNot, dAndV, dOrV, dNotV, dIf, dIsN, dNotN, DL.isNon, fIsB, fI, fI0, fAdd, fMul, fEqG, fIx, dNil, dCons, dTup, dLst, dLstF, dListF, dSh, dCB, dCBv, cI1, cI2, cInt, cStr, cLen, cTuple, cList, cAll, cAny, cSum, dIsi, dIsi2, tyn_non, isd_non_int, isd_non_bool, isd_non_str, isd_non_tuple, isd_non_list, tyn_bl, isd_bl_int, isd_bl_bool, isd_bl_str, isd_bl_tuple, isd_bl_list, tyn_int, isd_int_int, isd_int_bool, isd_int_str, isd_int_tuple, isd_int_list, tyn_str, isd_str_int, isd_str_bool, isd_str_str, isd_str_tuple, isd_str_list, tyn_tup, isd_tup_int, isd_tup_bool, isd_tup_str, isd_tup_tuple, isd_tup_list, tyn_lst, isd_lst_int, isd_lst_bool, isd_lst_str, isd_lst_tuple, isd_lst_list, tyn_frz, isd_frz_int, isd_frz_bool, isd_frz_str, isd_frz_tuple, isd_frz_list, itT, itF, itNT, itNF, id, dFld, dFldI, dNoPart, dPart, dSl, dRevL, dNeg, dCall, dMake, isOw, dApp, dPop0, dPopAt, vNil, vCons, vConsF, srcE, srcR1, srcR2, srcEnum, dYes, lcTurn, cNm, cTp, setAllD, wipeD, startD, dChain, SV.data, enumD, at_1_0, at_1_m, at_2_0, at_2_1, at_2_m, at_3_0, at_3_1, at_3_2, at_3_m, at_4_0, at_4_1, at_4_2, at_4_3, at_4_m, at_5_0, at_5_1, at_5_2, at_5_3, at_5_4, at_5_m, at_6_0, at_6_1, at_6_2, at_6_3, at_6_4, at_6_5, at_6_m, at_7_0, at_7_1, at_7_2, at_7_3, at_7_4, at_7_5, at_7_6, at_7_m, List.map_cons, List.map_nil, List.length_cons, List.length_nil, List.getElem?_cons_zero, List.getElem?_cons_succ, List.set_cons_zero, List.set_cons_succ, List.replicate_zero, List.replicate_succ, List.cons_append, List.nil_append, Nat.reduceAdd, Nat.reduceSub, Nat.zero_add, Option.isSome_some, Option.isSome_none, Bool.not_true, Bool.not_false, Option.bind_some, c_waits_for, c_seen_of]
  refine ⟨rfl, w, b, rfl, rfl, w, k, b, rfl, ?_⟩
  apply sq
  dsimp only [dLc, sRaise, sTry, dCallX, dMakeX, dXat, sRet, sRetN, sIf, sDrop, sSet, sSetF, sAug, sAsg, sPar, sPar3, sFldI, sSetIx, sBreak, sCont, sNext, gNm, gTp, gsCons, gsNil, fSub, fDiv, fMod, fPow, fLt, fLe, fGt, fGe, fEq, fNe, cAbs, cMax, cMin, dVar, dC, dOp, dOpv, dPk, dTest, dAnd, dOr, dNot, dAndV, dOrV, dNotV, dIf, dIsN, dNotN, DL.isNon, fIsB, fI, fI0, fAdd, fMul, fEqG, fIx, dNil, dCons, dTup, dLst, dLstF, dListF, dSh, dCB, dCBv, cI1, cI2, cInt, cStr, cLen, cTuple, cList, cAll, cAny, cSum, dIsi, dIsi2, tyn_non, isd_non_int, isd_non_bool, isd_non_str, isd_non_tuple, isd_non_list, tyn_bl, isd_bl_int, isd_bl_bool, isd_bl_str, isd_bl_tuple, isd_bl_list, tyn_int, isd_int_int, isd_int_bool, isd_int_str, isd_int_tuple, isd_int_list, tyn_str, isd_str_int, isd_str_bool, isd_str_str, isd_str_tuple, isd_str_list, tyn_tup, isd_tup_int, isd_tup_bool, isd_tup_str, isd_tup_tuple, isd_tup_list, tyn_lst, isd_lst_int, isd_lst_bool, isd_lst_str, isd_lst_tuple, isd_lst_list, tyn_frz, isd_frz_int, isd_frz_bool, isd_frz_str, isd_frz_tuple, isd_frz_list, itT, itF, itNT, itNF, id, dFld, dFldI, dNoPart, dPart, dSl, dRevL, dNeg, dCall, dMake, isOw, dApp, dPop0, dPopAt, vNil, vCons, vConsF, srcE, srcR1, srcR2, srcEnum, dYes, lcTurn, cNm, cTp, setAllD, wipeD, startD, dChain, SV.data, enumD, at_1_0, at_1_m, at_2_0, at_2_1, at_2_m, at_3_0, at_3_1, at_3_2, at_3_m, at_4_0, at_4_1, at_4_2, at_4_3, at_4_m, at_5_0, at_5_1, at_5_2, at_5_3, at_5_4, at_5_m, at_6_0, at_6_1, at_6_2, at_6_3, at_6_4, at_6_5, at_6_m, at_7_0, at_7_1, at_7_2, at_7_3, at_7_4, at_7_5, at_7_6, at_7_m, List.map_cons, List.map_nil, List.length_cons, List.length_nil, List.getElem?_cons_zero, List.getElem?_cons_succ, List.set_cons_zero, List.set_cons_succ, List.replicate_zero, List.replicate_succ, List.cons_append, List.nil_append, Nat.reduceAdd, Nat.reduceSub, Nat.zero_add, Option.isSome_some, Option.isSome_none, Bool.not_true, Bool.not_false, Option.bind_some, c_parts_needed, c_room_for, kdD]
  refine ⟨rfl, k, b, rfl, rfl, _, _, _, rfl, ⟨by omega, by omega, by omega, by omega, by omega, by omega⟩, ?_⟩
  apply sq
  dsimp only [dLc, sRaise, sTry, dCallX, dMakeX, dXat, sRet, sRetN, sIf, sDrop, sSet, sSetF, sAug, sAsg, sPar, sPar3, sFldI, sSetIx, sBreak, sCont, sNext, gNm, gTp, gsCons, gsNil, fSub, fDiv, fMod, fPow, fLt, fLe, fGt, fGe, fEq, fNe, cAbs, cMax, cMin, dVar, dC, dOp, dOpv, dPk, dTest, dAnd, dOr, dNot, dAndV, dOrV, dNotV, dIf, dIsN, dNotN, DL.isNon, fIsB, fI, fI0, fAdd, fMul, fEqG, fIx, dNil, dCons, dTup, dLst, dLstF, dListF, dSh, dCB, dCBv, cI1, cI2, cInt, cStr, cLen, cTuple, cList, cAll, cAny, cSum, dIsi, dIsi2, tyn_non, isd_non_int, isd_non_bool, isd_non_str, isd_non_tuple, isd_non_list, tyn_bl, isd_bl_int, isd_bl_bool, isd_bl_str, isd_bl_tuple, isd_bl_list, tyn_int, isd_int_int, isd_int_bool, isd_int_str, isd_int_tuple, isd_int_list, tyn_str, isd_str_int, isd_str_bool, isd_str_str, isd_str_tuple, isd_str_list, tyn_tup, isd_tup_int, isd_tup_bool, isd_tup_str, isd_tup_tuple, isd_tup_list, tyn_lst, isd_lst_int, isd_lst_bool, isd_lst_str, isd_lst_tuple, isd_lst_list, tyn_frz, isd_frz_int, isd_frz_bool, isd_frz_str, isd_frz_tuple, isd_frz_list, itT, itF, itNT, itNF, id, dFld, dFldI, dNoPart, dPart, dSl, dRevL, dNeg, dCall, dMake, isOw, dApp, dPop0, dPopAt, vNil, vCons, vConsF, srcE, srcR1, srcR2, srcEnum, dYes, lcTurn, cNm, cTp, setAllD, wipeD, startD, dChain, SV.data, enumD, at_1_0, at_1_m, at_2_0, at_2_1, at_2_m, at_3_0, at_3_1, at_3_2, at_3_m, at_4_0, at_4_1, at_4_2, at_4_3, at_4_m, at_5_0, at_5_1, at_5_2, at_5_3, at_5_4, at_5_m, at_6_0, at_6_1, at_6_2, at_6_3, at_6_4, at_6_5, at_6_m, at_7_0, at_7_1, at_7_2, at_7_3, at_7_4, at_7_5, at_7_6, at_7_m, List.map_cons, List.map_nil, List.length_cons, List.length_nil, List.getElem?_cons_zero, List.getElem?_cons_succ, List.set_cons_zero, List.set_cons_succ, List.replicate_zero, List.replicate_succ, List.cons_append, List.nil_append, Nat.reduceAdd, Nat.reduceSub, Nat.zero_add, Option.isSome_some, Option.isSome_none, Bool.not_true, Bool.not_false, Option.bind_some, lw_k, lw_s, lw_u, lw_t, lw_kinds, lw_post]
  refine ⟨⟨T.c_Want.cl, T.a_Want_post⟩, ?_⟩
  cases hp : w.lost
  · rw [hp, if_neg (by decide)] at h
    refine ifF (by decide +kernel) ⟨⟨T.c_Want.cl, T.a_Want_u⟩, int_eq h ?_⟩
    rw [max_if]
  · rw [hp, if_pos rfl] at h
    exact ifT (by decide +kernel) ⟨⟨T.c_Want.cl, T.a_Want_u⟩, h⟩
theorem b_least_for_kind (T : Txt P K mg A) : Binds K A.d_least_for_kind ["want", "kind", "promises"] [] := T.f_least_for_kind.fn.bindsN (ps := ["want", "kind", "promises"]) fun _ _ _ _ _ _ us hl => match us, hl with | [_, _, _], _ => rfl

/-- the least number for the promises -/
def lotI (w : Wt) (b : B5) : Int := (w.ks.map fun k => kindI w k b).foldr max (storyI w b)
theorem foldr_max (s : Int) : ∀ xs : List Int, s ≤ xs.foldr max s ∧ (∀ x ∈ xs, x ≤ xs.foldr max s) ∧ (xs.foldr max s = s ∨ xs.foldr max s ∈ xs)
  | [] => ⟨Int.le_refl _, fun _ h => (by cases h), .inl rfl⟩
  | x :: xs => by
    obtain ⟨h1, h2, h3⟩ := foldr_max s xs
    rw [List.foldr_cons]
    refine ⟨by omega, fun y hy => ?_, ?_⟩
    · rcases List.mem_cons.mp hy with rfl | hy
      · omega
      · have := h2 y hy
        omega
    · by_cases hx : x ≤ xs.foldr max s
      · rw [show max x (xs.foldr max s) = xs.foldr max s by omega]
        rcases h3 with h3 | h3
        · exact .inl h3
        · exact .inr (List.mem_cons_of_mem _ h3)
      · rw [show max x (xs.foldr max s) = x by omega]
        exact .inr (List.mem_cons_self)
theorem max_eq {s m : Int} {xs : List Int} (h : m ∈ s :: xs) (h2 : ∀ n ∈ s :: xs, n ≤ m) : m = xs.foldr max s := by
  obtain ⟨h3, h4, h5⟩ := foldr_max s xs
  have a1 : m ≤ xs.foldr max s := by
    rcases List.mem_cons.mp h with rfl | h
    · exact h3
    · exact h4 m h
  have a2 : xs.foldr max s ≤ m := by
    rcases h5 with h5 | h5
    · rw [h5]
      exact h2 s (List.mem_cons_self)
    · exact h2 _ (List.mem_cons_of_mem _ h5)
  omega

def c_least_lot (A : Adr) : DSp := fun xs Q => ∃ w b, xs = [.obj A.C_Want (wF w), prD b] ∧ w.ok ∧ Q (.int (lotI w b))
theorem sc_least_lot : FnScope ["want", "promises", "sums", "kind"] ["want", "promises"] (defScope s_least_lot) := ⟨rfl, rfl, rfl, by decide +kernel, rfl, by decide +kernel, by decide +kernel⟩
set_option maxHeartbeats 16000000 in
theorem ok_least_lot (T : Txt P K mg A) : DFn tk P w K mg base "least_lot" 4 2 ["want", "promises"] A.f_least_lot A.d_least_lot (c_least_lot A) := by
  have sc := sc_least_lot
  refine DFn.of (fun _ => True.intro) T.f_least_lot sc rfl (fun cdv B outer s H E hr =>
    (dss_cons (ds_setLc (i := 2) (own := [("kind", 3)]) (vs := [3]) rfl rfl sc.nd rfl rfl (sw_true rfl rfl rfl (by decide +kernel)) (sr_e (de_fld K (de_nm (pv 0)) rfl)) (blkOk_by (own := [("kind", 3)]) (N := ["want", "promises", "sums", "kind"]) (sc := defScope s_least_lot) (by decide +kernel)) (gok_nm (i := 3) (by decide)) (fun _ _ _ _ _ => pg_name (i := 3) sc.nd rfl (by first | exact Or.inl rfl | exact Or.inr rfl)) (fun _ _ _ _ _ => dts_nil) (fun _ _ _ _ _ => (de_fn (ok_least_for_kind T) (b_least_for_kind T) (hr.mono (by decide)) (da_cons (de_nm (pv 0)) (da_cons (de_nm (pv 3)) (da_cons (de_nm (pv 1)) da_nil))))))
    (dss_one (ds_ret (de_callB (cr_max rfl) calld_maxL rfl T.n_max (by decide +kernel) (da_cons (de_op op_addAll opd_add (de_fr (df_lst (da_cons (de_fn (ok_least_for_story T) (b_least_for_story T) (hr.mono (by decide)) (da_cons (de_nm (pv 0)) (da_cons (de_nm (pv 1)) da_nil))) da_nil))) (de_nm (pv 2))) da_nil)))))) ?_

  rintro xs Q hl ⟨w, b, rfl, ok, h⟩
  have kl := ok.kl
  rw [show startD ["want", "promises", "sums", "kind"] (List.map SV.sh [.obj A.C_Want (wF w), prD b]) = ([some (.sh (.obj A.C_Want (wF w))), some (.sh (prD b)), none, none] : DS) from rfl]
  apply sq
  dsimp only [dLc, sRaise, sTry, dCallX, dMakeX, dXat, sRet, sRetN, sIf, sDrop, sSet, sSetF, sAug, sAsg, sPar, sPar3, sFldI, sSetIx, sBreak, sCont, sNext, gNm, gTp, gsCons, gsNil, fSub, fDiv, fMod, fPow, fLt, fLe, fGt, fGe, fEq, fNe, cAbs, cMax, cMin, dVar, dC, dOp, dOpv, dPk, dTest, dAnd, dOr, dNot, dAndV, dOrV, dNotV, dIf, dIsN, dNotN, DL.isNon, fIsB, fI, fI0, fAdd, fMul, fEqG, fIx, dNil, dCons, dTup, dLst, dLstF, dListF, dSh, dCB, dCBv, cI1, cI2, cInt, cStr, cLen, cTuple, cList, cAll, cAny, cSum, dIsi, dIsi2, tyn_non, isd_non_int, isd_non_bool, isd_non_str, isd_non_tuple, isd_non_list, tyn_bl, isd_bl_int, isd_bl_bool, isd_bl_str, isd_bl_tuple, isd_bl_list, tyn_int, isd_int_int, isd_int_bool, isd_int_str, isd_int_tuple, isd_int_list, tyn_str, isd_str_int, isd_str_bool, isd_str_str, isd_str_tuple, isd_str_list, tyn_tup, isd_tup_int, isd_tup_bool, isd_tup_str, isd_tup_tuple, isd_tup_list, tyn_lst, isd_lst_int, isd_lst_bool, isd_lst_str, isd_lst_tuple, isd_lst_list, tyn_frz, isd_frz_int, isd_frz_bool, isd_frz_str, isd_frz_tuple, isd_frz_list, itT, itF, itNT, itNF, id, dFld, dFldI, dNoPart, dPart, dSl, dRevL, dNeg, dCall, dMake, isOw, dApp, dPop0, dPopAt, vNil, vCons, vConsF, srcE, srcR1, srcR2, srcEnum, dYes, lcTurn, cNm, cTp, setAllD, wipeD, startD, dChain, SV.data, enumD, at_1_0, at_1_m, at_2_0, at_2_1, at_2_m, at_3_0, at_3_1, at_3_2, at_3_m, at_4_0, at_4_1, at_4_2, at_4_3, at_4_m, at_5_0, at_5_1, at_5_2, at_5_3, at_5_4, at_5_m, at_6_0, at_6_1, at_6_2, at_6_3, at_6_4, at_6_5, at_6_m, at_7_0, at_7_1, at_7_2, at_7_3, at_7_4, at_7_5, at_7_6, at_7_m, List.map_cons, List.map_nil, List.length_cons, List.length_nil, List.getElem?_cons_zero, List.getElem?_cons_succ, List.set_cons_zero, List.set_cons_succ, List.replicate_zero, List.replicate_succ, List.cons_append, List.nil_append, Nat.reduceAdd, Nat.reduceSub, Nat.zero_add, Option.isSome_some, Option.isSome_none, Bool.not_true, Bool.not_false, Option.bind_some, lw_k, lw_s, lw_u, lw_t, lw_kinds, lw_post, c_least_for_kind]
  refine ⟨⟨T.c_Want.cl, T.a_Want_kinds⟩, lcA w.ks (fun k => some (.int (kindI w k b))), lcA0, fun i y acc hy hR => ?_, fun acc hR => ?_⟩
  · obtain ⟨k, he, rfl⟩ := map_at hy
    exact ⟨rfl, w, k, b, rfl, ok, ok.kk k (List.mem_of_getElem? he), rfl, lcAlt he hR (by omega), lcAs he hR rfl⟩
  · have e := lcAe hR
    rw [fm_some] at e
    subst e
    dsimp only [dLc, sRaise, sTry, dCallX, dMakeX, dXat, sRet, sRetN, sIf, sDrop, sSet, sSetF, sAug, sAsg, sPar, sPar3, sFldI, sSetIx, sBreak, sCont, sNext, gNm, gTp, gsCons, gsNil, fSub, fDiv, fMod, fPow, fLt, fLe, fGt, fGe, fEq, fNe, cAbs, cMax, cMin, dVar, dC, dOp, dOpv, dPk, dTest, dAnd, dOr, dNot, dAndV, dOrV, dNotV, dIf, dIsN, dNotN, DL.isNon, fIsB, fI, fI0, fAdd, fMul, fEqG, fIx, dNil, dCons, dTup, dLst, dLstF, dListF, dSh, dCB, dCBv, cI1, cI2, cInt, cStr, cLen, cTuple, cList, cAll, cAny, cSum, dIsi, dIsi2, tyn_non, isd_non_int, isd_non_bool, isd_non_str, isd_non_tuple, isd_non_list, tyn_bl, isd_bl_int, isd_bl_bool, isd_bl_str, isd_bl_tuple, isd_bl_list, tyn_int, isd_int_int, isd_int_bool, isd_int_str, isd_int_tuple, isd_int_list, tyn_str, isd_str_int, isd_str_bool, isd_str_str, isd_str_tuple, isd_str_list, tyn_tup, isd_tup_int, isd_tup_bool, isd_tup_str, isd_tup_tuple, isd_tup_list, tyn_lst, isd_lst_int, isd_lst_bool, isd_lst_str, isd_lst_tuple, isd_lst_list, tyn_frz, isd_frz_int, isd_frz_bool, isd_frz_str, isd_frz_tuple, isd_frz_list, itT, itF, itNT, itNF, id, dFld, dFldI, dNoPart, dPart, dSl, dRevL, dNeg, dCall, dMake, isOw, dApp, dPop0, dPopAt, vNil, vCons, vConsF, srcE, srcR1, srcR2, srcEnum, dYes, lcTurn, cNm, cTp, setAllD, wipeD, startD, dChain, SV.data, enumD, at_1_0, at_1_m, at_2_0, at_2_1, at_2_m, at_3_0, at_3_1, at_3_2, at_3_m, at_4_0, at_4_1, at_4_2, at_4_3, at_4_m, at_5_0, at_5_1, at_5_2, at_5_3, at_5_4, at_5_m, at_6_0, at_6_1, at_6_2, at_6_3, at_6_4, at_6_5, at_6_m, at_7_0, at_7_1, at_7_2, at_7_3, at_7_4, at_7_5, at_7_6, at_7_m, List.map_cons, List.map_nil, List.length_cons, List.length_nil, List.getElem?_cons_zero, List.getElem?_cons_succ, List.set_cons_zero, List.set_cons_succ, List.replicate_zero, List.replicate_succ, List.cons_append, List.nil_append, Nat.reduceAdd, Nat.reduceSub, Nat.zero_add, Option.isSome_some, Option.isSome_none, Bool.not_true, Bool.not_false, Option.bind_some, c_least_for_story]
    refine ⟨rfl, w, b, rfl, ok, ?_⟩
    refine ⟨by decide, sz (by simp; omega), ?_⟩
    dsimp only [cMaxL]
    refine ⟨storyI w b :: w.ks.map fun k => kindI w k b, by rw [List.map_cons, List.map_map]; rfl, List.cons_ne_nil _ _, fun m hm hx => int_eq h ?_⟩
    exact (max_eq hm hx).symm
theorem b_least_lot (T : Txt P K mg A) : Binds K A.d_least_lot ["want", "promises"] [] := T.f_least_lot.fn.bindsN (ps := ["want", "promises"]) fun _ _ _ _ _ _ us hl => match us, hl with | [_, _], _ => rfl

def everyS : List Str := ["ends", "had", "small", "story", "unseen"]
def pN (i : Nat) : Str := everyS.getD i ""
def oneB (i : Nat) : B5 := ⟨i == 0, i == 1, i == 2, i == 3, i == 4⟩
def wout (i : Nat) : B5 := ⟨!(i == 0), !(i == 1), !(i == 2), !(i == 3), !(i == 4)⟩
def allB : B5 := ⟨true, true, true, true, true⟩
theorem lt5 {p : Nat → Prop} (h0 : p 0) (h1 : p 1) (h2 : p 2) (h3 : p 3) (h4 : p 4) : ∀ i, i < 5 → p i
  | 0, _ => h0
  | 1, _ => h1
  | 2, _ => h2
  | 3, _ => h3
  | 4, _ => h4
theorem one_pr : ∀ i, i < 5 → D.tup [.str (pN i)] = prD (oneB i) := lt5 rfl rfl rfl rfl rfl
theorem filt_wout : ∀ i, i < 5 → (everyS.filter fun p => !decide (p = pN i)) = psL (wout i) := lt5 (by decide +kernel) (by decide +kernel) (by decide +kernel) (by decide +kernel) (by decide +kernel)
theorem every_map : everyL = (List.range 5).map fun i => D.str (pN i) := rfl
theorem every_S : everyL = everyS.map D.str := rfl
def worthI (w : Wt) (i : Nat) : Int := lotI w allB - lotI w (wout i)

def c_worth_of (A : Adr) : DSp := fun xs Q => ∃ w i, xs = [.obj A.C_Want (wF w), .str (pN i)] ∧ w.ok ∧ i < 5 ∧ Q (.int (worthI w i))
theorem sc_worth_of : FnScope ["want", "promise", "others", "one"] ["want", "promise"] (defScope s_worth_of) := ⟨rfl, rfl, rfl, by decide +kernel, rfl, by decide +kernel, by decide +kernel⟩
set_option maxHeartbeats 16000000 in
theorem ok_worth_of (T : Txt P K mg A) : DFn tk P w K mg base "worth_of" 5 2 ["want", "promise"] A.f_worth_of A.d_worth_of (c_worth_of A) := by
  have sc := sc_worth_of
  refine DFn.of (fun _ => True.intro) T.f_worth_of sc rfl (fun cdv B outer s H E hr =>
    (dss_cons (ds_expr (de_fn (ok_need_promises T) (b_need_promises T) (hr.mono (by decide)) (da_cons (de_tup (da_cons (de_nm (pv 1)) da_nil)) da_nil)))
    (dss_cons (ds_set (i := 2) sc.nd rfl (by first | exact Or.inl rfl | exact Or.inr rfl) (de_callTy call_tuple_of calld_tuple rfl T.n_tuple (by decide +kernel) (da_cons (de_fr (df_lc (own := [("one", 3)]) (vs := [3]) rfl rfl sc.nd (sr_e (de_globT (ds := [.str "ends", .str "had", .str "small", .str "story", .str "unseen"]) rfl T.g_PROMISES.choose_spec.1 T.g_PROMISES.choose_spec.2.choose_spec.1 T.g_PROMISES.choose_spec.2.choose_spec.2)) (blkOk_by (own := [("one", 3)]) (N := ["want", "promise", "others", "one"]) (sc := defScope s_worth_of) (by decide +kernel)) (gok_nm (i := 3) (by decide)) (fun _ _ _ _ _ => pg_name (i := 3) sc.nd rfl (by first | exact Or.inl rfl | exact Or.inr rfl)) (fun _ _ _ _ _ => dts_one (dt_cmpv (op_neAll hr.units) opd_ne (pv 3) (de_nm (pv 1)) (nomark _))) (fun _ _ _ _ _ => (de_nm (pv 3))))) da_nil)))
    (dss_one (ds_ret (de_op op_sub opd_sub (de_fn (ok_least_lot T) (b_least_lot T) (hr.mono (by decide)) (da_cons (de_nm (pv 0)) (da_cons (de_globT (ds := [.str "ends", .str "had", .str "small", .str "story", .str "unseen"]) rfl T.g_PROMISES.choose_spec.1 T.g_PROMISES.choose_spec.2.choose_spec.1 T.g_PROMISES.choose_spec.2.choose_spec.2) da_nil))) (de_fn (ok_least_lot T) (b_least_lot T) (hr.mono (by decide)) (da_cons (de_nm (pv 0)) (da_cons (de_nm (pv 2)) da_nil))))))))) ?_

  rintro xs Q hl ⟨w, i, rfl, ok, hi, h⟩
  rw [show startD ["want", "promise", "others", "one"] (List.map SV.sh [.obj A.C_Want (wF w), .str (pN i)]) = ([some (.sh (.obj A.C_Want (wF w))), some (.sh (.str (pN i))), none, none] : DS) from rfl]
  apply sq
  dsimp only [dLc, sRaise, sTry, dCallX, dMakeX, dXat, sRet, sRetN, sIf, sDrop, sSet, sSetF, sAug, sAsg, sPar, sPar3, sFldI, sSetIx, sBreak, sCont, sNext, gNm, gTp, gsCons, gsNil, fSub, fDiv, fMod, fPow, fLt, fLe, fGt, fGe, fEq, fNe, cAbs, cMax, cMin, dVar, dC, dOp, dOpv, dPk, dTest, dAnd, dOr, dNot, dAndV, dOrV, dNotV, dIf, dIsN, dNotN, DL.isNon, fIsB, fI, fI0, fAdd, fMul, fEqG, fIx, dNil, dCons, dTup, dLst, dLstF, dListF, dSh, dCB, dCBv, cI1, cI2, cInt, cStr, cLen, cTuple, cList, cAll, cAny, cSum, dIsi, dIsi2, tyn_non, isd_non_int, isd_non_bool, isd_non_str, isd_non_tuple, isd_non_list, tyn_bl, isd_bl_int, isd_bl_bool, isd_bl_str, isd_bl_tuple, isd_bl_list, tyn_int, isd_int_int, isd_int_bool, isd_int_str, isd_int_tuple, isd_int_list, tyn_str, isd_str_int, isd_str_bool, isd_str_str, isd_str_tuple, isd_str_list, tyn_tup, isd_tup_int, isd_tup_bool, isd_tup_str, isd_tup_tuple, isd_tup_list, tyn_lst, isd_lst_int, isd_lst_bool, isd_lst_str, isd_lst_tuple, isd_lst_list, tyn_frz, isd_frz_int, isd_frz_bool, isd_frz_str, isd_frz_tuple, isd_frz_list, itT, itF, itNT, itNF, id, dFld, dFldI, dNoPart, dPart, dSl, dRevL, dNeg, dCall, dMake, isOw, dApp, dPop0, dPopAt, vNil, vCons, vConsF, srcE, srcR1, srcR2, srcEnum, dYes, lcTurn, cNm, cTp, setAllD, wipeD, startD, dChain, SV.data, enumD, at_1_0, at_1_m, at_2_0, at_2_1, at_2_m, at_3_0, at_3_1, at_3_2, at_3_m, at_4_0, at_4_1, at_4_2, at_4_3, at_4_m, at_5_0, at_5_1, at_5_2, at_5_3, at_5_4, at_5_m, at_6_0, at_6_1, at_6_2, at_6_3, at_6_4, at_6_5, at_6_m, at_7_0, at_7_1, at_7_2, at_7_3, at_7_4, at_7_5, at_7_6, at_7_m, List.map_cons, List.map_nil, List.length_cons, List.length_nil, List.getElem?_cons_zero, List.getElem?_cons_succ, List.set_cons_zero, List.set_cons_succ, List.replicate_zero, List.replicate_succ, List.cons_append, List.nil_append, Nat.reduceAdd, Nat.reduceSub, Nat.zero_add, Option.isSome_some, Option.isSome_none, Bool.not_true, Bool.not_false, Option.bind_some, c_need_promises]
  refine ⟨sz (by decide), rfl, oneB i, by rw [one_pr i hi], ?_⟩
  apply sq
  walk_at "rs"
  refine ⟨lcA everyS (fun p => if (!decide (p = pN i)) = true then some (.str p) else none), lcA0, fun j y acc hy hR => ?_, fun acc hR => ?_⟩
  · obtain ⟨p, he, rfl⟩ := map_at (as := everyS) (e := D.str) hy
    walk_at "rs"
    refine ifB (fun q => ⟨rfl, lcAlt he hR (by decide), lcAs he hR (by rw [if_pos q])⟩) (fun q => ⟨rfl, lcAn he hR (by rw [if_neg (by rw [q]; exact Bool.false_ne_true)])⟩)
  · have e := lcAe (e := D.str) (as := everyS) hR
    rw [fm_if, filt_wout i hi] at e
    subst e
    dsimp only [dLc, sRaise, sTry, dCallX, dMakeX, dXat, sRet, sRetN, sIf, sDrop, sSet, sSetF, sAug, sAsg, sPar, sPar3, sFldI, sSetIx, sBreak, sCont, sNext, gNm, gTp, gsCons, gsNil, fSub, fDiv, fMod, fPow, fLt, fLe, fGt, fGe, fEq, fNe, cAbs, cMax, cMin, dVar, dC, dOp, dOpv, dPk, dTest, dAnd, dOr, dNot, dAndV, dOrV, dNotV, dIf, dIsN, dNotN, DL.isNon, fIsB, fI, fI0, fAdd, fMul, fEqG, fIx, dNil, dCons, dTup, dLst, dLstF, dListF, dSh, dCB, dCBv, cI1, cI2, cInt, cStr, cLen, cTuple, cList, cAll, cAny, cSum, dIsi, dIsi2, tyn_non, isd_non_int, isd_non_bool, isd_non_str, isd_non_tuple, isd_non_list, tyn_bl, isd_bl_int, isd_bl_bool, isd_bl_str, isd_bl_tuple, isd_bl_list, tyn_int, isd_int_int, isd_int_bool, isd_int_str, isd_int_tuple, isd_int_list, tyn_str, isd_str_int, isd_str_bool, isd_str_str, isd_str_tuple, isd_str_list, tyn_tup, isd_tup_int, isd_tup_bool, isd_tup_str, isd_tup_tuple, isd_tup_list, tyn_lst, isd_lst_int, isd_lst_bool, isd_lst_str, isd_lst_tuple, isd_lst_list, tyn_frz, isd_frz_int, isd_frz_bool, isd_frz_str, isd_frz_tuple, isd_frz_list, itT, itF, itNT, itNF, id, dFld, dFldI, dNoPart, dPart, dSl, dRevL, dNeg, dCall, dMake, isOw, dApp, dPop0, dPopAt, vNil, vCons, vConsF, srcE, srcR1, srcR2, srcEnum, dYes, lcTurn, cNm, cTp, setAllD, wipeD, startD, dChain, SV.data, enumD, at_1_0, at_1_m, at_2_0, at_2_1, at_2_m, at_3_0, at_3_1, at_3_2, at_3_m, at_4_0, at_4_1, at_4_2, at_4_3, at_4_m, at_5_0, at_5_1, at_5_2, at_5_3, at_5_4, at_5_m, at_6_0, at_6_1, at_6_2, at_6_3, at_6_4, at_6_5, at_6_m, at_7_0, at_7_1, at_7_2, at_7_3, at_7_4, at_7_5, at_7_6, at_7_m, List.map_cons, List.map_nil, List.length_cons, List.length_nil, List.getElem?_cons_zero, List.getElem?_cons_succ, List.set_cons_zero, List.set_cons_succ, List.replicate_zero, List.replicate_succ, List.cons_append, List.nil_append, Nat.reduceAdd, Nat.reduceSub, Nat.zero_add, Option.isSome_some, Option.isSome_none, Bool.not_true, Bool.not_false, Option.bind_some, c_least_lot]
    exact ⟨rfl, w, allB, rfl, ok, rfl, w, wout i, rfl, ok, h⟩
theorem b_worth_of (T : Txt P K mg A) : Binds K A.d_worth_of ["want", "promise"] [] := T.f_worth_of.fn.bindsN (ps := ["want", "promise"]) fun _ _ _ _ _ _ us hl => match us, hl with | [_, _], _ => rfl


def c_free_promises (A : Adr) : DSp := fun xs Q => ∃ w, xs = [.obj A.C_Want (wF w)] ∧ w.ok ∧ Q (.tup (((List.range 5).filter fun i => decide (worthI w i = 0)).map fun i => .str (pN i)))
theorem sc_free_promises : FnScope ["want", "promise"] ["want"] (defScope s_free_promises) := ⟨rfl, rfl, rfl, by decide +kernel, rfl, by decide +kernel, by decide +kernel⟩
set_option maxHeartbeats 16000000 in
theorem ok_free_promises (T : Txt P K mg A) : DFn tk P w K mg base "free_promises" 6 1 ["want"] A.f_free_promises A.d_free_promises (c_free_promises A) := by
  have sc := sc_free_promises
  refine DFn.of (fun _ => True.intro) T.f_free_promises sc rfl (fun cdv B outer s H E hr =>
    (dss_one (ds_ret (de_callTy call_tuple_of calld_tuple rfl T.n_tuple (by decide +kernel) (da_cons (de_fr (df_lc (own := [("promise", 1)]) (vs := [1]) rfl rfl sc.nd (sr_e (de_globT (ds := [.str "ends", .str "had", .str "small", .str "story", .str "unseen"]) rfl T.g_PROMISES.choose_spec.1 T.g_PROMISES.choose_spec.2.choose_spec.1 T.g_PROMISES.choose_spec.2.choose_spec.2)) (blkOk_by (own := [("promise", 1)]) (N := ["want", "promise"]) (sc := defScope s_free_promises) (by decide +kernel)) (gok_nm (i := 1) (by decide)) (fun _ _ _ _ _ => pg_name (i := 1) sc.nd rfl (by first | exact Or.inl rfl | exact Or.inr rfl)) (fun _ _ _ _ _ => dts_one (dt_cmp (op_eqAll hr.units) opd_eq (de_fn (ok_worth_of T) (b_worth_of T) (hr.mono (by decide)) (da_cons (de_nm (pv 0)) (da_cons (de_nm (pv 1)) da_nil))) de_int (nomark _))) (fun _ _ _ _ _ => (de_nm (pv 1))))) da_nil))))) ?_

  rintro xs Q hl ⟨w, rfl, ok, h⟩
  rw [show startD ["want", "promise"] (List.map SV.sh [.obj A.C_Want (wF w)]) = ([some (.sh (.obj A.C_Want (wF w))), none] : DS) from rfl]
  dsimp only [dLc, sRaise, sTry, dCallX, dMakeX, dXat, sRet, sRetN, sIf, sDrop, sSet, sSetF, sAug, sAsg, sPar, sPar3, sFldI, sSetIx, sBreak, sCont, sNext, gNm, gTp, gsCons, gsNil, fSub, fDiv, fMod, fPow, fLt, fLe, fGt, fGe, fEq, fNe, cAbs, cMax, cMin, dVar, dC, dOp, dOpv, dPk, dTest, dAnd, dOr, dNot, dAndV, dOrV, dNotV, dIf, dIsN, dNotN, DL.isNon, fIsB, fI, fI0, fAdd, fMul, fEqG, fIx, dNil, dCons, dTup, dLst, dLstF, dListF, dSh, dCB, dCBv, cI1, cI2, cInt, cStr, cLen, cTuple, cList, cAll, cAny, cSum, dIsi, dIsi2, tyn_non, isd_non_int, isd_non_bool, isd_non_str, isd_non_tuple, isd_non_list, tyn_bl, isd_bl_int, isd_bl_bool, isd_bl_str, isd_bl_tuple, isd_bl_list, tyn_int, isd_int_int, isd_int_bool, isd_int_str, isd_int_tuple, isd_int_list, tyn_str, isd_str_int, isd_str_bool, isd_str_str, isd_str_tuple, isd_str_list, tyn_tup, isd_tup_int, isd_tup_bool, isd_tup_str, isd_tup_tuple, isd_tup_list, tyn_lst, isd_lst_int, isd_lst_bool, isd_lst_str, isd_lst_tuple, isd_lst_list, tyn_frz, isd_frz_int, isd_frz_bool, isd_frz_str, isd_frz_tuple, isd_frz_list, itT, itF, itNT, itNF, id, dFld, dFldI, dNoPart, dPart, dSl, dRevL, dNeg, dCall, dMake, isOw, dApp, dPop0, dPopAt, vNil, vCons, vConsF, srcE, srcR1, srcR2, srcEnum, dYes, lcTurn, cNm, cTp, setAllD, wipeD, startD, dChain, SV.data, enumD, at_1_0, at_1_m, at_2_0, at_2_1, at_2_m, at_3_0, at_3_1, at_3_2, at_3_m, at_4_0, at_4_1, at_4_2, at_4_3, at_4_m, at_5_0, at_5_1, at_5_2, at_5_3, at_5_4, at_5_m, at_6_0, at_6_1, at_6_2, at_6_3, at_6_4, at_6_5, at_6_m, at_7_0, at_7_1, at_7_2, at_7_3, at_7_4, at_7_5, at_7_6, at_7_m, List.map_cons, List.map_nil, List.length_cons, List.length_nil, List.getElem?_cons_zero, List.getElem?_cons_succ, List.set_cons_zero, List.set_cons_succ, List.replicate_zero, List.replicate_succ, List.cons_append, List.nil_append, Nat.reduceAdd, Nat.reduceSub, Nat.zero_add, Option.isSome_some, Option.isSome_none, Bool.not_true, Bool.not_false, Option.bind_some, c_worth_of]
  refine ⟨lcA (List.range 5) (fun i => if decide (worthI w i = 0) = true then some (.str (pN i)) else none), lcA0, fun j y acc hy hR => ?_, fun acc hR => ?_⟩
  · obtain ⟨i, he, rfl⟩ := map_at (as := List.range 5) (e := fun i => D.str (pN i)) hy
    refine ⟨rfl, w, i, rfl, ok, List.mem_range.mp (List.mem_of_getElem? he), ?_⟩
    refine ifB (fun q => ⟨rfl, lcAlt he hR (by decide), lcAs he hR (by rw [if_pos q])⟩) (fun q => ⟨rfl, lcAn he hR (by rw [if_neg (by rw [q]; exact Bool.false_ne_true)])⟩)
  · have e := lcAe (e := fun i => D.str (pN i)) (as := List.range 5) hR
    rw [fm_if] at e
    subst e
    exact h
theorem b_free_promises (T : Txt P K mg A) : Binds K A.d_free_promises ["want"] [] := T.f_free_promises.fn.bindsN (ps := ["want"]) fun _ _ _ _ _ _ us hl => match us, hl with | [_], _ => rfl

def setB (n : Nat) (b : B5) : B5 := match n with
  | 0 => { b with e := true }
  | 1 => { b with h := true }
  | 2 => { b with m := true }
  | 3 => { b with t := true }
  | _ => { b with n := true }
def rowsL : Nat → List B5
  | 0 => [⟨false, false, false, false, false⟩]
  | n + 1 => rowsL n ++ (rowsL n).map (setB n)
theorem set_ok : ∀ n, n < 5 → ∀ b ∈ rowsL n, psL (setB n b) = psL b ++ [pN n] := by
  have h : ∀ n, n < 5 → ((rowsL n).all fun b => decide (psL (setB n b) = psL b ++ [pN n])) = true := lt5 (by decide +kernel) (by decide +kernel) (by decide +kernel) (by decide +kernel) (by decide +kernel)
  exact fun n hn b hb => of_decide_eq_true (List.all_eq_true.mp (h n hn) b hb)
theorem rows_len : ∀ n, n ≤ 5 → (rowsL n).length ≤ 32
  | 0, _ => by decide
  | 1, _ => by decide
  | 2, _ => by decide
  | 3, _ => by decide
  | 4, _ => by decide
  | 5, _ => by decide
def r5 (n : Bool) : Nat := if n then 1 else 0
def r4 (t n : Bool) : Nat := if t then 1 + r5 n else if n then 2 + r5 n else 0
def r3 (m t n : Bool) : Nat := if m then 1 + r4 t n else if t || n then 4 + r4 t n else 0
def r2 (h m t n : Bool) : Nat := if h then 1 + r3 m t n else if m || t || n then 8 + r3 m t n else 0
/-- the place among the rows in order -/
def rk (b : B5) : Nat := if b.e then 1 + r2 b.h b.m b.t b.n else if b.h || b.m || b.t || b.n then 16 + r2 b.h b.m b.t b.n else 0
theorem le_rk (a b : B5) : leD (prD a) (prD b) = decide (rk a ≤ rk b) := by
  revert a
  refine B5.all ?_
  have h : ∀ (b : B5) (e h m t n : Bool), (leD (prD ⟨e, h, m, t, n⟩) (prD b) == decide (rk ⟨e, h, m, t, n⟩ ≤ rk b)) = true := by
    refine B5.all ?_
    decide +kernel
  exact fun e h' m t n => eq_of_beq (h b e h' m t n)
def sortedL : List B5 := [⟨false, false, false, false, false⟩, ⟨true, false, false, false, false⟩, ⟨true, true, false, false, false⟩, ⟨true, true, true, false, false⟩, ⟨true, true, true, true, false⟩, ⟨true, true, true, true, true⟩, ⟨true, true, true, false, true⟩, ⟨true, true, false, true, false⟩, ⟨true, true, false, true, true⟩, ⟨true, true, false, false, true⟩, ⟨true, false, true, false, false⟩, ⟨true, false, true, true, false⟩, ⟨true, false, true, true, true⟩, ⟨true, false, true, false, true⟩, ⟨true, false, false, true, false⟩, ⟨true, false, false, true, true⟩, ⟨true, false, false, false, true⟩, ⟨false, true, false, false, false⟩, ⟨false, true, true, false, false⟩, ⟨false, true, true, true, false⟩, ⟨false, true, true, true, true⟩, ⟨false, true, true, false, true⟩, ⟨false, true, false, true, false⟩, ⟨false, true, false, true, true⟩, ⟨false, true, false, false, true⟩, ⟨false, false, true, false, false⟩, ⟨false, false, true, true, false⟩, ⟨false, false, true, true, true⟩, ⟨false, false, true, false, true⟩, ⟨false, false, false, true, false⟩, ⟨false, false, false, true, true⟩, ⟨false, false, false, false, true⟩]
theorem rows_perm : (rowsL 5).Perm sortedL := by decide +kernel
theorem sorted_lt : sortedL.Pairwise fun a b => rk a < rk b := by decide +kernel
theorem pr_p (b : B5) : (toP (prD b)).isSome = true := by
  revert b
  exact B5.all (by decide +kernel)
theorem pr_alike (a b : B5) : PySem.W.alike (pd (prD a)) (pd (prD b)) = true := by
  revert a
  refine B5.all ?_
  revert b
  exact B5.all (by decide +kernel)
theorem pr_dp (b : B5) : (pd (prD b)).depth ≤ 60 := by
  revert b
  exact B5.all (by decide +kernel)
theorem pr_pd (b : B5) : pd (prD b) = .tuple ((psL b).map .str) := by
  revert b
  refine B5.all ?_
  intro e h m t n
  cases e <;> cases h <;> cases m <;> cases t <;> cases n <;> rfl
theorem rk_cons (b : B5) : rk b ≠ 0 → ∃ x r, psL b = x :: r := by
  revert b
  refine B5.all ?_
  intro e h m t n
  cases e <;> cases h <;> cases m <;> cases t <;> cases n <;> first | exact fun _ => ⟨_, _, rfl⟩ | exact fun q => absurd rfl q
theorem sort_rows {bs : List B5} (h : (∀ b ∈ bs, rk b ≠ 0) ∨ ∃ r, bs = ⟨false, false, false, false, false⟩ :: r) : SortOk (bs.map prD) := by
  refine ⟨fun x hx => ?_, fun d hd d' hd' => ?_, ?_, fun x hx => ?_⟩
  · obtain ⟨b, _, rfl⟩ := List.mem_map.mp hx
    exact pr_p b
  · rw [List.map_map] at hd hd'
    obtain ⟨b, _, rfl⟩ := List.mem_map.mp hd
    obtain ⟨b', _, rfl⟩ := List.mem_map.mp hd'
    exact pr_alike b b'
  · rw [List.map_map]
    rcases h with h | ⟨r, rfl⟩
    · refine .inl (.inl fun d hd => ?_)
      obtain ⟨b, hb, rfl⟩ := List.mem_map.mp hd
      obtain ⟨x, r, e⟩ := rk_cons b (h b hb)
      exact ⟨_, _, (pr_pd b).trans (by rw [e]; rfl)⟩
    · refine .inr ⟨fun d hd => ?_, ?_⟩
      · obtain ⟨b, hb, rfl⟩ := List.mem_map.mp hd
        exact ⟨_, pr_pd b⟩
      · exact ⟨_, rfl⟩
  · obtain ⟨b, _, rfl⟩ := List.mem_map.mp hx
    exact pr_dp b
theorem rk_inj (a b : B5) : rk a = rk b → a = b := by
  revert a
  refine B5.all ?_
  revert b
  refine B5.all ?_
  decide +kernel
theorem sortD_rows {l m : List B5} (p : l.Perm m) (s : m.Pairwise fun a b => rk a < rk b) : sortD (l.map prD) = m.map prD := by
  unfold sortD
  rw [← PySem.W.sort_maps (r := fun a b => decide (rk a ≤ rk b)) (s := leD) prD fun a _ b _ => (le_rk a b).symm]
  congr 1
  refine List.Perm.eq_of_pairwise (le := fun a b => decide (rk a ≤ rk b) = true) (fun a b _ _ h1 h2 => rk_inj a b (Nat.le_antisymm (of_decide_eq_true h1) (of_decide_eq_true h2))) (List.pairwise_mergeSort (le := fun a b => decide (rk a ≤ rk b)) (fun a b c h1 h2 => decide_eq_true (Nat.le_trans (of_decide_eq_true h1) (of_decide_eq_true h2))) (fun a b => ?_) l) (s.imp fun h => decide_eq_true (Nat.le_of_lt h)) ((List.mergeSort_perm l _).trans p)
  rcases Nat.le_total (rk a) (rk b) with h | h
  · rw [decide_eq_true h]
    rfl
  · rw [decide_eq_true h, Bool.or_true]

def c_all_promises : DSp := fun xs Q => xs = [] ∧ Q (.tup (sortedL.map prD))
theorem sc_all_promises : FnScope ["found", "promise", "row"] [] (defScope s_all_promises) := ⟨rfl, rfl, rfl, by decide +kernel, rfl, by decide +kernel, by decide +kernel⟩
set_option maxHeartbeats 16000000 in
theorem ok_all_promises (T : Txt P K mg A) : DFn tk P w K mg base "all_promises" 1 0 [] A.f_all_promises A.d_all_promises c_all_promises := by
  have sc := sc_all_promises
  refine DFn.of (fun _ => True.intro) T.f_all_promises sc rfl (fun cdv B outer s H E hr =>
    (dss_cons (ds_setF (i := 0) sc.nd rfl (by first | exact Or.inl rfl | exact Or.inr rfl) (df_lst (da_cons (de_tup da_nil) da_nil)))
    (dss_cons (ds_for PassesOwn.never rfl (sr_e (de_globT (ds := [.str "ends", .str "had", .str "small", .str "story", .str "unseen"]) rfl T.g_PROMISES.choose_spec.1 T.g_PROMISES.choose_spec.2.choose_spec.1 T.g_PROMISES.choose_spec.2.choose_spec.2)) (dg_name (i := 1) sc.nd rfl (by first | exact Or.inl rfl | exact Or.inr rfl))
      (dss_one (ds_set (i := 0) sc.nd rfl (by first | exact Or.inl rfl | exact Or.inr rfl) (de_op op_addAll opd_add (de_nm (pv 0)) (de_fr (df_lc (own := [("row", 2)]) (vs := [2]) rfl rfl sc.nd (sr_e (de_nm (pv 0))) (blkOk_by (own := [("row", 2)]) (N := ["found", "promise", "row"]) (sc := defScope s_all_promises) (by decide +kernel)) (gok_nm (i := 2) (by decide)) (fun _ _ _ _ _ => pg_name (i := 2) sc.nd rfl (by first | exact Or.inl rfl | exact Or.inr rfl)) (fun _ _ _ _ _ => dts_nil) (fun _ _ _ _ _ => (de_op op_addAll opd_add (de_nm (pv 2)) (de_tup (da_cons (de_nm (pv 1)) da_nil))))))))))
    (dss_one (ds_ret (de_callTy call_tuple_of calld_tuple rfl T.n_tuple (by decide +kernel) (da_cons (de_callB (cr_sortedD hr.units) calld_sorted rfl T.n_sorted (by decide +kernel) (da_cons (de_nm (pv 0)) da_nil)) da_nil))))))) ?_

  rintro xs Q hl ⟨rfl, h⟩
  rw [show startD ["found", "promise", "row"] (List.map SV.sh []) = ([none, none, none] : DS) from rfl]
  apply sq
  walk_at "rs"
  refine ⟨sz (by decide), sz (by decide), ?_⟩
  apply sq
  dsimp only [sFor]
  walk_at "rs"
  refine ⟨fun n d => ∃ sv x1, d = [some sv, x1, none] ∧ (sv = .ow ((rowsL n).map prD) ∨ sv = .sh (.lst ((rowsL n).map prD))), ⟨_, _, rfl, .inl rfl⟩, ?_, ?_⟩
  · rintro n y d hy ⟨sv, x1, rfl, hsv⟩
    obtain ⟨i, he, rfl⟩ := map_at (as := List.range 5) (e := fun i => D.str (pN i)) hy
    obtain ⟨hn, rfl⟩ : n < 5 ∧ i = n := by
      obtain ⟨h1, h2⟩ := List.getElem?_eq_some_iff.mp he
      rw [List.length_range] at h1
      rw [List.getElem_range] at h2
      exact ⟨h1, h2.symm⟩
    have hlen := rows_len i (by omega)
    rcases hsv with rfl | rfl
    all_goals
      walk_at "rs"
      refine ⟨lcA (rowsL i) (fun b => some (prD (setB i b))), lcA0, fun j y acc hy hR => ?_, fun acc hR => ?_⟩
      · obtain ⟨b, hb, rfl⟩ := map_at hy
        have e : prD (setB i b) = .tup ((psL b).map D.str ++ [.str (pN i)]) := by
          unfold prD
          rw [set_ok i hn b (List.mem_of_getElem? hb), List.map_append]
          rfl
        have hb5 := ps_len b
        show 1 ≤ sizeLine ∧ (((psL b).map D.str).length + 1 ≤ sizeLine ∧ _ ∧ _ ∧ _)
        exact ⟨sz (by decide), sz (by rw [List.length_map]; omega), rfl, lcAlt hb hR (by omega), lcAs hb hR (by rw [e])⟩
      · have e := lcAe hR
        rw [fm_some] at e
        subst e
        refine ⟨sz (by rw [List.length_map, List.length_map]; omega), _, _, rfl, .inr ?_⟩
        show _ = SV.sh (.lst ((rowsL i ++ (rowsL i).map (setB i)).map prD))
        rw [List.map_append, List.map_map]
        rfl
  · rintro d ⟨sv, x1, rfl, hsv⟩
    rcases hsv with rfl | rfl
    all_goals
      dsimp only [dLc, sRaise, sTry, dCallX, dMakeX, dXat, sRet, sRetN, sIf, sDrop, sSet, sSetF, sAug, sAsg, sPar, sPar3, sFldI, sSetIx, sBreak, sCont, sNext, gNm, gTp, gsCons, gsNil, fSub, fDiv, fMod, fPow, fLt, fLe, fGt, fGe, fEq, fNe, cAbs, cMax, cMin, dVar, dC, dOp, dOpv, dPk, dTest, dAnd, dOr, dNot, dAndV, dOrV, dNotV, dIf, dIsN, dNotN, DL.isNon, fIsB, fI, fI0, fAdd, fMul, fEqG, fIx, dNil, dCons, dTup, dLst, dLstF, dListF, dSh, dCB, dCBv, cI1, cI2, cInt, cStr, cLen, cTuple, cList, cAll, cAny, cSum, dIsi, dIsi2, tyn_non, isd_non_int, isd_non_bool, isd_non_str, isd_non_tuple, isd_non_list, tyn_bl, isd_bl_int, isd_bl_bool, isd_bl_str, isd_bl_tuple, isd_bl_list, tyn_int, isd_int_int, isd_int_bool, isd_int_str, isd_int_tuple, isd_int_list, tyn_str, isd_str_int, isd_str_bool, isd_str_str, isd_str_tuple, isd_str_list, tyn_tup, isd_tup_int, isd_tup_bool, isd_tup_str, isd_tup_tuple, isd_tup_list, tyn_lst, isd_lst_int, isd_lst_bool, isd_lst_str, isd_lst_tuple, isd_lst_list, tyn_frz, isd_frz_int, isd_frz_bool, isd_frz_str, isd_frz_tuple, isd_frz_list, itT, itF, itNT, itNF, id, dFld, dFldI, dNoPart, dPart, dSl, dRevL, dNeg, dCall, dMake, isOw, dApp, dPop0, dPopAt, vNil, vCons, vConsF, srcE, srcR1, srcR2, srcEnum, dYes, lcTurn, cNm, cTp, setAllD, wipeD, startD, dChain, SV.data, enumD, at_1_0, at_1_m, at_2_0, at_2_1, at_2_m, at_3_0, at_3_1, at_3_2, at_3_m, at_4_0, at_4_1, at_4_2, at_4_3, at_4_m, at_5_0, at_5_1, at_5_2, at_5_3, at_5_4, at_5_m, at_6_0, at_6_1, at_6_2, at_6_3, at_6_4, at_6_5, at_6_m, at_7_0, at_7_1, at_7_2, at_7_3, at_7_4, at_7_5, at_7_6, at_7_m, List.map_cons, List.map_nil, List.length_cons, List.length_nil, List.getElem?_cons_zero, List.getElem?_cons_succ, List.set_cons_zero, List.set_cons_succ, List.replicate_zero, List.replicate_succ, List.cons_append, List.nil_append, Nat.reduceAdd, Nat.reduceSub, Nat.zero_add, Option.isSome_some, Option.isSome_none, Bool.not_true, Bool.not_false, Option.bind_some, z_sorted]
      refine ⟨sort_rows (.inr ⟨_, rfl⟩), ?_⟩
      rw [sortD_rows rows_perm sorted_lt]
      exact h
theorem b_all_promises (T : Txt P K mg A) : Binds K A.d_all_promises [] [] := T.f_all_promises.fn.bindsN (ps := []) fun _ _ _ _ _ _ us hl => match us, hl with | [], _ => rfl

theorem len_pr {b : B5} {Q : D → Prop} : cLen [prD b] Q = Q (.int (psL b).length) := by
  unfold prD
  show Q (.int ((psL b).map D.str).length) = _
  rw [List.length_map]
def subB (a c : B5) : Bool := (!a.e || c.e) && (!a.h || c.h) && (!a.m || c.m) && (!a.t || c.t) && (!a.n || c.n)
theorem sub_all (a c : B5) : ((psL a).all fun p => inF (.str p) ((psL c).map D.str)) = subB a c := by
  revert a
  refine B5.all ?_
  revert c
  refine B5.all ?_
  decide +kernel
def bigB (a c : B5) : Bool := decide ((psL a).length < (psL c).length) && subB a c
def topB (l : List B5) (a : B5) : Bool := !(l.any fun c => bigB a c)
def topL (l : List B5) : List B5 := l.filter (topB l)
def keptL (w : Wt) (k : Int) : List B5 := topL (sortedL.filter fun b => decide (lotI w b ≤ k))
theorem kept_len (w : Wt) (k : Int) : (sortedL.filter fun b => decide (lotI w b ≤ k)).length ≤ 32 := Nat.le_trans (List.length_filter_le _ _) (by decide)

def c_kept_with (A : Adr) : DSp := fun xs Q => ∃ w k, xs = [.obj A.C_Want (wF w), .int k] ∧ w.ok ∧ Q (.tup ((keptL w k).map prD))
theorem sc_kept_with : FnScope ["want", "k", "rows", "found", "row", "other", "one"] ["want", "k"] (defScope s_kept_with) := ⟨rfl, rfl, rfl, by decide +kernel, rfl, by decide +kernel, by decide +kernel⟩
set_option maxHeartbeats 16000000 in
theorem ok_kept_with (T : Txt P K mg A) : DFn tk P w K mg base "kept_with" 5 2 ["want", "k"] A.f_kept_with A.d_kept_with (c_kept_with A) := by
  have sc := sc_kept_with
  refine DFn.of (fun _ => True.intro) T.f_kept_with sc rfl (fun cdv B outer s H E hr =>
    (dss_cons (ds_setLc (i := 2) (own := [("row", 4)]) (vs := [4]) rfl rfl sc.nd rfl rfl (sw_true rfl rfl rfl (by decide +kernel)) (sr_e (de_fn0 (ok_all_promises T) (b_all_promises T) (hr.mono (by decide)))) (blkOk_by (own := [("row", 4)]) (N := ["want", "k", "rows", "found", "row", "other", "one"]) (sc := defScope s_kept_with) (by decide +kernel)) (gok_nm (i := 4) (by decide)) (fun _ _ _ _ _ => pg_name (i := 4) sc.nd rfl (by first | exact Or.inl rfl | exact Or.inr rfl)) (fun _ _ _ _ _ => dts_one (dt_cmp op_le opd_le (de_fn (ok_least_lot T) (b_least_lot T) (hr.mono (by decide)) (da_cons (de_nm (pv 0)) (da_cons (de_nm (pv 4)) da_nil))) (de_nm (pv 1)) (nomark _))) (fun _ _ _ _ _ => (de_nm (pv 4))))
    (dss_cons (ds_setF (i := 3) sc.nd rfl (by first | exact Or.inl rfl | exact Or.inr rfl) (df_lst da_nil))
    (dss_cons (ds_for PassesOwn.never rfl (sr_e (de_nm (pv 2))) (dg_name (i := 4) sc.nd rfl (by first | exact Or.inl rfl | exact Or.inr rfl))
      (dss_one (ds_if (dt_not (dt_val (de_callB (cr_any rfl) calld_any rfl T.n_any (by decide +kernel) (da_cons (de_fr (df_lc (own := [("other", 5)]) (vs := [5]) rfl rfl sc.nd (sr_e (de_nm (pv 2))) (blkOk_by (own := [("other", 5)]) (N := ["want", "k", "rows", "found", "row", "other", "one"]) (sc := defScope s_kept_with) (by decide +kernel)) (gok_nm (i := 5) (by decide)) (fun _ _ _ _ _ => pg_name (i := 5) sc.nd rfl (by first | exact Or.inl rfl | exact Or.inr rfl)) (fun _ _ _ _ _ => dts_nil) (fun _ _ _ _ _ => (de_and (de_cmp op_gt opd_gt (de_callBv call_lenAll calld_len rfl T.n_len (by decide +kernel) (pv 5)) (de_callBv call_lenAll calld_len rfl T.n_len (by decide +kernel) (pv 4)) (nomark _)) (de_one (de_callB (cr_all rfl) calld_all rfl T.n_all (by decide +kernel) (da_cons (de_fr (df_lc (own := [("one", 6)]) (vs := [6]) rfl rfl sc.nd (sr_e (de_nm (pv 4))) (blkOk_by (own := [("one", 6)]) (by rfl)) (gok_nm (i := 6) (by decide)) (fun _ _ _ _ _ => pg_name (i := 6) sc.nd rfl (by first | exact Or.inl rfl | exact Or.inr rfl)) (fun _ _ _ _ _ => dts_nil) (fun _ _ _ _ _ => (de_cmpv (op_inAll (room65 hr)) opd_in (pv 6) (de_nm (pv 5)) (by rfl))))) da_nil))))))) da_nil))))
        (dss_one (ds_expr (de_append (pv 3) (de_nm (pv 4)))))
        dss_nil)))
    (dss_one (ds_ret (de_callTyv call_tuple_of calld_tuple rfl T.n_tuple (by decide +kernel) (pv 3)))))))) ?_

  rintro xs Q hl ⟨w, k, rfl, ok, h⟩
  rw [show startD ["want", "k", "rows", "found", "row", "other", "one"] (List.map SV.sh [.obj A.C_Want (wF w), .int k]) = ([some (.sh (.obj A.C_Want (wF w))), some (.sh (.int k)), none, none, none, none, none] : DS) from rfl]
  apply sq
  dsimp only [dLc, sRaise, sTry, dCallX, dMakeX, dXat, sRet, sRetN, sIf, sDrop, sSet, sSetF, sAug, sAsg, sPar, sPar3, sFldI, sSetIx, sBreak, sCont, sNext, gNm, gTp, gsCons, gsNil, fSub, fDiv, fMod, fPow, fLt, fLe, fGt, fGe, fEq, fNe, cAbs, cMax, cMin, dVar, dC, dOp, dOpv, dPk, dTest, dAnd, dOr, dNot, dAndV, dOrV, dNotV, dIf, dIsN, dNotN, DL.isNon, fIsB, fI, fI0, fAdd, fMul, fEqG, fIx, dNil, dCons, dTup, dLst, dLstF, dListF, dSh, dCB, dCBv, cI1, cI2, cInt, cStr, cLen, cTuple, cList, cAll, cAny, cSum, dIsi, dIsi2, tyn_non, isd_non_int, isd_non_bool, isd_non_str, isd_non_tuple, isd_non_list, tyn_bl, isd_bl_int, isd_bl_bool, isd_bl_str, isd_bl_tuple, isd_bl_list, tyn_int, isd_int_int, isd_int_bool, isd_int_str, isd_int_tuple, isd_int_list, tyn_str, isd_str_int, isd_str_bool, isd_str_str, isd_str_tuple, isd_str_list, tyn_tup, isd_tup_int, isd_tup_bool, isd_tup_str, isd_tup_tuple, isd_tup_list, tyn_lst, isd_lst_int, isd_lst_bool, isd_lst_str, isd_lst_tuple, isd_lst_list, tyn_frz, isd_frz_int, isd_frz_bool, isd_frz_str, isd_frz_tuple, isd_frz_list, itT, itF, itNT, itNF, id, dFld, dFldI, dNoPart, dPart, dSl, dRevL, dNeg, dCall, dMake, isOw, dApp, dPop0, dPopAt, vNil, vCons, vConsF, srcE, srcR1, srcR2, srcEnum, dYes, lcTurn, cNm, cTp, setAllD, wipeD, startD, dChain, SV.data, enumD, at_1_0, at_1_m, at_2_0, at_2_1, at_2_m, at_3_0, at_3_1, at_3_2, at_3_m, at_4_0, at_4_1, at_4_2, at_4_3, at_4_m, at_5_0, at_5_1, at_5_2, at_5_3, at_5_4, at_5_m, at_6_0, at_6_1, at_6_2, at_6_3, at_6_4, at_6_5, at_6_m, at_7_0, at_7_1, at_7_2, at_7_3, at_7_4, at_7_5, at_7_6, at_7_m, List.map_cons, List.map_nil, List.length_cons, List.length_nil, List.getElem?_cons_zero, List.getElem?_cons_succ, List.set_cons_zero, List.set_cons_succ, List.replicate_zero, List.replicate_succ, List.cons_append, List.nil_append, Nat.reduceAdd, Nat.reduceSub, Nat.zero_add, Option.isSome_some, Option.isSome_none, Bool.not_true, Bool.not_false, Option.bind_some, c_all_promises, c_least_lot]
  refine ⟨rfl, rfl, lcA sortedL (fun b => if decide (lotI w b ≤ k) = true then some (prD b) else none), lcA0, fun j y acc hy hR => ?_, fun acc hR => ?_⟩
  · obtain ⟨b, he, rfl⟩ := map_at hy
    refine ⟨rfl, w, b, rfl, ok, ?_⟩
    refine ifB (fun q => ⟨rfl, lcAlt he hR (by decide), lcAs he hR (by rw [if_pos q])⟩) (fun q => ⟨rfl, lcAn he hR (by rw [if_neg (by rw [q]; exact Bool.false_ne_true)])⟩)
  have e := lcAe hR
  rw [fm_if] at e
  subst e
  clear hR
  unfold keptL topL at h
  have hlen := kept_len w k
  obtain ⟨l, hlE⟩ : ∃ l, l = sortedL.filter fun b => decide (lotI w b ≤ k) := ⟨_, rfl⟩
  rw [← hlE] at h hlen ⊢
  clear hlE
  apply sq
  walk_at "rs"
  refine ⟨Nat.zero_le _, ?_⟩
  apply sq
  dsimp only [sFor]
  try walk_at "z"
  refine ⟨fun n d => ∃ x4, d = [some (.sh (.obj A.C_Want (wF w))), some (.sh (.int k)), some (.sh (.lst (l.map prD))), some (.ow (((l.take n).filter (topB l)).map prD)), x4, none, none], ⟨_, rfl⟩, ?_, ?_⟩
  · rintro n y d hy ⟨x4, rfl⟩
    obtain ⟨a, ha, rfl⟩ := map_at hy
    try walk_at "z"
    refine ⟨lcA l (fun c => some (.bl (bigB a c))), lcA0, fun j y acc hy hR => ?_, fun acc hR => ?_⟩
    · obtain ⟨c, hc, rfl⟩ := map_at hy
      rw [len_pr, len_pr]
      show if decide (((psL a).length : Int) < ((psL c).length : Int)) = true then _ else _
      refine ifB (fun q => ?_) (fun q => ?_)
      · show ∃ R_1 : Nat → List D → Prop, R_1 0 [] ∧ (∀ (i : Nat) (y_1 : D) (acc : List D), ((psL a).map D.str)[i]? = some y_1 → _) ∧ _
        refine ⟨lcA (psL a) (fun p => some (.bl (inF (.str p) ((psL c).map D.str)))), lcA0, fun i y acc2 hy hR2 => ?_, fun acc2 hR2 => ?_⟩
        · obtain ⟨p, he, rfl⟩ := map_at hy
          refine in_flat (ys := (psL c).map D.str) rfl rfl (flat_strs _) ?_
          rw [Bool.false_bne]
          exact ⟨rfl, lcAlt he hR2 (by have := ps_len a; omega), lcAs he hR2 rfl⟩
        · obtain ⟨bs, rfl, hb⟩ := all_lc (lcAe (e := D.str) (as := psL a) hR2)
          refine ⟨bs, rfl, rfl, lcAlt hc hR (by omega), lcAs hc hR ?_⟩
          rw [hb, sub_all]
          unfold bigB
          rw [show decide ((psL a).length < (psL c).length) = true from decide_eq_true (by have := of_decide_eq_true q; omega)]
          rfl
      · refine ⟨rfl, lcAlt hc hR (by omega), lcAs hc hR ?_⟩
        unfold bigB
        rw [show decide ((psL a).length < (psL c).length) = false from decide_eq_false (by have := of_decide_eq_false q; omega)]
        rfl
    · obtain ⟨bs, rfl, hb⟩ := any_lc (lcAe hR)
      refine ⟨bs, rfl, ?_⟩
      rw [hb]
      have et : (l.take (n + 1)).filter (topB l) = (l.take n).filter (topB l) ++ (if topB l a = true then [a] else []) := by
        rw [List.take_succ, ha, List.filter_append]
        congr 1
        show List.filter (topB l) [a] = _
        rw [List.filter_cons]
        rfl
      have h32 : ((l.take n).filter (topB l)).length ≤ 32 := Nat.le_trans (List.length_filter_le _ _) (Nat.le_trans (by rw [List.length_take]; omega) hlen)
      refine ifB (fun q => ⟨szl (by rw [List.length_map]; omega), some (.sh (prD a)), ?_⟩) (fun q => ⟨some (.sh (prD a)), ?_⟩)
      · rw [et, if_pos (show topB l a = true from q), List.map_append]
        rfl
      · rw [et, if_neg (by rw [show topB l a = false from q]; decide), List.append_nil]
  · rintro d ⟨x4, rfl⟩
    try walk_at "Z"
    refine d_eq h ?_
    rw [List.take_of_length_le (by simp)]
theorem b_kept_with (T : Txt P K mg A) : Binds K A.d_kept_with ["want", "k"] [] := T.f_kept_with.fn.bindsN (ps := ["want", "k"]) fun _ _ _ _ _ _ us hl => match us, hl with | [_, _], _ => rfl

def piecesD (s u t n : Int) (lost : Bool) : D := if s < t then .non else .int (n * (if lost then s + 1 - t else s + u + 1 - t))

def c_most_pieces : DSp := fun xs Q => ∃ s u t n lost, xs = [.int s, .int u, .int t, .int n, .str (postS lost)] ∧ (0 ≤ s ∧ s ≤ 4 ∧ 0 ≤ u ∧ u ≤ 4 ∧ 0 ≤ t ∧ t ≤ 5 ∧ 1 ≤ n ∧ n ≤ 4) ∧ Q (piecesD s u t n lost)
theorem sc_most_pieces : FnScope ["s", "u", "t", "n", "post"] ["s", "u", "t", "n", "post"] (defScope s_most_pieces) := ⟨rfl, rfl, rfl, by decide +kernel, rfl, by decide +kernel, by decide +kernel⟩
set_option maxHeartbeats 16000000 in
theorem ok_most_pieces (T : Txt P K mg A) : DFn tk P w K mg base "most_pieces" 2 5 ["s", "u", "t", "n", "post"] A.f_most_pieces A.d_most_pieces c_most_pieces := by
  have sc := sc_most_pieces
  refine DFn.of (fun _ => True.intro) T.f_most_pieces sc rfl (fun cdv B outer s H E hr =>
    (dss_cons (ds_expr (de_fn (ok_need_post T) (b_need_post T) (hr.mono (by decide)) (da_cons (de_nm (pv 4)) da_nil)))
    (dss_cons (ds_if (dt_cmpv op_gt opd_gt (pv 2) (de_nm (pv 0)) (nomark _))
      (dss_one (ds_ret de_non))
      dss_nil)
    (dss_one (ds_ret (de_op op_mulAll opd_mul (de_nm (pv 3)) (de_ifExp (dt_cmpv (op_eqAll hr.units) opd_eq (pv 4) de_str (nomark _)) (de_op op_sub opd_sub (de_op op_addAll opd_add (de_nm (pv 0)) de_int) (de_nm (pv 2))) (de_op op_sub opd_sub (de_op op_addAll opd_add (de_op op_addAll opd_add (de_nm (pv 0)) (de_nm (pv 1))) de_int) (de_nm (pv 2)))))))))) ?_

  rintro xs Q hl ⟨s, u, t, n, lost, rfl, ⟨h1, h2, h3, h4, h5, h6, h7, h8⟩, h⟩
  unfold piecesD at h
  rw [show startD ["s", "u", "t", "n", "post"] (List.map SV.sh [.int s, .int u, .int t, .int n, .str (postS lost)]) = ([some (.sh (.int s)), some (.sh (.int u)), some (.sh (.int t)), some (.sh (.int n)), some (.sh (.str (postS lost)))] : DS) from rfl]
  apply sq
  dsimp only [dLc, sRaise, sTry, dCallX, dMakeX, dXat, sRet, sRetN, sIf, sDrop, sSet, sSetF, sAug, sAsg, sPar, sPar3, sFldI, sSetIx, sBreak, sCont, sNext, gNm, gTp, gsCons, gsNil, fSub, fDiv, fMod, fPow, fLt, fLe, fGt, fGe, fEq, fNe, cAbs, cMax, cMin, dVar, dC, dOp, dOpv, dPk, dTest, dAnd, dOr, dNot, dAndV, dOrV, dNotV, dIf, dIsN, dNotN, DL.isNon, fIsB, fI, fI0, fAdd, fMul, fEqG, fIx, dNil, dCons, dTup, dLst, dLstF, dListF, dSh, dCB, dCBv, cI1, cI2, cInt, cStr, cLen, cTuple, cList, cAll, cAny, cSum, dIsi, dIsi2, tyn_non, isd_non_int, isd_non_bool, isd_non_str, isd_non_tuple, isd_non_list, tyn_bl, isd_bl_int, isd_bl_bool, isd_bl_str, isd_bl_tuple, isd_bl_list, tyn_int, isd_int_int, isd_int_bool, isd_int_str, isd_int_tuple, isd_int_list, tyn_str, isd_str_int, isd_str_bool, isd_str_str, isd_str_tuple, isd_str_list, tyn_tup, isd_tup_int, isd_tup_bool, isd_tup_str, isd_tup_tuple, isd_tup_list, tyn_lst, isd_lst_int, isd_lst_bool, isd_lst_str, isd_lst_tuple, isd_lst_list, tyn_frz, isd_frz_int, isd_frz_bool, isd_frz_str, isd_frz_tuple, isd_frz_list, itT, itF, itNT, itNF, id, dFld, dFldI, dNoPart, dPart, dSl, dRevL, dNeg, dCall, dMake, isOw, dApp, dPop0, dPopAt, vNil, vCons, vConsF, srcE, srcR1, srcR2, srcEnum, dYes, lcTurn, cNm, cTp, setAllD, wipeD, startD, dChain, SV.data, enumD, at_1_0, at_1_m, at_2_0, at_2_1, at_2_m, at_3_0, at_3_1, at_3_2, at_3_m, at_4_0, at_4_1, at_4_2, at_4_3, at_4_m, at_5_0, at_5_1, at_5_2, at_5_3, at_5_4, at_5_m, at_6_0, at_6_1, at_6_2, at_6_3, at_6_4, at_6_5, at_6_m, at_7_0, at_7_1, at_7_2, at_7_3, at_7_4, at_7_5, at_7_6, at_7_m, List.map_cons, List.map_nil, List.length_cons, List.length_nil, List.getElem?_cons_zero, List.getElem?_cons_succ, List.set_cons_zero, List.set_cons_succ, List.replicate_zero, List.replicate_succ, List.cons_append, List.nil_append, Nat.reduceAdd, Nat.reduceSub, Nat.zero_add, Option.isSome_some, Option.isSome_none, Bool.not_true, Bool.not_false, Option.bind_some, c_need_post]
  refine ⟨rfl, lost, rfl, ?_⟩
  apply sq
  walk_at "rs"
  refine ifB (fun q => ?_) (fun q => ?_)
  · rw [if_pos (of_decide_eq_true q)] at h
    exact h
  · rw [if_neg (of_decide_eq_false q)] at h
    have q := of_decide_eq_false q
    cases lost
    · exact ifF (by decide +kernel) ⟨mul_ok (by omega) (by omega), h⟩
    · exact ifT (by decide +kernel) ⟨mul_ok (by omega) (by omega), h⟩
theorem b_most_pieces (T : Txt P K mg A) : Binds K A.d_most_pieces ["s", "u", "t", "n", "post"] [] := T.f_most_pieces.fn.bindsN (ps := ["s", "u", "t", "n", "post"]) fun _ _ _ _ _ _ us hl => match us, hl with | [_, _, _, _, _], _ => rfl

def rowD (w : Wt) : D := .tup [.int w.k, .int w.s, .int w.u, .int w.t, .tup (w.ks.map kdD), .str (postS w.lost)]

def c__law_want : DSp := fun xs Q => ∃ a b, xs = [.tok a b, .int 7] ∧ ∀ w : Wt, w.ok → Q (rowD w)
theorem sc__law_want : FnScope ["heap", "most", "k", "kinds", "at"] ["heap", "most"] (defScope s__law_want) := ⟨rfl, rfl, rfl, by decide +kernel, rfl, by decide +kernel, by decide +kernel⟩
set_option maxHeartbeats 16000000 in
theorem ok__law_want (T : Txt P K mg A) : DFn tk P w K mg base "_law_want" 3 2 ["heap", "most"] A.f__law_want A.d__law_want c__law_want := by
  have sc := sc__law_want
  refine DFn.of (fun _ => True.intro) T.f__law_want sc rfl (fun cdv B outer s H E hr =>
    (dss_cons (ds_set (i := 2) sc.nd rfl (by first | exact Or.inl rfl | exact Or.inr rfl) (de_op op_addAll opd_add de_int (de_fn (ok__law_draw T) (b__law_draw T) (hr.mono (by decide)) (da_cons (de_nm (pv 0)) (da_cons (de_op op_sub opd_sub (de_nm (pv 1)) de_int) da_nil)))))
    (dss_cons (ds_setF (i := 3) sc.nd rfl (by first | exact Or.inl rfl | exact Or.inr rfl) (df_lst da_nil))
    (dss_cons (ds_for PassesOwn.never rfl (sr_r1 rfl T.n_range (da_cons (de_fn (ok__law_pick T) (b__law_pick T) (hr.mono (by decide)) (da_cons (de_nm (pv 0)) (da_cons (de_tup (da_cons de_int (da_cons de_int (da_cons de_int (da_cons de_int (da_cons de_int da_nil)))))) da_nil))) da_nil)) (dg_name (i := 4) sc.nd rfl (by first | exact Or.inl rfl | exact Or.inr rfl))
      (dss_one (ds_expr (de_append (pv 3) (de_tup (da_cons (de_cmp (op_eqAll hr.units) opd_eq (de_fn (ok__law_draw T) (b__law_draw T) (hr.mono (by decide)) (da_cons (de_nm (pv 0)) (da_cons de_int da_nil))) de_int (nomark _)) (da_cons (de_op op_addAll opd_add de_int (de_fn (ok__law_draw T) (b__law_draw T) (hr.mono (by decide)) (da_cons (de_nm (pv 0)) (da_cons de_int da_nil)))) (da_cons (de_op op_addAll opd_add de_int (de_fn (ok__law_draw T) (b__law_draw T) (hr.mono (by decide)) (da_cons (de_nm (pv 0)) (da_cons de_int da_nil)))) da_nil))))))))
    (dss_one (ds_ret (de_tup (da_cons (de_nm (pv 2)) (da_cons (de_fn (ok__law_draw T) (b__law_draw T) (hr.mono (by decide)) (da_cons (de_nm (pv 0)) (da_cons (de_callB (call_min2 rfl) calld_min rfl T.n_min (by decide +kernel) (da_cons (de_nm (pv 2)) (da_cons de_int da_nil))) da_nil))) (da_cons (de_fn (ok__law_draw T) (b__law_draw T) (hr.mono (by decide)) (da_cons (de_nm (pv 0)) (da_cons (de_callB (call_min2 rfl) calld_min rfl T.n_min (by decide +kernel) (da_cons (de_nm (pv 2)) (da_cons de_int da_nil))) da_nil))) (da_cons (de_fn (ok__law_draw T) (b__law_draw T) (hr.mono (by decide)) (da_cons (de_nm (pv 0)) (da_cons de_int da_nil))) (da_cons (de_callTyv call_tuple_of calld_tuple rfl T.n_tuple (by decide +kernel) (pv 3)) (da_cons (de_fn (ok__law_pick T) (b__law_pick T) (hr.mono (by decide)) (da_cons (de_nm (pv 0)) (da_cons (de_tup (da_cons de_str (da_cons de_str da_nil))) da_nil))) da_nil))))))))))))) ?_

  rintro xs Q hl ⟨a, b, rfl, h⟩
  rw [show startD ["heap", "most", "k", "kinds", "at"] (List.map SV.sh [.tok a b, .int 7]) = ([some (.sh (.tok a b)), some (.sh (.int 7)), none, none, none] : DS) from rfl]
  apply sq
  dsimp only [dLc, sRaise, sTry, dCallX, dMakeX, dXat, sRet, sRetN, sIf, sDrop, sSet, sSetF, sAug, sAsg, sPar, sPar3, sFldI, sSetIx, sBreak, sCont, sNext, gNm, gTp, gsCons, gsNil, fSub, fDiv, fMod, fPow, fLt, fLe, fGt, fGe, fEq, fNe, cAbs, cMax, cMin, dVar, dC, dOp, dOpv, dPk, dTest, dAnd, dOr, dNot, dAndV, dOrV, dNotV, dIf, dIsN, dNotN, DL.isNon, fIsB, fI, fI0, fAdd, fMul, fEqG, fIx, dNil, dCons, dTup, dLst, dLstF, dListF, dSh, dCB, dCBv, cI1, cI2, cInt, cStr, cLen, cTuple, cList, cAll, cAny, cSum, dIsi, dIsi2, tyn_non, isd_non_int, isd_non_bool, isd_non_str, isd_non_tuple, isd_non_list, tyn_bl, isd_bl_int, isd_bl_bool, isd_bl_str, isd_bl_tuple, isd_bl_list, tyn_int, isd_int_int, isd_int_bool, isd_int_str, isd_int_tuple, isd_int_list, tyn_str, isd_str_int, isd_str_bool, isd_str_str, isd_str_tuple, isd_str_list, tyn_tup, isd_tup_int, isd_tup_bool, isd_tup_str, isd_tup_tuple, isd_tup_list, tyn_lst, isd_lst_int, isd_lst_bool, isd_lst_str, isd_lst_tuple, isd_lst_list, tyn_frz, isd_frz_int, isd_frz_bool, isd_frz_str, isd_frz_tuple, isd_frz_list, itT, itF, itNT, itNF, id, dFld, dFldI, dNoPart, dPart, dSl, dRevL, dNeg, dCall, dMake, isOw, dApp, dPop0, dPopAt, vNil, vCons, vConsF, srcE, srcR1, srcR2, srcEnum, dYes, lcTurn, cNm, cTp, setAllD, wipeD, startD, dChain, SV.data, enumD, at_1_0, at_1_m, at_2_0, at_2_1, at_2_m, at_3_0, at_3_1, at_3_2, at_3_m, at_4_0, at_4_1, at_4_2, at_4_3, at_4_m, at_5_0, at_5_1, at_5_2, at_5_3, at_5_4, at_5_m, at_6_0, at_6_1, at_6_2, at_6_3, at_6_4, at_6_5, at_6_m, at_7_0, at_7_1, at_7_2, at_7_3, at_7_4, at_7_5, at_7_6, at_7_m, List.map_cons, List.map_nil, List.length_cons, List.length_nil, List.getElem?_cons_zero, List.getElem?_cons_succ, List.set_cons_zero, List.set_cons_succ, List.replicate_zero, List.replicate_succ, List.cons_append, List.nil_append, Nat.reduceAdd, Nat.reduceSub, Nat.zero_add, Option.isSome_some, Option.isSome_none, Bool.not_true, Bool.not_false, Option.bind_some, cDraw]
  refine ⟨rfl, ⟨by omega, by omega⟩, fun r r0 r1 => ?_⟩
  obtain ⟨k, hk⟩ : ∃ k, 2 + r = k := ⟨_, rfl⟩
  rw [hk]
  apply sq
  walk_at "rs"
  refine ⟨Nat.zero_le _, ?_⟩
  apply sq
  dsimp only [sFor]
  try walk_at "z"
  refine ⟨sz (by decide), rfl, ⟨by decide, by decide⟩, fun y hy => ?_⟩
  obtain ⟨j, rfl, j0, j3⟩ : ∃ j : Int, y = .int j ∧ 0 ≤ j ∧ j ≤ 3 := by
    simp only [List.mem_cons, List.not_mem_nil, or_false] at hy
    rcases hy with rfl | rfl | rfl | rfl | rfl
    all_goals exact ⟨_, rfl, by decide, by decide⟩
  try walk_at "z"
  refine ⟨⟨by omega, by omega⟩, fun n d => ∃ (ks : List Kd) (x4 : Option SV), d = [some (.sh (.tok a b)), some (.sh (.int 7)), some (.sh (.int k)), some (.ow (ks.map kdD)), x4] ∧ ks.length = n ∧ ∀ kd ∈ ks, kd.ok, ⟨[], _, rfl, rfl, fun _ q => by cases q⟩, ?_, ?_⟩
  · rintro i y d hy ⟨ks, x4, rfl, hks, hok⟩
    obtain ⟨hi, rfl⟩ := rngD_at hy
    try walk_at "z"
    try dsimp only [cDraw]
    refine ⟨rfl, ⟨by decide, by decide⟩, fun q1 a1 b1 => ?_⟩
    try walk_at "z"
    try dsimp only [cDraw]
    refine ⟨rfl, ⟨by decide, by decide⟩, fun q2 a2 b2 => ?_⟩
    try walk_at "z"
    try dsimp only [cDraw]
    refine ⟨rfl, ⟨by decide, by decide⟩, fun q3 a3 b3 => ?_⟩
    try walk_at "z"
    refine ⟨sz (by decide), szl (by rw [List.length_map]; omega), ks ++ [⟨decide (q1 = 0), 1 + q2, 1 + q3⟩], _, by rw [List.map_append]; rfl, by rw [List.length_append, hks]; rfl, fun kd hkd => ?_⟩
    rcases List.mem_append.mp hkd with hkd | hkd
    · exact hok kd hkd
    · obtain rfl := List.mem_singleton.mp hkd
      exact ⟨by show 1 ≤ 1 + q2; omega, by show 1 + q2 ≤ 3; omega, by show 1 ≤ 1 + q3; omega, by show 1 + q3 ≤ 3; omega⟩
  · rintro d ⟨ks, x4, rfl, hks, hok⟩
    rw [rngD_len] at hks
    have hj : ks.length ≤ 3 := by omega
    try walk_at "z"
    try dsimp only [cDraw]
    refine ⟨rfl, ⟨by split <;> omega, by split <;> omega⟩, fun s s0 s1 => ?_⟩
    try walk_at "z"
    try dsimp only [cDraw]
    refine ⟨rfl, ⟨by split <;> omega, by split <;> omega⟩, fun u u0 u1 => ?_⟩
    try walk_at "z"
    try dsimp only [cDraw]
    refine ⟨rfl, ⟨by omega, by omega⟩, fun t t0 t1 => ?_⟩
    try walk_at "z"
    refine ⟨sz (by decide), rfl, ⟨by decide, by decide⟩, fun y hy => ?_⟩
    obtain ⟨lost, rfl⟩ : ∃ lost, y = .str (postS lost) := by
      simp only [List.mem_cons, List.not_mem_nil, or_false] at hy
      rcases hy with rfl | rfl
      · exact ⟨true, rfl⟩
      · exact ⟨false, rfl⟩
    refine ⟨sz (by decide), h ⟨k, s, u, t, ks, lost⟩ ?_⟩
    have s2 : s < k ∧ s ≤ 3 := by split at s1 <;> omega
    have u2 : u < k ∧ u ≤ 3 := by split at u1 <;> omega
    exact ⟨by show 2 ≤ k; omega, by show k ≤ 7; omega, s0, s2.1, s2.2, u0, u2.1, u2.2, t0, by show t ≤ 3; omega, hj, hok⟩
theorem b__law_want (T : Txt P K mg A) : Binds K A.d__law_want ["heap", "most"] [] := T.f__law_want.fn.bindsN (ps := ["heap", "most"]) fun _ _ _ _ _ _ us hl => match us, hl with | [_, _], _ => rfl


def c__law_holds_story : DSp := fun xs Q => ∃ k w b, xs = [.int k, rowD w, prD b] ∧ (1 ≤ k ∧ k ≤ 100 ∧ w.ok) ∧ Q (.bl (decide (storyI w b ≤ k)))
theorem sc__law_holds_story : FnScope ["k", "row", "promises", "side"] ["k", "row", "promises"] (defScope s__law_holds_story) := ⟨rfl, rfl, rfl, by decide +kernel, rfl, by decide +kernel, by decide +kernel⟩
set_option maxHeartbeats 16000000 in
theorem ok__law_holds_story (T : Txt P K mg A) : DFn tk P w K mg base "_law_holds_story" 1 3 ["k", "row", "promises"] A.f__law_holds_story A.d__law_holds_story c__law_holds_story := by
  have sc := sc__law_holds_story
  refine DFn.of (fun _ => True.intro) T.f__law_holds_story sc rfl (fun cdv B outer s H E hr =>
    (dss_cons (ds_set (i := 3) sc.nd rfl (by first | exact Or.inl rfl | exact Or.inr rfl) (de_op op_sub opd_sub (de_nm (pv 0)) (de_ifExp (dt_cmp (op_inAll (room65 hr)) opd_in de_str (de_nm (pv 2)) (by rfl)) (de_ixv ix_seq opd_ix (pv 1) de_int) de_int)))
    (dss_one (ds_ret (de_ifExp (dt_cmp (op_inAll (room65 hr)) opd_in de_str (de_nm (pv 2)) (by rfl)) (de_and (de_cmpv op_ge opd_ge (pv 3) de_int (nomark _)) (de_one (de_cmp op_gt opd_gt (de_op op_sub opd_sub (de_op op_mulAll opd_mul de_int (de_nm (pv 3))) (de_nm (pv 0))) (de_ixv ix_seq opd_ix (pv 1) de_int) (nomark _)))) de_bl))))) ?_

  rintro xs Q hl ⟨k, w, b, rfl, ⟨k1, k2, ok⟩, h⟩
  have hw := wait_b ok b
  have ⟨_, _, s0, sk, s3, u0, uk, u3, t0, t3, kl, _⟩ := ok
  unfold rowD
  rw [show startD ["k", "row", "promises", "side"] (List.map SV.sh [.int k, .tup [.int w.k, .int w.s, .int w.u, .int w.t, .tup (w.ks.map kdD), .str (postS w.lost)], prD b]) = ([some (.sh (.int k)), some (.sh (.tup [.int w.k, .int w.s, .int w.u, .int w.t, .tup (w.ks.map kdD), .str (postS w.lost)])), some (.sh (prD b)), none] : DS) from rfl]
  apply sq
  walk_at "rs"
  unfold storyI waitI at h
  refine inp_ b (in_e b) (fun q1 => ?_) (fun q1 => ?_)
  all_goals dsimp only
  case' refine_1 => refine ifT rfl ?_
  case' refine_2 => refine ifF rfl ?_
  all_goals refine inp_ b (in_t b) (fun q2 => ?_) (fun q2 => ?_)
  all_goals rw [q1, q2] at h
  all_goals dsimp only
  case refine_1.refine_1 | refine_2.refine_1 =>
    refine ifT rfl (ifB (fun q => ⟨mul_ok (by omega) (by omega), bl_eq h ?_⟩) (fun q => bl_eq h ?_))
    · have q := of_decide_eq_true q
      simp
      omega
    · have q := of_decide_eq_false q
      simp
      omega
  case refine_1.refine_2 | refine_2.refine_2 =>
    refine ifF rfl (bl_eq h ?_)
    simp
    omega
theorem b__law_holds_story (T : Txt P K mg A) : Binds K A.d__law_holds_story ["k", "row", "promises"] [] := T.f__law_holds_story.fn.bindsN (ps := ["k", "row", "promises"]) fun _ _ _ _ _ _ us hl => match us, hl with | [_, _, _], _ => rfl

theorem kind_math {k W u S m R : Int} (lost : Bool) (hS : 0 ≤ S) (hu : 0 ≤ u) (m1 : 1 ≤ m) (m3 : m ≤ 3) (r1 : 1 ≤ R) (r3 : R ≤ 3) : (decide (S < k - W - u) && decide (m ≤ (k - W - (if lost then u else 0) - S) * R)) = decide ((if lost then W + u + partsI S m R else W + max (u + S + 1) (partsI S m R)) ≤ k) := by
  unfold partsI
  rw [← Bool.decide_and]
  refine decide_eq_decide.mpr ?_
  obtain rfl | rfl | rfl : R = 1 ∨ R = 2 ∨ R = 3 := by omega
  all_goals
    cases lost
    · rw [if_neg (by decide), if_neg (by decide)]
      omega
    · rw [if_pos rfl, if_pos rfl]
      omega

def c__law_holds_kind : DSp := fun xs Q => ∃ k w kd b, xs = [.int k, rowD w, kdD kd, prD b] ∧ (1 ≤ k ∧ k ≤ 100 ∧ w.ok ∧ kd.ok) ∧ Q (.bl (decide (kindI w kd b ≤ k)))
theorem sc__law_holds_kind : FnScope ["k", "row", "kind", "promises", "waits", "seen", "room", "early", "rest"] ["k", "row", "kind", "promises"] (defScope s__law_holds_kind) := ⟨rfl, rfl, rfl, by decide +kernel, rfl, by decide +kernel, by decide +kernel⟩
set_option maxHeartbeats 16000000 in
theorem ok__law_holds_kind (T : Txt P K mg A) : DFn tk P w K mg base "_law_holds_kind" 1 4 ["k", "row", "kind", "promises"] A.f__law_holds_kind A.d__law_holds_kind c__law_holds_kind := by
  have sc := sc__law_holds_kind
  refine DFn.of (fun _ => True.intro) T.f__law_holds_kind sc rfl (fun cdv B outer s H E hr =>
    (dss_cons (ds_if (dt_cmp (op_notInAll (room65 hr)) opd_notIn de_str (de_nm (pv 3)) (by rfl))
      (dss_one (ds_ret de_bl))
      dss_nil)
    (dss_cons (ds_par (i := 4) (j := 5) rfl sc.nd rfl rfl (by decide) rfl rfl (dv_cons (de_ifExp (dt_cmp (op_inAll (room65 hr)) opd_in de_str (de_nm (pv 3)) (by rfl)) (de_ixv ix_seq opd_ix (pv 1) de_int) de_int) (dv_cons (de_ifExp (dt_w (dw_and (dt_val (de_ixv ix_seq opd_ix (pv 2) de_int)) (dw_and1 (dt_cmp (op_inAll (room65 hr)) opd_in de_str (de_nm (pv 3)) (by rfl))))) (de_ixv ix_seq opd_ix (pv 1) de_int) de_int) dv_nil)) (by rfl))
    (dss_cons (ds_set (i := 6) sc.nd rfl (by first | exact Or.inl rfl | exact Or.inr rfl) (de_ifExp (dt_cmp (op_inAll (room65 hr)) opd_in de_str (de_nm (pv 3)) (by rfl)) (de_callB (call_min2 rfl) calld_min rfl T.n_min (by decide +kernel) (da_cons (de_ixv ix_seq opd_ix (pv 2) de_int) (da_cons (de_ixv ix_seq opd_ix (pv 2) de_int) da_nil))) (de_ixv ix_seq opd_ix (pv 2) de_int)))
    (dss_cons (ds_par (i := 7) (j := 8) rfl sc.nd rfl rfl (by decide) rfl rfl (dv_cons (de_op op_sub opd_sub (de_op op_sub opd_sub (de_nm (pv 0)) (de_nm (pv 4))) (de_ixv ix_seq opd_ix (pv 1) de_int)) (dv_cons (de_op op_sub opd_sub (de_op op_sub opd_sub (de_nm (pv 0)) (de_nm (pv 4))) (de_ifExp (dt_cmp (op_eqAll hr.units) opd_eq (de_ixv ix_seq opd_ix (pv 1) de_int) de_str (nomark _)) (de_ixv ix_seq opd_ix (pv 1) de_int) de_int)) dv_nil)) (by rfl))
    (dss_one (ds_ret (de_and (de_cmpv op_gt opd_gt (pv 7) (de_nm (pv 5)) (nomark _)) (de_one (de_cmp op_ge opd_ge (de_op op_mulAll opd_mul (de_op op_sub opd_sub (de_nm (pv 8)) (de_nm (pv 5))) (de_nm (pv 6))) (de_ixv ix_seq opd_ix (pv 2) de_int) (nomark _))))))))))) ?_

  rintro xs Q hl ⟨k, w, kd, b, rfl, ⟨k1, k2, ok, kk⟩, h⟩
  have hw := wait_b ok b
  have hs := seen_b ok kd b
  have hr' := room_b kk b
  have ⟨m1, m3, n1, n3⟩ := kk
  have ⟨_, _, s0, sk, s3, u0, uk, u3, t0, t3, kl, _⟩ := ok
  unfold rowD
  rw [show kdD kd = .tup [.bl kd.x, .int kd.m, .int kd.n] from rfl]
  rw [show startD ["k", "row", "kind", "promises", "waits", "seen", "room", "early", "rest"] (List.map SV.sh [.int k, .tup [.int w.k, .int w.s, .int w.u, .int w.t, .tup (w.ks.map kdD), .str (postS w.lost)], .tup [.bl kd.x, .int kd.m, .int kd.n], prD b]) = ([some (.sh (.int k)), some (.sh (.tup [.int w.k, .int w.s, .int w.u, .int w.t, .tup (w.ks.map kdD), .str (postS w.lost)])), some (.sh (.tup [.bl kd.x, .int kd.m, .int kd.n])), some (.sh (prD b)), none, none, none, none, none] : DS) from rfl]
  apply sq
  try walk_at "z"
  refine inn_ b (in_h b) (fun q => ?_) (fun q => ?_)
  case refine_2 =>
    try walk_at "z"
    unfold kindI at h
    rw [if_neg (by rw [q]; decide), decide_eq_true k1] at h
    exact h
  unfold kindI at h
  rw [if_pos q] at h
  try walk_at "z"
  refine sqJ (fun d => d = [some (.sh (.int k)), some (.sh (.tup [.int w.k, .int w.s, .int w.u, .int w.t, .tup (w.ks.map kdD), .str (postS w.lost)])), some (.sh (.tup [.bl kd.x, .int kd.m, .int kd.n])), some (.sh (prD b)), some (.sh (.int (waitI w b))), some (.sh (.int (seenI w kd b))), none, none, none]) ?_ (fun hr => ?_)
  rotate_left
  · try walk_at "z"
    unfold waitI seenI at hr
    refine inp_ b (in_e b) (fun q1 => ?_) (fun q1 => ?_)
    all_goals rw [q1] at hr
    all_goals try walk_at "z"
    all_goals
      cases hx : kd.x
      · rw [hx] at hr
        exact hr _ rfl
      · rw [hx] at hr
        try walk_at "z"
        refine inp_ b (in_n b) (fun q2 => ?_) (fun q2 => ?_)
        · rw [q2] at hr
          exact hr _ rfl
        · rw [q2] at hr
          exact hr _ rfl
  rintro d rfl
  refine sqJ (fun d => d = [some (.sh (.int k)), some (.sh (.tup [.int w.k, .int w.s, .int w.u, .int w.t, .tup (w.ks.map kdD), .str (postS w.lost)])), some (.sh (.tup [.bl kd.x, .int kd.m, .int kd.n])), some (.sh (prD b)), some (.sh (.int (waitI w b))), some (.sh (.int (seenI w kd b))), some (.sh (.int (roomI kd b))), none, none]) ?_ (fun hr => ?_)
  rotate_left
  · try walk_at "z"
    unfold roomI at hr
    refine inp_ b (in_m b) (fun q1 => ?_) (fun q1 => ?_)
    · rw [q1, if_pos rfl, ← min_if] at hr
      exact hr _ rfl
    · rw [q1, if_neg (by decide)] at hr
      exact hr _ rfl
  rintro d rfl
  rw [← kind_math (m := kd.m) w.lost hs.1 u0 m1 m3 hr'.1 hr'.2] at h
  apply sq
  try walk_at "z"
  cases hp : w.lost
  all_goals rw [hp] at h
  all_goals try walk_at "z"
  · refine ifF (by decide +kernel) (ifB (fun q1 => ?_) (fun q1 => ?_))
    · rw [q1, Bool.true_and] at h
      exact ⟨mul_ok (by omega) (by omega), h⟩
    · rw [q1, Bool.false_and] at h
      exact h
  · refine ifT (by decide +kernel) (ifB (fun q1 => ?_) (fun q1 => ?_))
    · rw [q1, Bool.true_and] at h
      exact ⟨mul_ok (by omega) (by omega), h⟩
    · rw [q1, Bool.false_and] at h
      exact h
theorem b__law_holds_kind (T : Txt P K mg A) : Binds K A.d__law_holds_kind ["k", "row", "kind", "promises"] [] := T.f__law_holds_kind.fn.bindsN (ps := ["k", "row", "kind", "promises"]) fun _ _ _ _ _ _ us hl => match us, hl with | [_, _, _, _], _ => rfl

theorem parts_b {w : Wt} (ok : w.ok) {kd : Kd} (kk : kd.ok) (b : B5) : 1 ≤ kindI w kd b ∧ kindI w kd b ≤ 20 := by
  have hw := wait_b ok b
  have hs := seen_b ok kd b
  have hr' := room_b kk b
  have ⟨m1, m3, n1, n3⟩ := kk
  have ⟨_, _, s0, sk, s3, u0, uk, u3, t0, t3, kl, _⟩ := ok
  have hp : seenI w kd b + 1 ≤ partsI (seenI w kd b) kd.m (roomI kd b) ∧ partsI (seenI w kd b) kd.m (roomI kd b) ≤ seenI w kd b + 3 := by
    unfold partsI
    obtain h | h | h : roomI kd b = 1 ∨ roomI kd b = 2 ∨ roomI kd b = 3 := by omega
    all_goals
      rw [h]
      omega
  unfold kindI
  split
  · split <;> omega
  · omega
theorem lot_b {w : Wt} (ok : w.ok) (b : B5) : 1 ≤ lotI w b ∧ lotI w b ≤ 20 := by
  have hw := wait_b ok b
  have ⟨_, _, s0, sk, s3, u0, uk, u3, t0, t3, kl, kk⟩ := ok
  have hst : 1 ≤ storyI w b ∧ storyI w b ≤ 20 := by
    unfold storyI
    split <;> omega
  obtain ⟨h1, h2, h3⟩ := foldr_max (storyI w b) (w.ks.map fun k => kindI w k b)
  unfold lotI
  refine ⟨by omega, ?_⟩
  rcases h3 with h3 | h3
  · rw [h3]
    exact hst.2
  · obtain ⟨kd, hk, e⟩ := List.mem_map.mp h3
    rw [← e]
    exact (parts_b ok (kk kd hk) b).2
theorem lot_le {w : Wt} (b : B5) (k : Int) : (decide (storyI w b ≤ k) && w.ks.all fun kd => decide (kindI w kd b ≤ k)) = decide (lotI w b ≤ k) := by
  obtain ⟨h1, h2, h3⟩ := foldr_max (storyI w b) (w.ks.map fun k => kindI w k b)
  rw [Bool.eq_iff_iff, Bool.and_eq_true_iff, List.all_eq_true, decide_eq_true_iff, decide_eq_true_iff]
  unfold lotI
  constructor
  · rintro ⟨q1, q2⟩
    rcases h3 with h3 | h3
    · rw [h3]
      exact q1
    · obtain ⟨kd, hk, e⟩ := List.mem_map.mp h3
      rw [← e]
      exact of_decide_eq_true (q2 kd hk)
  · intro q
    exact ⟨Int.le_trans h1 q, fun kd hk => decide_eq_true (Int.le_trans (h2 _ (List.mem_map.mpr ⟨kd, hk, rfl⟩)) q)⟩

def c__law_least : DSp := fun xs Q => ∃ w b, xs = [rowD w, prD b] ∧ w.ok ∧ Q (.int (lotI w b))
theorem sc__law_least : FnScope ["row", "promises", "k", "kind"] ["row", "promises"] (defScope s__law_least) := ⟨rfl, rfl, rfl, by decide +kernel, rfl, by decide +kernel, by decide +kernel⟩
set_option maxHeartbeats 16000000 in
theorem ok__law_least (T : Txt P K mg A) : DFn tk P w K mg base "_law_least" 2 2 ["row", "promises"] A.f__law_least A.d__law_least c__law_least := by
  have sc := sc__law_least
  refine DFn.of (fun _ => True.intro) T.f__law_least sc rfl (fun cdv B outer s H E hr =>
    (dss_cons (ds_set (i := 2) sc.nd rfl (by first | exact Or.inl rfl | exact Or.inr rfl) de_int)
    (dss_cons (ds_while PassesOwn.never (dt_w (dw_or (dt_not (dt_val (de_fn (ok__law_holds_story T) (b__law_holds_story T) (hr.mono (by decide)) (da_cons (de_nm (pv 2)) (da_cons (de_nm (pv 0)) (da_cons (de_nm (pv 1)) da_nil)))))) (dw_or1 (dt_not (dt_val (de_callB (cr_all rfl) calld_all rfl T.n_all (by decide +kernel) (da_cons (de_fr (df_lc (own := [("kind", 3)]) (vs := [3]) rfl rfl sc.nd (sr_e (de_ixv ix_seq opd_ix (pv 0) de_int)) (blkOk_by (own := [("kind", 3)]) (N := ["row", "promises", "k", "kind"]) (sc := defScope s__law_least) (by decide +kernel)) (gok_nm (i := 3) (by decide)) (fun _ _ _ _ _ => pg_name (i := 3) sc.nd rfl (by first | exact Or.inl rfl | exact Or.inr rfl)) (fun _ _ _ _ _ => dts_nil) (fun _ _ _ _ _ => (de_fn (ok__law_holds_kind T) (b__law_holds_kind T) (hr.mono (by decide)) (da_cons (de_nm (pv 2)) (da_cons (de_nm (pv 0)) (da_cons (de_nm (pv 3)) (da_cons (de_nm (pv 1)) da_nil)))))))) da_nil)))))))
      (dss_cons (ds_aug (i := 2) ip_add sc.nd rfl (by first | exact Or.inl rfl | exact Or.inr rfl) de_int)
      (dss_one (ds_if (dt_cmpv op_gt opd_gt (pv 2) de_int (nomark _))
        (dss_one (ds_ret (de_nm (pv 2))))
        dss_nil))))
    (dss_one (ds_ret (de_nm (pv 2))))))) ?_

  rintro xs Q hl ⟨w, b, rfl, ok, h⟩
  have hb := lot_b ok b
  have kl := ok.kl
  rw [show startD ["row", "promises", "k", "kind"] (List.map SV.sh [rowD w, prD b]) = ([some (.sh (rowD w)), some (.sh (prD b)), none, none] : DS) from rfl]
  apply sq
  try walk_at "z"
  apply sq
  dsimp only [sWhile]
  refine ⟨fun m d => ∃ k : Int, d = [some (.sh (rowD w)), some (.sh (prD b)), some (.sh (.int k)), none] ∧ 1 ≤ k ∧ k ≤ lotI w b ∧ m = (lotI w b - k).toNat, ⟨_, 1, rfl, by omega, by omega, rfl⟩, ?_⟩
  rintro m d ⟨k, rfl, l1, l2, rfl⟩
  have hle := lot_le (w := w) b k
  try walk_at "z"
  refine ⟨rfl, k, w, b, rfl, ⟨l1, by omega, ok⟩, ?_⟩
  try walk_at "z"
  refine ifB (fun q => ?_) (fun q => ?_)
  · have q' : decide (storyI w b ≤ k) = false := by simpa using q
    rw [q', Bool.false_and] at hle
    have hlt := of_decide_eq_false hle.symm
    try walk_at "Z"
    exact ifF (by simp; omega) ⟨_, by omega, k + 1, rfl, by omega, by omega, rfl⟩
  · have q' : decide (storyI w b ≤ k) = true := by simpa using q
    rw [q', Bool.true_and] at hle
    unfold rowD
    try walk_at "z"
    refine ⟨lcA w.ks (fun kd => some (.bl (decide (kindI w kd b ≤ k)))), lcA0, fun i y acc hy hR => ?_, fun acc hR => ?_⟩
    · obtain ⟨kd, he, rfl⟩ := map_at hy
      exact ⟨rfl, k, w, kd, b, rfl, ⟨l1, by omega, ok, ok.kk kd (List.mem_of_getElem? he)⟩, rfl, lcAlt he hR (by omega), lcAs he hR rfl⟩
    · obtain ⟨bs, rfl, hb2⟩ := all_lc (lcAe hR)
      refine ⟨bs, rfl, ?_⟩
      rw [hb2, hle]
      refine ifB (fun q => ?_) (fun q => ?_)
      · have hlt : ¬ lotI w b ≤ k := by simpa using q
        try walk_at "Z"
        exact ifF (by simp; omega) ⟨_, by omega, k + 1, rfl, by omega, by omega, rfl⟩
      · have hlt : lotI w b ≤ k := by simpa using q
        rw [show lotI w b = k by omega] at h
        exact h
theorem b__law_least (T : Txt P K mg A) : Binds K A.d__law_least ["row", "promises"] [] := T.f__law_least.fn.bindsN (ps := ["row", "promises"]) fun _ _ _ _ _ _ us hl => match us, hl with | [_, _], _ => rfl


def c__law_rows : DSp := fun xs Q => xs = [] ∧ Q (.lst ((rowsL 5).map prD))
theorem sc__law_rows : FnScope ["rows", "promise", "row"] [] (defScope s__law_rows) := ⟨rfl, rfl, rfl, by decide +kernel, rfl, by decide +kernel, by decide +kernel⟩
set_option maxHeartbeats 16000000 in
theorem ok__law_rows (T : Txt P K mg A) : DFn tk P w K mg base "_law_rows" 1 0 [] A.f__law_rows A.d__law_rows c__law_rows := by
  have sc := sc__law_rows
  refine DFn.of (fun _ => True.intro) T.f__law_rows sc rfl (fun cdv B outer s H E hr =>
    (dss_cons (ds_setF (i := 0) sc.nd rfl (by first | exact Or.inl rfl | exact Or.inr rfl) (df_lst (da_cons (de_tup da_nil) da_nil)))
    (dss_cons (ds_for PassesOwn.never rfl (sr_e (de_tup (da_cons de_str (da_cons de_str (da_cons de_str (da_cons de_str (da_cons de_str da_nil))))))) (dg_name (i := 1) sc.nd rfl (by first | exact Or.inl rfl | exact Or.inr rfl))
      (dss_one (ds_set (i := 0) sc.nd rfl (by first | exact Or.inl rfl | exact Or.inr rfl) (de_op op_addAll opd_add (de_nm (pv 0)) (de_fr (df_lc (own := [("row", 2)]) (vs := [2]) rfl rfl sc.nd (sr_e (de_nm (pv 0))) (blkOk_by (own := [("row", 2)]) (N := ["rows", "promise", "row"]) (sc := defScope s__law_rows) (by decide +kernel)) (gok_nm (i := 2) (by decide)) (fun _ _ _ _ _ => pg_name (i := 2) sc.nd rfl (by first | exact Or.inl rfl | exact Or.inr rfl)) (fun _ _ _ _ _ => dts_nil) (fun _ _ _ _ _ => (de_op op_addAll opd_add (de_nm (pv 2)) (de_tup (da_cons (de_nm (pv 1)) da_nil))))))))))
    (dss_one (ds_ret (de_nm (pv 0))))))) ?_

  rintro xs Q hl ⟨rfl, h⟩
  rw [show startD ["rows", "promise", "row"] (List.map SV.sh []) = ([none, none, none] : DS) from rfl]
  apply sq
  walk_at "rs"
  refine ⟨sz (by decide), sz (by decide), ?_⟩
  apply sq
  dsimp only [sFor]
  walk_at "rs"
  refine ⟨sz (by decide), fun n d => ∃ sv x1, d = [some sv, x1, none] ∧ (sv = .ow ((rowsL n).map prD) ∨ sv = .sh (.lst ((rowsL n).map prD))), ⟨_, _, rfl, .inl rfl⟩, ?_, ?_⟩
  · rintro n y d hy ⟨sv, x1, rfl, hsv⟩
    obtain ⟨i, he, rfl⟩ := map_at (as := List.range 5) (e := fun i => D.str (pN i)) hy
    obtain ⟨hn, rfl⟩ : n < 5 ∧ i = n := by
      obtain ⟨h1, h2⟩ := List.getElem?_eq_some_iff.mp he
      rw [List.length_range] at h1
      rw [List.getElem_range] at h2
      exact ⟨h1, h2.symm⟩
    have hlen := rows_len i (by omega)
    rcases hsv with rfl | rfl
    all_goals
      walk_at "rs"
      refine ⟨lcA (rowsL i) (fun b => some (prD (setB i b))), lcA0, fun j y acc hy hR => ?_, fun acc hR => ?_⟩
      · obtain ⟨b, hb, rfl⟩ := map_at hy
        have e : prD (setB i b) = .tup ((psL b).map D.str ++ [.str (pN i)]) := by
          unfold prD
          rw [set_ok i hn b (List.mem_of_getElem? hb), List.map_append]
          rfl
        have hb5 := ps_len b
        show 1 ≤ sizeLine ∧ (((psL b).map D.str).length + 1 ≤ sizeLine ∧ _ ∧ _ ∧ _)
        exact ⟨sz (by decide), sz (by rw [List.length_map]; omega), rfl, lcAlt hb hR (by omega), lcAs hb hR (by rw [e])⟩
      · have e := lcAe hR
        rw [fm_some] at e
        subst e
        refine ⟨sz (by rw [List.length_map, List.length_map]; omega), _, _, rfl, .inr ?_⟩
        show _ = SV.sh (.lst ((rowsL i ++ (rowsL i).map (setB i)).map prD))
        rw [List.map_append, List.map_map]
        rfl
  · rintro d ⟨sv, x1, rfl, hsv⟩
    rcases hsv with rfl | rfl
    all_goals
      walk_at "rs"
      exact h
theorem b__law_rows (T : Txt P K mg A) : Binds K A.d__law_rows [] [] := T.f__law_rows.fn.bindsN (ps := []) fun _ _ _ _ _ _ us hl => match us, hl with | [], _ => rfl

theorem cnt_ok {n : Int} {m : Nat} (hn : n = 1 ∨ n = 2 ∨ n = 3 ∨ n = 4) (hm : m < 80) : ((List.range m).filter fun a : Nat => decide ((a : Int) % n = 0)).length = (m + n.toNat - 1) / n.toNat := by
  have h : ∀ n : Int, ((List.range 80).all fun m => decide (((List.range m).filter fun a : Nat => decide ((a : Int) % n = 0)).length = (m + n.toNat - 1) / n.toNat)) = true → ((List.range m).filter fun a : Nat => decide ((a : Int) % n = 0)).length = (m + n.toNat - 1) / n.toNat := fun n h => of_decide_eq_true (List.all_eq_true.mp h m (List.mem_range.mpr hm))
  rcases hn with rfl | rfl | rfl | rfl
  all_goals exact h _ (by decide +kernel)

def c__law_pieces : DSp := fun xs Q => ∃ a b, xs = [.tok a b] ∧ Q (.bl true)
theorem sc__law_pieces : FnScope ["heap", "s", "u", "t", "n", "post", "lot", "fits", "m", "parts", "early", "rest", "at"] ["heap"] (defScope s__law_pieces) := ⟨rfl, rfl, rfl, by decide +kernel, rfl, by decide +kernel, by decide +kernel⟩
set_option maxHeartbeats 16000000 in
theorem ok__law_pieces (T : Txt P K mg A) : DFn tk P w K mg base "_law_pieces" 4 1 ["heap"] A.f__law_pieces A.d__law_pieces c__law_pieces := by
  have sc := sc__law_pieces
  refine DFn.of (fun _ => True.intro) T.f__law_pieces sc rfl (fun cdv B outer s H E hr =>
    (dss_cons (ds_asg (de_tup (da_cons (de_fn (ok__law_draw T) (b__law_draw T) (hr.mono (by decide)) (da_cons (de_nm (pv 0)) (da_cons de_int da_nil))) (da_cons (de_fn (ok__law_draw T) (b__law_draw T) (hr.mono (by decide)) (da_cons (de_nm (pv 0)) (da_cons de_int da_nil))) (da_cons (de_fn (ok__law_draw T) (b__law_draw T) (hr.mono (by decide)) (da_cons (de_nm (pv 0)) (da_cons de_int da_nil))) (da_cons (de_op op_addAll opd_add de_int (de_fn (ok__law_draw T) (b__law_draw T) (hr.mono (by decide)) (da_cons (de_nm (pv 0)) (da_cons de_int da_nil)))) da_nil))))) (dg_tup rfl (dgs_cons (dg_name (i := 1) sc.nd rfl (by first | exact Or.inl rfl | exact Or.inr rfl)) (dgs_cons (dg_name (i := 2) sc.nd rfl (by first | exact Or.inl rfl | exact Or.inr rfl)) (dgs_cons (dg_name (i := 3) sc.nd rfl (by first | exact Or.inl rfl | exact Or.inr rfl)) (dgs_cons (dg_name (i := 4) sc.nd rfl (by first | exact Or.inl rfl | exact Or.inr rfl)) dgs_nil)))) (GL.len (gl_cons gt_nm (gl_cons gt_nm (gl_cons gt_nm (gl_cons gt_nm gl_nil)))))))
    (dss_cons (ds_set (i := 5) sc.nd rfl (by first | exact Or.inl rfl | exact Or.inr rfl) (de_fn (ok__law_pick T) (b__law_pick T) (hr.mono (by decide)) (da_cons (de_nm (pv 0)) (da_cons (de_tup (da_cons de_str (da_cons de_str da_nil))) da_nil))))
    (dss_cons (ds_set (i := 6) sc.nd rfl (by first | exact Or.inl rfl | exact Or.inr rfl) (de_op op_addAll opd_add (de_op op_addAll opd_add (de_op op_mulAll opd_mul de_int (de_nm (pv 1))) (de_nm (pv 2))) de_int))
    (dss_cons (ds_setF (i := 7) sc.nd rfl (by first | exact Or.inl rfl | exact Or.inr rfl) (df_lst da_nil))
    (dss_cons (ds_for PassesOwn.never rfl (sr_r2 rfl T.n_range (da_cons de_int (da_cons de_int da_nil))) (dg_name (i := 8) sc.nd rfl (by first | exact Or.inl rfl | exact Or.inr rfl))
      (dss_cons (ds_set (i := 9) sc.nd rfl (by first | exact Or.inl rfl | exact Or.inr rfl) (de_callB call_lenAll calld_len rfl T.n_len (by decide +kernel) (da_cons (de_fr (df_lc (own := [("at", 12)]) (vs := [12]) rfl rfl sc.nd (sr_r1 rfl T.n_range (da_cons (de_nm (pv 8)) da_nil)) (blkOk_by (own := [("at", 12)]) (N := ["heap", "s", "u", "t", "n", "post", "lot", "fits", "m", "parts", "early", "rest", "at"]) (sc := defScope s__law_pieces) (by decide +kernel)) (gok_nm (i := 12) (by decide)) (fun _ _ _ _ _ => pg_name (i := 12) sc.nd rfl (by first | exact Or.inl rfl | exact Or.inr rfl)) (fun _ _ _ _ _ => dts_one (dt_cmp (op_eqAll hr.units) opd_eq (de_op op_mod opd_mod (de_callTy call_int1 calld_int rfl T.n_int (by decide +kernel) (da_cons (de_nm (pv 12)) da_nil)) (de_nm (pv 4))) de_int (nomark _))) (fun _ _ _ _ _ => (de_nm (pv 12))))) da_nil)))
      (dss_cons (ds_par (i := 10) (j := 11) rfl sc.nd rfl rfl (by decide) rfl rfl (dv_cons (de_op op_sub opd_sub (de_op op_sub opd_sub (de_nm (pv 6)) (de_nm (pv 1))) (de_nm (pv 2))) (dv_cons (de_op op_sub opd_sub (de_op op_sub opd_sub (de_nm (pv 6)) (de_nm (pv 1))) (de_ifExp (dt_cmpv (op_eqAll hr.units) opd_eq (pv 5) de_str (nomark _)) (de_nm (pv 2)) de_int)) dv_nil)) (by rfl))
      (dss_one (ds_if (dt_w (dw_and (dt_cmpv op_gt opd_gt (pv 10) (de_nm (pv 3)) (nomark _)) (dw_and1 (dt_cmp op_ge opd_ge (de_op op_sub opd_sub (de_nm (pv 11)) (de_nm (pv 3))) (de_nm (pv 9)) (nomark _)))))
        (dss_one (ds_expr (de_append (pv 7) (de_nm (pv 8)))))
        dss_nil)))))
    (dss_one (ds_ret (de_fn (ok__law_like T 3) (b__law_like T) (hr.mono (by decide)) (da_cons (de_fn (ok_most_pieces T) (b_most_pieces T) (hr.mono (by decide)) (da_cons (de_nm (pv 1)) (da_cons (de_nm (pv 2)) (da_cons (de_nm (pv 3)) (da_cons (de_nm (pv 4)) (da_cons (de_nm (pv 5)) da_nil)))))) (da_cons (de_ifExp (dt_cmpv (op_neAll hr.units) opd_ne (pv 7) (de_fr (df_lst da_nil)) (nomark _)) (de_ixv ix_seq opd_ix (pv 7) (de_neg de_int)) de_non) da_nil))))))))))) ?_

  rintro xs Q hl ⟨a, b, rfl, h⟩
  rw [show startD ["heap", "s", "u", "t", "n", "post", "lot", "fits", "m", "parts", "early", "rest", "at"] (List.map SV.sh [.tok a b]) = ([some (.sh (.tok a b)), none, none, none, none, none, none, none, none, none, none, none, none] : DS) from rfl]
  apply sq
  dsimp only [dLc, sRaise, sTry, dCallX, dMakeX, dXat, sRet, sRetN, sIf, sDrop, sSet, sSetF, sAug, sAsg, sPar, sPar3, sFldI, sSetIx, sBreak, sCont, sNext, gNm, gTp, gsCons, gsNil, fSub, fDiv, fMod, fPow, fLt, fLe, fGt, fGe, fEq, fNe, cAbs, cMax, cMin, dVar, dC, dOp, dOpv, dPk, dTest, dAnd, dOr, dNot, dAndV, dOrV, dNotV, dIf, dIsN, dNotN, DL.isNon, fIsB, fI, fI0, fAdd, fMul, fEqG, fIx, dNil, dCons, dTup, dLst, dLstF, dListF, dSh, dCB, dCBv, cI1, cI2, cInt, cStr, cLen, cTuple, cList, cAll, cAny, cSum, dIsi, dIsi2, tyn_non, isd_non_int, isd_non_bool, isd_non_str, isd_non_tuple, isd_non_list, tyn_bl, isd_bl_int, isd_bl_bool, isd_bl_str, isd_bl_tuple, isd_bl_list, tyn_int, isd_int_int, isd_int_bool, isd_int_str, isd_int_tuple, isd_int_list, tyn_str, isd_str_int, isd_str_bool, isd_str_str, isd_str_tuple, isd_str_list, tyn_tup, isd_tup_int, isd_tup_bool, isd_tup_str, isd_tup_tuple, isd_tup_list, tyn_lst, isd_lst_int, isd_lst_bool, isd_lst_str, isd_lst_tuple, isd_lst_list, tyn_frz, isd_frz_int, isd_frz_bool, isd_frz_str, isd_frz_tuple, isd_frz_list, itT, itF, itNT, itNF, id, dFld, dFldI, dNoPart, dPart, dSl, dRevL, dNeg, dCall, dMake, isOw, dApp, dPop0, dPopAt, vNil, vCons, vConsF, srcE, srcR1, srcR2, srcEnum, dYes, lcTurn, cNm, cTp, setAllD, wipeD, startD, dChain, SV.data, enumD, at_1_0, at_1_m, at_2_0, at_2_1, at_2_m, at_3_0, at_3_1, at_3_2, at_3_m, at_4_0, at_4_1, at_4_2, at_4_3, at_4_m, at_5_0, at_5_1, at_5_2, at_5_3, at_5_4, at_5_m, at_6_0, at_6_1, at_6_2, at_6_3, at_6_4, at_6_5, at_6_m, at_7_0, at_7_1, at_7_2, at_7_3, at_7_4, at_7_5, at_7_6, at_7_m, List.map_cons, List.map_nil, List.length_cons, List.length_nil, List.getElem?_cons_zero, List.getElem?_cons_succ, List.set_cons_zero, List.set_cons_succ, List.replicate_zero, List.replicate_succ, List.cons_append, List.nil_append, Nat.reduceAdd, Nat.reduceSub, Nat.zero_add, Option.isSome_some, Option.isSome_none, Bool.not_true, Bool.not_false, Option.bind_some, cDraw]
  refine ⟨rfl, ⟨by decide, by decide⟩, fun s s0 s1 => ⟨rfl, ⟨by decide, by decide⟩, fun u u0 u1 => ⟨rfl, ⟨by decide, by decide⟩, fun t' t0 t1 => ⟨rfl, ⟨by decide, by decide⟩, fun r n0 n1 => ⟨sz (by decide), ?_⟩⟩⟩⟩⟩
  obtain ⟨n, hn⟩ : ∃ n, 1 + r = n := ⟨_, rfl⟩
  rw [hn]
  apply sq
  try walk_at "z"
  refine ⟨sz (by decide), rfl, ⟨by decide, by decide⟩, fun y hy => ?_⟩
  obtain ⟨lost, rfl⟩ : ∃ lost, y = .str (postS lost) := by
    simp only [List.mem_cons, List.not_mem_nil, or_false] at hy
    rcases hy with rfl | rfl
    · exact ⟨true, rfl⟩
    · exact ⟨false, rfl⟩
  apply sq
  try walk_at "z"
  refine ⟨mul_ok (by omega) (by omega), ?_⟩
  apply sq
  try walk_at "z"
  refine ⟨Nat.zero_le _, ?_⟩
  apply sq
  dsimp only [sFor]
  try walk_at "z"
  obtain ⟨C, hC⟩ : ∃ C : Int, (if lost then s + 1 - t' else s + u + 1 - t') = C := ⟨_, rfl⟩
  have hC2 : lost = true ∧ C = s + 1 - t' ∨ lost = false ∧ C = s + u + 1 - t' := by
    cases lost
    · exact .inr ⟨rfl, hC.symm⟩
    · exact .inl ⟨rfl, hC.symm⟩
  obtain ⟨M, hM⟩ : ∃ M : Nat, (if s < t' then 0 else (n * C).toNat) = M := ⟨_, rfl⟩
  have hn4 : n = 1 ∨ n = 2 ∨ n = 3 ∨ n = 4 := by omega
  have hM2 : (s < t' ∧ M = 0) ∨ (t' ≤ s ∧ (M : Int) = n * C ∧ 1 ≤ M ∧ M ≤ 36) := by
    by_cases q : s < t'
    · rw [if_pos q] at hM
      exact .inl ⟨q, hM.symm⟩
    · rw [if_neg q] at hM
      refine .inr ⟨by omega, ?_⟩
      rcases hn4 with rfl | rfl | rfl | rfl <;> omega
  refine ⟨⟨by decide, by decide, by decide, by decide⟩, fun i d => ∃ x8 x9 x10 x11 : Option SV, d = [some (.sh (.tok a b)), some (.sh (.int s)), some (.sh (.int u)), some (.sh (.int t')), some (.sh (.int n)), some (.sh (.str (postS lost))), some (.sh (.int (2 * s + u + 1))), some (.ow (((List.range (min i M)).map fun j : Nat => (1 + j : Int)).map D.int)), x8, x9, x10, x11, none], ⟨_, _, _, _, by rw [Nat.zero_min]; rfl⟩, ?_, ?_⟩
  · rintro i y d hy ⟨x8, x9, x10, x11, rfl⟩
    obtain ⟨hi, rfl⟩ := rngD_at hy
    replace hi : i < 79 := hi
    try walk_at "z"
    apply sq
    try walk_at "z"
    refine ⟨⟨by omega, by omega⟩, lcA (List.range (1 + (i : Int)).toNat) (fun a : Nat => if decide ((a : Int) % n = 0) = true then some (.int a) else none), lcA0, fun j y acc hy hR => ?_, fun acc hR => ?_⟩
    · obtain ⟨he, hj, rfl⟩ := rng_at hy
      try walk_at "z"
      refine ⟨by omega, ifB (fun q => ⟨rfl, lcAlt he hR (by rw [List.length_range]; omega), lcAs he hR (by rw [if_pos q])⟩) (fun q => ⟨rfl, lcAn he hR (by rw [if_neg (nf q)])⟩)⟩
    · have e := lcAr hR
      rw [fm_if] at e
      have el : acc.length = (i + 1 + n.toNat - 1) / n.toNat := by
        rw [e, List.length_map, show (1 + (i : Int)).toNat = i + 1 by omega]
        exact cnt_ok hn4 (by omega)
      have hcond : (t' ≤ s ∧ (acc.length : Int) ≤ C) ↔ i < M := by
        rw [el]
        rcases hM2 with ⟨g1, g2⟩ | ⟨g1, g2, g3, g4⟩
        · constructor
          · rintro ⟨z, _⟩
            omega
          · intro z
            omega
        · rcases hn4 with rfl | rfl | rfl | rfl
          all_goals
            constructor
            · rintro ⟨_, z⟩
              simp at z
              omega
            · intro z
              refine ⟨g1, ?_⟩
              simp
              omega
      have fin : ∀ (b1 b2 : Bool) (X Y : Prop), (b1 = true ↔ t' ≤ s) → (b2 = true ↔ (acc.length : Int) ≤ C) → (i < M → X) → (M ≤ i → Y) → if b1 = true then (if b2 = true then X else Y) else Y := by
        intro b1 b2 X Y h1 h2 hX hY
        refine ifB (fun q1 => ifB (fun q2 => hX (hcond.mp ⟨h1.mp q1, h2.mp q2⟩)) fun q2 => hY ?_) fun q1 => hY ?_
        · have : ¬ i < M := fun z => by
            rw [h2.mpr (hcond.mpr z).2] at q2
            cases q2
          omega
        · have : ¬ i < M := fun z => by
            rw [h1.mpr (hcond.mpr z).1] at q1
            cases q1
          omega
      have hX : i < M → ((List.range (min i M)).map fun j : Nat => (1 + j : Int)).map D.int ++ [D.int (1 + i)] = ((List.range (min (i + 1) M)).map fun j : Nat => (1 + j : Int)).map D.int := fun z => by
        rw [show min i M = i by omega, show min (i + 1) M = i + 1 by omega, List.range_succ, List.map_append, List.map_append]
        rfl
      have hY : M ≤ i → min (i + 1) M = min i M := fun z => by omega
      apply sq
      try walk_at "z"
      cases hlost : lost
      · refine ifF (by decide +kernel) ?_
        try walk_at "z"
        have hCv : C = s + u + 1 - t' := by
          rcases hC2 with ⟨z, _⟩ | ⟨_, z⟩
          · rw [hlost] at z
            cases z
          · exact z
        refine fin _ _ _ _ (by rw [decide_eq_true_iff]; omega) (by rw [decide_eq_true_iff]; omega) (fun z => ⟨szl (by rw [List.length_map, List.length_map, List.length_range]; omega), _, _, _, _, by rw [hX z]⟩) (fun z => ⟨_, _, _, _, by rw [hY z]⟩)
      · refine ifT (by decide +kernel) ?_
        try walk_at "z"
        have hCv : C = s + 1 - t' := by
          rcases hC2 with ⟨_, z⟩ | ⟨z, _⟩
          · exact z
          · rw [hlost] at z
            cases z
        refine fin _ _ _ _ (by rw [decide_eq_true_iff]; omega) (by rw [decide_eq_true_iff]; omega) (fun z => ⟨szl (by rw [List.length_map, List.length_map, List.length_range]; omega), _, _, _, _, by rw [hX z]⟩) (fun z => ⟨_, _, _, _, by rw [hY z]⟩)
  · rintro d ⟨x8, x9, x10, x11, rfl⟩
    rw [rngD_len]
    try walk_at "z"
    refine ⟨rfl, s, u, t', n, lost, rfl, ⟨s0, by omega, u0, by omega, t0, by omega, by omega, by omega⟩, ?_⟩
    try walk_at "z"
    refine ⟨sz (by decide), eqG_ok (n := 1) (y := .lst []) (by decide) nb_ints rfl fun bb hb => ?_⟩
    try walk_at "z"
    rcases hM2 with ⟨g1, g2⟩ | ⟨g1, g2, g3, g4⟩
    · subst g2
      have hbb : bb = true := hb.mpr rfl
      rw [hbb]
      try walk_at "z"
      refine ⟨rfl, .non, ?_, rfl, h⟩
      unfold piecesD
      rw [if_pos g1]
    · obtain ⟨M', rfl⟩ : ∃ M', M = M' + 1 := ⟨M - 1, by omega⟩
      have hm : min (80 - 1 : Int).toNat (M' + 1) = M' + 1 := by
        have : (80 - 1 : Int).toNat = 79 := rfl
        omega
      rw [hm] at hb ⊢
      have hbb : bb = false := by
        cases bb
        · rfl
        · have z := hb.mp rfl
          rw [List.range_succ, List.map_append, List.map_append] at z
          injection z with z
          exact absurd z (by simp)
      rw [hbb]
      try walk_at "z"
      refine ix_l (atI_last (a := ((M' : Int) + 1)) (by rw [List.range_succ, List.map_append]; show (List.map _ _ ++ [_]).getLast? = _; rw [List.getLast?_concat, Int.add_comm])) ?_
      refine ⟨rfl, .int ((M' : Int) + 1), ?_, rfl, h⟩
      unfold piecesD
      rw [if_neg (by omega), hC, ← g2]
      rfl
theorem b__law_pieces (T : Txt P K mg A) : Binds K A.d__law_pieces ["heap"] [] := T.f__law_pieces.fn.bindsN (ps := ["heap"]) fun _ _ _ _ _ _ us hl => match us, hl with | [_], _ => rfl

theorem sub_len (a c : B5) : decide ((((psL a).filter fun p => inF (.str p) ((psL c).map D.str)).length : Int) = ((psL a).length : Int)) = subB a c := by
  revert a
  refine B5.all ?_
  revert c
  refine B5.all ?_
  decide +kernel
theorem topB_perm {l m : List B5} (h : l.Perm m) (a : B5) : topB l a = topB m a := by
  unfold topB
  rw [h.any_eq]
theorem long_perm (w : Wt) (k : Int) : (topL ((rowsL 5).filter fun b => decide (lotI w b ≤ k))).Perm (keptL w k) := by
  have h1 : ((rowsL 5).filter fun b => decide (lotI w b ≤ k)).Perm (sortedL.filter fun b => decide (lotI w b ≤ k)) := rows_perm.filter _
  unfold keptL topL
  rw [show topB ((rowsL 5).filter fun b => decide (lotI w b ≤ k)) = topB (sortedL.filter fun b => decide (lotI w b ≤ k)) from funext fun a => topB_perm h1 a]
  exact h1.filter _
theorem kept_lt (w : Wt) (k : Int) : (keptL w k).Pairwise fun a b => rk a < rk b := (sorted_lt.filter _).filter _
theorem rows_first (q : B5 → Bool) : (∀ b ∈ (rowsL 5).filter q, rk b ≠ 0) ∨ ∃ r, (rowsL 5).filter q = ⟨false, false, false, false, false⟩ :: r := by
  obtain ⟨tl, h1, h2⟩ : ∃ tl, rowsL 5 = ⟨false, false, false, false, false⟩ :: tl ∧ tl.all (fun b => rk b != 0) = true := ⟨(rowsL 5).tail, rfl, by decide +kernel⟩
  rw [h1, List.filter_cons]
  split
  · exact .inr ⟨_, rfl⟩
  · refine .inl fun b hb e => ?_
    have := List.all_eq_true.mp h2 b (List.mem_filter.mp hb).1
    rw [e] at this
    cases this
theorem long_first (w : Wt) (k : Int) : SortOk ((topL ((rowsL 5).filter fun b => decide (lotI w b ≤ k))).map prD) := by
  refine sort_rows ?_
  unfold topL
  rw [List.filter_filter]
  exact rows_first _
theorem pr_plain (b : B5) : plainD 2 (prD b) = true := by
  revert b
  exact B5.all (by decide +kernel)
theorem kept_len2 (w : Wt) (k : Int) : (keptL w k).length ≤ 32 := Nat.le_trans (List.length_filter_le _ _) (kept_len w k)
theorem kept_plain (w : Wt) (k : Int) : plainD 3 (.tup ((keptL w k).map prD)) = true := by
  unfold plainD
  rw [Bool.and_eq_true_iff]
  refine ⟨decide_eq_true (by rw [List.length_map]; exact Nat.lt_of_le_of_lt (kept_len2 w k) (by decide)), List.all_eq_true.mpr fun x hx => ?_⟩
  obtain ⟨b, _, rfl⟩ := List.mem_map.mp hx
  exact pr_plain b
def freeL (w : Wt) (n : Nat) : List D := ((List.range n).filter fun i => decide (worthI w i = 0)).map fun i => .str (pN i)
theorem free_plain (w : Wt) : plainD 3 (.tup (freeL w 5)) = true := by
  unfold plainD freeL
  rw [Bool.and_eq_true_iff]
  refine ⟨decide_eq_true (by rw [List.length_map]; exact Nat.lt_of_le_of_lt (List.length_filter_le _ _) (by decide)), List.all_eq_true.mpr fun x hx => ?_⟩
  obtain ⟨b, _, rfl⟩ := List.mem_map.mp hx
  rfl
def leD2 (w : Wt) (b : B5) : D := .tup [prD b, .int (lotI w b)]

def c_law : DSp := cLaw
theorem sc_law : FnScope ["script", "heap", "every", "turn", "row", "want", "least", "whole", "free", "promise", "others", "worth", "k", "kept", "longest", "promises", "one", "many", "other"] ["script"] (defScope s_law) := ⟨rfl, rfl, rfl, by decide +kernel, rfl, by decide +kernel, by decide +kernel⟩
set_option maxHeartbeats 16000000 in
theorem ok_law (T : Txt P K mg A) : DFn tk P w K mg base "law" 7 1 ["script"] A.f_law A.d_law c_law := by
  have sc := sc_law
  refine DFn.of (fun _ => True.intro) T.f_law sc rfl (fun cdv B outer s H E hr =>
    (dss_cons (ds_set (i := 1) sc.nd rfl (by first | exact Or.inl rfl | exact Or.inr rfl) (de_fn (ok__law_heap T) (b__law_heap T) (hr.mono (by decide)) (da_cons (de_nm (pv 0)) da_nil)))
    (dss_cons (ds_set (i := 2) sc.nd rfl (by first | exact Or.inl rfl | exact Or.inr rfl) (de_tup (da_cons de_str (da_cons de_str (da_cons de_str (da_cons de_str (da_cons de_str da_nil)))))))
    (dss_cons (ds_for PassesOwn.never rfl (sr_r1 rfl T.n_range (da_cons de_int da_nil)) (dg_name (i := 3) sc.nd rfl (by first | exact Or.inl rfl | exact Or.inr rfl))
      (dss_cons (ds_set (i := 4) sc.nd rfl (by first | exact Or.inl rfl | exact Or.inr rfl) (de_fn (ok__law_want T) (b__law_want T) (hr.mono (by decide)) (da_cons (de_nm (pv 1)) (da_cons de_int da_nil))))
      (dss_cons (ds_set (i := 5) sc.nd rfl (by first | exact Or.inl rfl | exact Or.inr rfl) (de_cl (ok_Want T) (b_Want T) (hr.mono (by decide)) (da_cons (de_ixv ix_seq opd_ix (pv 4) de_int) (da_cons (de_ixv ix_seq opd_ix (pv 4) de_int) (da_cons (de_ixv ix_seq opd_ix (pv 4) de_int) (da_cons (de_ixv ix_seq opd_ix (pv 4) de_int) (da_cons (de_ixv ix_seq opd_ix (pv 4) de_int) (da_cons (de_ixv ix_seq opd_ix (pv 4) de_int) da_nil))))))))
      (dss_cons (ds_setLc (i := 6) (own := [("promises", 15)]) (vs := [15]) rfl rfl sc.nd rfl rfl (sw_true rfl rfl rfl (by decide +kernel)) (sr_e (de_fn0 (ok__law_rows T) (b__law_rows T) (hr.mono (by decide)))) (blkOk_by (own := [("promises", 15)]) (N := ["script", "heap", "every", "turn", "row", "want", "least", "whole", "free", "promise", "others", "worth", "k", "kept", "longest", "promises", "one", "many", "other"]) (sc := defScope s_law) (by decide +kernel)) (gok_nm (i := 15) (by decide)) (fun _ _ _ _ _ => pg_name (i := 15) sc.nd rfl (by first | exact Or.inl rfl | exact Or.inr rfl)) (fun _ _ _ _ _ => dts_nil) (fun _ _ _ _ _ => (de_tup (da_cons (de_nm (pv 15)) (da_cons (de_fn (ok__law_least T) (b__law_least T) (hr.mono (by decide)) (da_cons (de_nm (pv 4)) (da_cons (de_nm (pv 15)) da_nil))) da_nil)))))
      (dss_cons (ds_par (i := 7) (j := 8) rfl sc.nd rfl rfl (by decide) rfl rfl (dv_cons (de_fn (ok__law_least T) (b__law_least T) (hr.mono (by decide)) (da_cons (de_nm (pv 4)) (da_cons (de_nm (pv 2)) da_nil))) (dv_consF (df_lst da_nil) dv_nil)) (by rfl))
      (dss_cons (ds_for PassesOwn.never rfl (sr_e (de_nm (pv 2))) (dg_name (i := 9) sc.nd rfl (by first | exact Or.inl rfl | exact Or.inr rfl))
        (dss_cons (ds_set (i := 10) sc.nd rfl (by first | exact Or.inl rfl | exact Or.inr rfl) (de_callTy call_tuple_of calld_tuple rfl T.n_tuple (by decide +kernel) (da_cons (de_fr (df_lc (own := [("one", 16)]) (vs := [16]) rfl rfl sc.nd (sr_e (de_nm (pv 2))) (blkOk_by (own := [("one", 16)]) (N := ["script", "heap", "every", "turn", "row", "want", "least", "whole", "free", "promise", "others", "worth", "k", "kept", "longest", "promises", "one", "many", "other"]) (sc := defScope s_law) (by decide +kernel)) (gok_nm (i := 16) (by decide)) (fun _ _ _ _ _ => pg_name (i := 16) sc.nd rfl (by first | exact Or.inl rfl | exact Or.inr rfl)) (fun _ _ _ _ _ => dts_one (dt_cmpv (op_neAll hr.units) opd_ne (pv 16) (de_nm (pv 9)) (nomark _))) (fun _ _ _ _ _ => (de_nm (pv 16))))) da_nil)))
        (dss_cons (ds_set (i := 11) sc.nd rfl (by first | exact Or.inl rfl | exact Or.inr rfl) (de_op op_sub opd_sub (de_nm (pv 7)) (de_fn (ok__law_least T) (b__law_least T) (hr.mono (by decide)) (da_cons (de_nm (pv 4)) (da_cons (de_nm (pv 10)) da_nil)))))
        (dss_cons (ds_if (dt_cmpv (op_eqAll hr.units) opd_eq (pv 11) de_int (nomark _))
          (dss_one (ds_expr (de_append (pv 8) (de_nm (pv 9)))))
          dss_nil)
        (dss_one (ds_if (dt_not (dt_val (de_fn (ok__law_like T 3) (b__law_like T) (hr.mono (by decide)) (da_cons (de_fn (ok_worth_of T) (b_worth_of T) (hr.mono (by decide)) (da_cons (de_nm (pv 5)) (da_cons (de_nm (pv 9)) da_nil))) (da_cons (de_nm (pv 11)) da_nil)))))
          (dss_one (ds_ret de_bl))
          dss_nil))))))
      (dss_cons (ds_if (dt_not (dt_val (de_fn (ok__law_like T 3) (b__law_like T) (hr.mono (by decide)) (da_cons (de_fn (ok_free_promises T) (b_free_promises T) (hr.mono (by decide)) (da_cons (de_nm (pv 5)) da_nil)) (da_cons (de_callTyv call_tuple_of calld_tuple rfl T.n_tuple (by decide +kernel) (pv 8)) da_nil)))))
        (dss_one (ds_ret de_bl))
        dss_nil)
      (dss_cons (ds_for PassesOwn.never rfl (sr_e (de_tup (da_cons (de_ixv ix_seq opd_ix (pv 4) de_int) (da_cons de_int (da_cons de_int (da_cons (de_fn (ok__law_draw T) (b__law_draw T) (hr.mono (by decide)) (da_cons (de_nm (pv 1)) (da_cons de_int da_nil))) (da_cons (de_nm (pv 7)) (da_cons (de_op op_sub opd_sub (de_nm (pv 7)) de_int) da_nil)))))))) (dg_name (i := 12) sc.nd rfl (by first | exact Or.inl rfl | exact Or.inr rfl))
        (dss_cons (ds_setLc (i := 13) (own := [("promises", 15), ("many", 17)]) (vs := [15, 17]) rfl rfl sc.nd rfl rfl (sw_true rfl rfl rfl (by decide +kernel)) (sr_e (de_nm (pv 6))) (blkOk_by (own := [("promises", 15), ("many", 17)]) (N := ["script", "heap", "every", "turn", "row", "want", "least", "whole", "free", "promise", "others", "worth", "k", "kept", "longest", "promises", "one", "many", "other"]) (sc := defScope s_law) (by decide +kernel)) (gok_tp (is := [15, 17]) (by decide)) (fun _ _ _ _ _ => pg_tup rfl (pgs_cons (pg_name (i := 15) sc.nd rfl (by first | exact Or.inl rfl | exact Or.inr rfl)) (pgs_cons (pg_name (i := 17) sc.nd rfl (by first | exact Or.inl rfl | exact Or.inr rfl)) pgs_nil))) (fun _ _ _ _ _ => dts_one (dt_cmpv op_le opd_le (pv 17) (de_nm (pv 12)) (nomark _))) (fun _ _ _ _ _ => (de_nm (pv 15))))
        (dss_cons (ds_setF (i := 14) sc.nd rfl (by first | exact Or.inl rfl | exact Or.inr rfl) (df_lst da_nil))
        (dss_cons (ds_for PassesOwn.never rfl (sr_e (de_nm (pv 13))) (dg_name (i := 15) sc.nd rfl (by first | exact Or.inl rfl | exact Or.inr rfl))
          (dss_one (ds_if (dt_not (dt_val (de_callB (cr_any rfl) calld_any rfl T.n_any (by decide +kernel) (da_cons (de_fr (df_lc (own := [("other", 18)]) (vs := [18]) rfl rfl sc.nd (sr_e (de_nm (pv 13))) (blkOk_by (own := [("other", 18)]) (N := ["script", "heap", "every", "turn", "row", "want", "least", "whole", "free", "promise", "others", "worth", "k", "kept", "longest", "promises", "one", "many", "other"]) (sc := defScope s_law) (by decide +kernel)) (gok_nm (i := 18) (by decide)) (fun _ _ _ _ _ => pg_name (i := 18) sc.nd rfl (by first | exact Or.inl rfl | exact Or.inr rfl)) (fun _ _ _ _ _ => dts_nil) (fun _ _ _ _ _ => (de_and (de_cmp op_gt opd_gt (de_callBv call_lenAll calld_len rfl T.n_len (by decide +kernel) (pv 18)) (de_callBv call_lenAll calld_len rfl T.n_len (by decide +kernel) (pv 15)) (nomark _)) (de_one (de_cmp (op_eqAll hr.units) opd_eq (de_callB call_lenAll calld_len rfl T.n_len (by decide +kernel) (da_cons (de_fr (df_lc (own := [("one", 16)]) (vs := [16]) rfl rfl sc.nd (sr_e (de_nm (pv 15))) (blkOk_by (own := [("one", 16)]) (by rfl)) (gok_nm (i := 16) (by decide)) (fun _ _ _ _ _ => pg_name (i := 16) sc.nd rfl (by first | exact Or.inl rfl | exact Or.inr rfl)) (fun _ _ _ _ _ => dts_one (dt_cmpv (op_inAll (room65 hr)) opd_in (pv 16) (de_nm (pv 18)) (by rfl))) (fun _ _ _ _ _ => (de_nm (pv 16))))) da_nil)) (de_callBv call_lenAll calld_len rfl T.n_len (by decide +kernel) (pv 15)) (nomark _))))))) da_nil))))
            (dss_one (ds_expr (de_append (pv 14) (de_nm (pv 15)))))
            dss_nil)))
        (dss_one (ds_if (dt_not (dt_val (de_fn (ok__law_like T 3) (b__law_like T) (hr.mono (by decide)) (da_cons (de_fn (ok_kept_with T) (b_kept_with T) (hr.mono (by decide)) (da_cons (de_nm (pv 5)) (da_cons (de_nm (pv 12)) da_nil))) (da_cons (de_callTy call_tuple_of calld_tuple rfl T.n_tuple (by decide +kernel) (da_cons (de_callB (cr_sortedD hr.units) calld_sorted rfl T.n_sorted (by decide +kernel) (da_cons (de_nm (pv 14)) da_nil)) da_nil)) da_nil)))))
          (dss_one (ds_ret de_bl))
          dss_nil))))))
      (dss_one (ds_if (dt_w (dw_or (dt_not (dt_val (de_fn (ok__law_pieces T) (b__law_pieces T) (hr.mono (by decide)) (da_cons (de_nm (pv 1)) da_nil)))) (dw_or1 (dt_not (dt_val (de_fn (ok__law_pieces T) (b__law_pieces T) (hr.mono (by decide)) (da_cons (de_nm (pv 1)) da_nil)))))))
        (dss_one (ds_ret de_bl))
        dss_nil))))))))))
    (dss_one (ds_ret de_bl)))))) ?_

  rintro xs Q hl ⟨ns, rfl, hn, q⟩
  rw [show startD ["script", "heap", "every", "turn", "row", "want", "least", "whole", "free", "promise", "others", "worth", "k", "kept", "longest", "promises", "one", "many", "other"] (List.map SV.sh [.frz (ns.map D.int)]) = ([some (.sh (.frz (ns.map D.int))), none, none, none, none, none, none, none, none, none, none, none, none, none, none, none, none, none, none] : DS) from rfl]
  apply sq
  try walk_at "z"
  refine ⟨rfl, ns, rfl, hn, fun t u => ?_⟩
  apply sq
  try walk_at "z"
  refine ⟨sz (by decide), ?_⟩
  apply sq
  dsimp only [sFor]
  try walk_at "z"
  refine ⟨⟨by decide, by decide⟩, fun _ d => ∃ x3 x4 x5 x6 x7 x8 x9 x10 x11 x12 x13 x14 x15 x16 x17 x18, d = [some (.sh (.frz (ns.map D.int))), some (.sh (.tok t u)), some (.sh (.tup everyL)), x3, x4, x5, x6, x7, x8, x9, x10, x11, x12, x13, x14, x15, x16, x17, x18], ⟨_, _, _, _, _, _, _, _, _, _, _, _, _, _, _, _, rfl⟩, ?_, ?_⟩
  case refine_2 =>
    rintro d ⟨x3, x4, x5, x6, x7, x8, x9, x10, x11, x12, x13, x14, x15, x16, x17, x18, rfl⟩
    try walk_at "z"
    exact q
  rintro i y d hy ⟨x3, x4, x5, x6, x7, x8, x9, x10, x11, x12, x13, x14, x15, x16, x17, x18, rfl⟩
  clear hy
  try walk_at "z"
  apply sq
  try walk_at "z"
  refine ⟨rfl, t, u, rfl, fun w ok => ?_⟩
  apply sq
  unfold rowD
  try walk_at "z"
  refine ⟨rfl, w, rfl, ok, ?_⟩
  apply sq
  try walk_at "z"
  refine ⟨rfl, rfl, lcA (rowsL 5) (fun b => some (leD2 w b)), lcA0, fun j z acc hz hR => ?_, fun acc hR => ?_⟩
  · obtain ⟨b, hb, rfl⟩ := map_at hz
    refine ⟨rfl, w, b, rfl, ok, sz (by decide), rfl, lcAlt hb hR (by decide), lcAs hb hR rfl⟩
  have e := lcAe hR
  rw [fm_some] at e
  subst e
  clear hR
  apply sq
  try walk_at "z"
  refine ⟨rfl, w, allB, rfl, ok, Nat.zero_le _, ?_⟩
  apply sq
  dsimp only [sFor]
  try walk_at "z"
  refine ⟨fun n d => ∃ x9 x10 x11, d = [some (.sh (.frz (ns.map D.int))), some (.sh (.tok t u)), some (.sh (.tup everyL)), some (.sh y), some (.sh (.tup [.int w.k, .int w.s, .int w.u, .int w.t, .tup (w.ks.map kdD), .str (postS w.lost)])), some (.sh (.obj A.C_Want (wF w))), some (.ow ((rowsL 5).map (leD2 w))), some (.sh (.int (lotI w allB))), some (.ow (freeL w n)), x9, x10, x11, x12, x13, x14, x15, x16, x17, x18], ⟨_, _, _, rfl⟩, ?_, ?_⟩
  · rintro n y d hy ⟨x9, x10, x11, rfl⟩
    obtain ⟨i, he, rfl⟩ := map_at (as := List.range 5) (e := fun i => D.str (pN i)) hy
    obtain ⟨hn5, rfl⟩ : n < 5 ∧ i = n := by
      obtain ⟨h1, h2⟩ := List.getElem?_eq_some_iff.mp he
      rw [List.length_range] at h1
      rw [List.getElem_range] at h2
      exact ⟨h1, h2.symm⟩
    try walk_at "z"
    apply sq
    try walk_at "z"
    refine ⟨lcA everyS (fun p => if (!decide (p = pN i)) = true then some (.str p) else none), lcA0, fun j y acc hy hR => ?_, fun acc hR => ?_⟩
    · obtain ⟨p, he, rfl⟩ := map_at (as := everyS) (e := D.str) hy
      walk_at "rs"
      refine ifB (fun q => ⟨rfl, lcAlt he hR (by decide), lcAs he hR (by rw [if_pos q])⟩) (fun q => ⟨rfl, lcAn he hR (by rw [if_neg (nf q)])⟩)
    have e := lcAe (e := D.str) (as := everyS) hR
    rw [fm_if, filt_wout i hn5] at e
    subst e
    clear hR
    try walk_at "z"
    apply sq
    try walk_at "z"
    refine ⟨rfl, w, wout i, rfl, ok, ?_⟩
    try walk_at "z"
    have hfr : freeL w (i + 1) = if decide (worthI w i = 0) = true then freeL w i ++ [.str (pN i)] else freeL w i := by
      unfold freeL
      rw [List.range_succ, List.filter_append]
      by_cases hz : worthI w i = 0
      · rw [if_pos (decide_eq_true hz), List.filter_cons, if_pos (decide_eq_true hz), List.map_append]
        rfl
      · rw [if_neg (by rw [decide_eq_false hz]; decide), List.filter_cons, if_neg (by rw [decide_eq_false hz]; decide), List.filter_nil, List.append_nil]
    have hfl : (freeL w i).length ≤ 5 := by
      unfold freeL
      rw [List.length_map]
      exact Nat.le_trans (List.length_filter_le _ _) (by rw [List.length_range]; omega)
    apply sq
    try walk_at "z"
    refine ifB (fun q1 => ?_) (fun q1 => ?_)
    · rw [if_pos (show decide (worthI w i = 0) = true from q1)] at hfr
      try walk_at "z"
      refine ⟨szl (by omega), rfl, w, i, rfl, ok, hn5, rfl, .int (worthI w i), rfl, rfl, ?_⟩
      try walk_at "z"
      exact ⟨_, _, _, by rw [hfr]⟩
    · rw [if_neg (nf (show decide (worthI w i = 0) = false from q1))] at hfr
      try walk_at "z"
      refine ⟨rfl, w, i, rfl, ok, hn5, rfl, .int (worthI w i), rfl, rfl, ?_⟩
      try walk_at "z"
      exact ⟨_, _, _, by rw [hfr]⟩
  · rintro d ⟨x9, x10, x11, rfl⟩
    try walk_at "z"
    apply sq
    try walk_at "z"
    refine ⟨rfl, w, rfl, ok, rfl, .tup (freeL w 5), rfl, free_plain w, ?_⟩
    try walk_at "z"
    apply sq
    dsimp only [sFor]
    try walk_at "z"
    refine ⟨rfl, ⟨by decide, by decide⟩, fun r r0 r1 => ⟨sz (by decide), fun n d => ∃ sv x8 x9 x10 x11 x12 x13 x14 x15 x16 x17 x18, d = [some (.sh (.frz (ns.map D.int))), some (.sh (.tok t u)), some (.sh (.tup everyL)), some (.sh y), some (.sh (.tup [.int w.k, .int w.s, .int w.u, .int w.t, .tup (w.ks.map kdD), .str (postS w.lost)])), some (.sh (.obj A.C_Want (wF w))), some sv, some (.sh (.int (lotI w allB))), x8, x9, x10, x11, x12, x13, x14, x15, x16, x17, x18] ∧ (sv = .ow ((rowsL 5).map (leD2 w)) ∨ sv = .sh (.lst ((rowsL 5).map (leD2 w)))), ⟨_, _, _, _, _, _, _, _, _, _, _, _, rfl, .inl rfl⟩, ?_, ?_⟩⟩
    · rintro n z d hz ⟨sv, x8, x9, x10, x11, x12, x13, x14, x15, x16, x17, x18, rfl, hsv⟩
      obtain ⟨k, rfl⟩ : ∃ k : Int, z = .int k := by
        have := List.mem_of_getElem? hz
        simp only [List.mem_cons, List.not_mem_nil, or_false] at this
        rcases this with rfl | rfl | rfl | rfl | rfl | rfl
        all_goals exact ⟨_, rfl⟩
      clear hz
      try walk_at "z"
      refine sqJ (fun d => ∃ x14 x15 x16 x17 x18, d = [some (.sh (.frz (ns.map D.int))), some (.sh (.tok t u)), some (.sh (.tup everyL)), some (.sh y), some (.sh (.tup [.int w.k, .int w.s, .int w.u, .int w.t, .tup (w.ks.map kdD), .str (postS w.lost)])), some (.sh (.obj A.C_Want (wF w))), some (.sh (.lst ((rowsL 5).map (leD2 w)))), some (.sh (.int (lotI w allB))), x8, x9, x10, x11, some (.sh (.int k)), some (.ow (((rowsL 5).filter fun b => decide (lotI w b ≤ k)).map prD)), x14, x15, x16, x17, x18]) ?_ (fun hr => ?_)
      rotate_left
      · rcases hsv with rfl | rfl
        all_goals
          try walk_at "z"
          refine ⟨lcA (rowsL 5) (fun b => if decide (lotI w b ≤ k) = true then some (prD b) else none), lcA0, fun j z acc hz hR => ?_, fun acc hR => ?_⟩
          · obtain ⟨b, he, rfl⟩ := map_at hz
            unfold leD2
            try walk_at "z"
            exact ⟨rfl, ifB (fun q => ⟨rfl, lcAlt he hR (by decide), lcAs he hR (by rw [if_pos q])⟩) (fun q => ⟨rfl, lcAn he hR (by rw [if_neg (nf q)])⟩)⟩
          · have e := lcAe hR
            rw [fm_if] at e
            subst e
            exact hr _ ⟨_, _, _, _, _, rfl⟩
      rintro d ⟨x14, x15, x16, x17, x18, rfl⟩
      obtain ⟨l, hlE⟩ : ∃ l, l = (rowsL 5).filter fun b => decide (lotI w b ≤ k) := ⟨_, rfl⟩
      have hlen : l.length ≤ 32 := by
        rw [hlE]
        exact Nat.le_trans (List.length_filter_le _ _) (by decide)
      rw [← hlE]
      apply sq
      try walk_at "z"
      refine ⟨Nat.zero_le _, ?_⟩
      apply sq
      dsimp only [sFor]
      try walk_at "z"
      refine ⟨fun n d => ∃ x15 x16 x17 x18, d = [some (.sh (.frz (ns.map D.int))), some (.sh (.tok t u)), some (.sh (.tup everyL)), some (.sh y), some (.sh (.tup [.int w.k, .int w.s, .int w.u, .int w.t, .tup (w.ks.map kdD), .str (postS w.lost)])), some (.sh (.obj A.C_Want (wF w))), some (.sh (.lst ((rowsL 5).map (leD2 w)))), some (.sh (.int (lotI w allB))), x8, x9, x10, x11, some (.sh (.int k)), some (.sh (.lst (l.map prD))), some (.ow (((l.take n).filter (topB l)).map prD)), x15, x16, x17, x18], ⟨_, _, _, _, rfl⟩, ?_, ?_⟩
      · rintro n z d hz ⟨x15, x16, x17, x18, rfl⟩
        obtain ⟨a, ha, rfl⟩ := map_at hz
        clear hz
        try walk_at "z"
        refine ⟨lcA l (fun c => some (.bl (bigB a c))), lcA0, fun j y acc hy hR => ?_, fun acc hR => ?_⟩
        · obtain ⟨c, hc, rfl⟩ := map_at hy
          rw [len_pr, len_pr]
          show if decide (((psL a).length : Int) < ((psL c).length : Int)) = true then _ else _
          refine ifB (fun q => ?_) (fun q => ?_)
          · show ∃ R_1 : Nat → List D → Prop, R_1 0 [] ∧ (∀ (i : Nat) (y_1 : D) (acc : List D), ((psL a).map D.str)[i]? = some y_1 → _) ∧ _
            refine ⟨lcA (psL a) (fun p => if inF (.str p) ((psL c).map D.str) = true then some (.str p) else none), lcA0, fun i y acc2 hy hR2 => ?_, fun acc2 hR2 => ?_⟩
            · obtain ⟨p, he, rfl⟩ := map_at hy
              refine in_flat (ys := (psL c).map D.str) rfl rfl (flat_strs _) ?_
              rw [Bool.false_bne]
              try walk_at "z"
              exact ifB (fun q => ⟨rfl, lcAlt he hR2 (by have := ps_len a; omega), lcAs he hR2 (by rw [if_pos q])⟩) (fun q => ⟨rfl, lcAn he hR2 (by rw [if_neg (nf q)])⟩)
            · have e := lcAe (e := D.str) (as := psL a) hR2
              rw [fm_if] at e
              subst e
              rw [len_pr, List.length_map]
              refine ⟨rfl, lcAlt hc hR (by omega), lcAs hc hR ?_⟩
              show _ = some (D.bl (decide ((((psL a).filter fun p => inF (.str p) ((psL c).map D.str)).length : Int) = ((psL a).length : Int))))
              rw [sub_len]
              unfold bigB
              rw [show decide ((psL a).length < (psL c).length) = true from decide_eq_true (by have := of_decide_eq_true q; omega)]
              rfl
          · refine ⟨rfl, lcAlt hc hR (by omega), lcAs hc hR ?_⟩
            unfold bigB
            rw [show decide ((psL a).length < (psL c).length) = false from decide_eq_false (by have := of_decide_eq_false q; omega)]
            rfl
        · obtain ⟨bs, rfl, hb⟩ := any_lc (lcAe hR)
          refine ⟨bs, rfl, ?_⟩
          rw [hb]
          have et : (l.take (n + 1)).filter (topB l) = (l.take n).filter (topB l) ++ (if topB l a = true then [a] else []) := by
            rw [List.take_succ, ha, List.filter_append]
            congr 1
            show List.filter (topB l) [a] = _
            rw [List.filter_cons]
            rfl
          have h32 : ((l.take n).filter (topB l)).length ≤ 32 := Nat.le_trans (List.length_filter_le _ _) (Nat.le_trans (by rw [List.length_take]; omega) hlen)
          refine ifB (fun q => ⟨szl (by rw [List.length_map]; omega), some (.sh (prD a)), x16, x17, x18, ?_⟩) (fun q => ⟨some (.sh (prD a)), x16, x17, x18, ?_⟩)
          · rw [et, if_pos (show topB l a = true from q), List.map_append]
            rfl
          · rw [et, if_neg (by rw [show topB l a = false from q]; decide), List.append_nil]
      · rintro d ⟨x15, x16, x17, x18, rfl⟩
        try walk_at "z"
        rw [List.take_of_length_le (by simp)]
        refine ⟨rfl, w, k, rfl, ok, ?_⟩
        rw [hlE]
        refine ⟨long_first w k, rfl, .tup ((keptL w k).map prD), ?_, kept_plain w k, ?_⟩
        · show [_, D.tup (sortD ((topL ((rowsL 5).filter fun b => decide (lotI w b ≤ k))).map prD))] = _
          rw [sortD_rows (long_perm w k) (kept_lt w k)]
        · try walk_at "z"
          exact ⟨_, _, _, _, _, _, _, _, _, _, _, _, rfl, .inr rfl⟩
    · rintro d ⟨sv, x8, x9, x10, x11, x12, x13, x14, x15, x16, x17, x18, rfl, hsv⟩
      try walk_at "z"
      refine ⟨rfl, t, u, rfl, ?_⟩
      try walk_at "z"
      refine ⟨rfl, t, u, rfl, ?_⟩
      try walk_at "z"
      exact ⟨_, _, _, _, _, _, _, _, _, _, _, _, _, _, _, _, rfl⟩
theorem b_law (T : Txt P K mg A) : Binds K A.d_law ["script"] [] := T.f_law.fn.bindsN (ps := ["script"]) fun _ _ _ _ _ _ us hl => match us, hl with | [_], _ => rfl

end

set_option maxHeartbeats 16000000 in
theorem all_mk {l : PySem.W.OpenLaw} {w : World} {K : PySem.W.Frag} {h : Heap} {mg : Str → Option Value} {fa : Addr} (X : K.In h) (G : h.Ns mainGlobals mg) (hfa : mg "law" = some (.ref fa))
    {od_is_integer an_is_integer : Option Addr} {sl_is_integer : Array (Option Value)} {oc_is_integer kV_is_integer dc_is_integer pm_is_integer cd_is_integer ct_is_integer : Value} {f_is_integer : Addr}
    (a_is_integer : PySem.W.nsIn K mainGlobals "is_integer" = some (some (.ref f_is_integer)))
    (l_is_integer : K.lookup f_is_integer = some ⟨oc_is_integer, od_is_integer, .func (PySem.W.fnOf "is_integer" "is_integer" (defArgs s_is_integer) (defBody s_is_integer) (defScope s_is_integer) .none kV_is_integer dc_is_integer pm_is_integer an_is_integer cd_is_integer ct_is_integer), sl_is_integer⟩)
    (c_is_integer : PySem.W.codeIn K cd_is_integer "is_integer" = true) (k_is_integer : PySem.W.keepIn K (.ref f_is_integer) = true)
    {od_is_number an_is_number : Option Addr} {sl_is_number : Array (Option Value)} {oc_is_number kV_is_number dc_is_number pm_is_number cd_is_number ct_is_number : Value} {f_is_number : Addr}
    (a_is_number : PySem.W.nsIn K mainGlobals "is_number" = some (some (.ref f_is_number)))
    {T_is_number : Addr} {oe_is_number : Value} {of_is_number : Option Addr} {n_is_number : Nat} {sm_is_number : Array (Option Value)}
    (l_is_number : K.lookup f_is_number = some ⟨oc_is_number, od_is_number, .func (PySem.W.fnOf "is_number" "is_number" (defArgs s_is_number) (defBody s_is_number) (defScope s_is_number) (.ref T_is_number) kV_is_number dc_is_number pm_is_number an_is_number cd_is_number ct_is_number), sl_is_number⟩)
    (e_is_number : K.lookup T_is_number = some ⟨oe_is_number, of_is_number, .seq #[Value.none] n_is_number, sm_is_number⟩)
    (c_is_number : PySem.W.codeIn K cd_is_number "is_number" = true) (k_is_number : PySem.W.keepIn K (.ref f_is_number) = true)
    {od_is_sequence an_is_sequence : Option Addr} {sl_is_sequence : Array (Option Value)} {oc_is_sequence kV_is_sequence dc_is_sequence pm_is_sequence cd_is_sequence ct_is_sequence : Value} {f_is_sequence : Addr}
    (a_is_sequence : PySem.W.nsIn K mainGlobals "is_sequence" = some (some (.ref f_is_sequence)))
    (l_is_sequence : K.lookup f_is_sequence = some ⟨oc_is_sequence, od_is_sequence, .func (PySem.W.fnOf "is_sequence" "is_sequence" (defArgs s_is_sequence) (defBody s_is_sequence) (defScope s_is_sequence) .none kV_is_sequence dc_is_sequence pm_is_sequence an_is_sequence cd_is_sequence ct_is_sequence), sl_is_sequence⟩)
    (c_is_sequence : PySem.W.codeIn K cd_is_sequence "is_sequence" = true) (k_is_sequence : PySem.W.keepIn K (.ref f_is_sequence) = true)
    {od_need_post an_need_post : Option Addr} {sl_need_post : Array (Option Value)} {oc_need_post kV_need_post dc_need_post pm_need_post cd_need_post ct_need_post : Value} {f_need_post : Addr}
    (a_need_post : PySem.W.nsIn K mainGlobals "need_post" = some (some (.ref f_need_post)))
    (l_need_post : K.lookup f_need_post = some ⟨oc_need_post, od_need_post, .func (PySem.W.fnOf "need_post" "need_post" (defArgs s_need_post) (defBody s_need_post) (defScope s_need_post) .none kV_need_post dc_need_post pm_need_post an_need_post cd_need_post ct_need_post), sl_need_post⟩)
    (c_need_post : PySem.W.codeIn K cd_need_post "need_post" = true) (k_need_post : PySem.W.keepIn K (.ref f_need_post) = true)
    {od_parts_needed an_parts_needed : Option Addr} {sl_parts_needed : Array (Option Value)} {oc_parts_needed kV_parts_needed dc_parts_needed pm_parts_needed cd_parts_needed ct_parts_needed : Value} {f_parts_needed : Addr}
    (a_parts_needed : PySem.W.nsIn K mainGlobals "parts_needed" = some (some (.ref f_parts_needed)))
    (l_parts_needed : K.lookup f_parts_needed = some ⟨oc_parts_needed, od_parts_needed, .func (PySem.W.fnOf "parts_needed" "parts_needed" (defArgs s_parts_needed) (defBody s_parts_needed) (defScope s_parts_needed) .none kV_parts_needed dc_parts_needed pm_parts_needed an_parts_needed cd_parts_needed ct_parts_needed), sl_parts_needed⟩)
    (c_parts_needed : PySem.W.codeIn K cd_parts_needed "parts_needed" = true) (k_parts_needed : PySem.W.keepIn K (.ref f_parts_needed) = true)
    {od_kind_of an_kind_of : Option Addr} {sl_kind_of : Array (Option Value)} {oc_kind_of kV_kind_of dc_kind_of pm_kind_of cd_kind_of ct_kind_of : Value} {f_kind_of : Addr}
    (a_kind_of : PySem.W.nsIn K mainGlobals "kind_of" = some (some (.ref f_kind_of)))
    (l_kind_of : K.lookup f_kind_of = some ⟨oc_kind_of, od_kind_of, .func (PySem.W.fnOf "kind_of" "kind_of" (defArgs s_kind_of) (defBody s_kind_of) (defScope s_kind_of) .none kV_kind_of dc_kind_of pm_kind_of an_kind_of cd_kind_of ct_kind_of), sl_kind_of⟩)
    (c_kind_of : PySem.W.codeIn K cd_kind_of "kind_of" = true) (k_kind_of : PySem.W.keepIn K (.ref f_kind_of) = true)
    {od_is_promises an_is_promises : Option Addr} {sl_is_promises : Array (Option Value)} {oc_is_promises kV_is_promises dc_is_promises pm_is_promises cd_is_promises ct_is_promises : Value} {f_is_promises : Addr}
    (a_is_promises : PySem.W.nsIn K mainGlobals "is_promises" = some (some (.ref f_is_promises)))
    (l_is_promises : K.lookup f_is_promises = some ⟨oc_is_promises, od_is_promises, .func (PySem.W.fnOf "is_promises" "is_promises" (defArgs s_is_promises) (defBody s_is_promises) (defScope s_is_promises) .none kV_is_promises dc_is_promises pm_is_promises an_is_promises cd_is_promises ct_is_promises), sl_is_promises⟩)
    (c_is_promises : PySem.W.codeIn K cd_is_promises "is_promises" = true) (k_is_promises : PySem.W.keepIn K (.ref f_is_promises) = true)
    {od_need_promises an_need_promises : Option Addr} {sl_need_promises : Array (Option Value)} {oc_need_promises kV_need_promises dc_need_promises pm_need_promises cd_need_promises ct_need_promises : Value} {f_need_promises : Addr}
    (a_need_promises : PySem.W.nsIn K mainGlobals "need_promises" = some (some (.ref f_need_promises)))
    (l_need_promises : K.lookup f_need_promises = some ⟨oc_need_promises, od_need_promises, .func (PySem.W.fnOf "need_promises" "need_promises" (defArgs s_need_promises) (defBody s_need_promises) (defScope s_need_promises) .none kV_need_promises dc_need_promises pm_need_promises an_need_promises cd_need_promises ct_need_promises), sl_need_promises⟩)
    (c_need_promises : PySem.W.codeIn K cd_need_promises "need_promises" = true) (k_need_promises : PySem.W.keepIn K (.ref f_need_promises) = true)
    {od_waits_for an_waits_for : Option Addr} {sl_waits_for : Array (Option Value)} {oc_waits_for kV_waits_for dc_waits_for pm_waits_for cd_waits_for ct_waits_for : Value} {f_waits_for : Addr}
    (a_waits_for : PySem.W.nsIn K mainGlobals "waits_for" = some (some (.ref f_waits_for)))
    (l_waits_for : K.lookup f_waits_for = some ⟨oc_waits_for, od_waits_for, .func (PySem.W.fnOf "waits_for" "waits_for" (defArgs s_waits_for) (defBody s_waits_for) (defScope s_waits_for) .none kV_waits_for dc_waits_for pm_waits_for an_waits_for cd_waits_for ct_waits_for), sl_waits_for⟩)
    (c_waits_for : PySem.W.codeIn K cd_waits_for "waits_for" = true) (k_waits_for : PySem.W.keepIn K (.ref f_waits_for) = true)
    {od_seen_of an_seen_of : Option Addr} {sl_seen_of : Array (Option Value)} {oc_seen_of kV_seen_of dc_seen_of pm_seen_of cd_seen_of ct_seen_of : Value} {f_seen_of : Addr}
    (a_seen_of : PySem.W.nsIn K mainGlobals "seen_of" = some (some (.ref f_seen_of)))
    (l_seen_of : K.lookup f_seen_of = some ⟨oc_seen_of, od_seen_of, .func (PySem.W.fnOf "seen_of" "seen_of" (defArgs s_seen_of) (defBody s_seen_of) (defScope s_seen_of) .none kV_seen_of dc_seen_of pm_seen_of an_seen_of cd_seen_of ct_seen_of), sl_seen_of⟩)
    (c_seen_of : PySem.W.codeIn K cd_seen_of "seen_of" = true) (k_seen_of : PySem.W.keepIn K (.ref f_seen_of) = true)
    {od_room_for an_room_for : Option Addr} {sl_room_for : Array (Option Value)} {oc_room_for kV_room_for dc_room_for pm_room_for cd_room_for ct_room_for : Value} {f_room_for : Addr}
    (a_room_for : PySem.W.nsIn K mainGlobals "room_for" = some (some (.ref f_room_for)))
    (l_room_for : K.lookup f_room_for = some ⟨oc_room_for, od_room_for, .func (PySem.W.fnOf "room_for" "room_for" (defArgs s_room_for) (defBody s_room_for) (defScope s_room_for) .none kV_room_for dc_room_for pm_room_for an_room_for cd_room_for ct_room_for), sl_room_for⟩)
    (c_room_for : PySem.W.codeIn K cd_room_for "room_for" = true) (k_room_for : PySem.W.keepIn K (.ref f_room_for) = true)
    {od_least_for_story an_least_for_story : Option Addr} {sl_least_for_story : Array (Option Value)} {oc_least_for_story kV_least_for_story dc_least_for_story pm_least_for_story cd_least_for_story ct_least_for_story : Value} {f_least_for_story : Addr}
    (a_least_for_story : PySem.W.nsIn K mainGlobals "least_for_story" = some (some (.ref f_least_for_story)))
    (l_least_for_story : K.lookup f_least_for_story = some ⟨oc_least_for_story, od_least_for_story, .func (PySem.W.fnOf "least_for_story" "least_for_story" (defArgs s_least_for_story) (defBody s_least_for_story) (defScope s_least_for_story) .none kV_least_for_story dc_least_for_story pm_least_for_story an_least_for_story cd_least_for_story ct_least_for_story), sl_least_for_story⟩)
    (c_least_for_story : PySem.W.codeIn K cd_least_for_story "least_for_story" = true) (k_least_for_story : PySem.W.keepIn K (.ref f_least_for_story) = true)
    {od_least_for_kind an_least_for_kind : Option Addr} {sl_least_for_kind : Array (Option Value)} {oc_least_for_kind kV_least_for_kind dc_least_for_kind pm_least_for_kind cd_least_for_kind ct_least_for_kind : Value} {f_least_for_kind : Addr}
    (a_least_for_kind : PySem.W.nsIn K mainGlobals "least_for_kind" = some (some (.ref f_least_for_kind)))
    (l_least_for_kind : K.lookup f_least_for_kind = some ⟨oc_least_for_kind, od_least_for_kind, .func (PySem.W.fnOf "least_for_kind" "least_for_kind" (defArgs s_least_for_kind) (defBody s_least_for_kind) (defScope s_least_for_kind) .none kV_least_for_kind dc_least_for_kind pm_least_for_kind an_least_for_kind cd_least_for_kind ct_least_for_kind), sl_least_for_kind⟩)
    (c_least_for_kind : PySem.W.codeIn K cd_least_for_kind "least_for_kind" = true) (k_least_for_kind : PySem.W.keepIn K (.ref f_least_for_kind) = true)
    {od_least_lot an_least_lot : Option Addr} {sl_least_lot : Array (Option Value)} {oc_least_lot kV_least_lot dc_least_lot pm_least_lot cd_least_lot ct_least_lot : Value} {f_least_lot : Addr}
    (a_least_lot : PySem.W.nsIn K mainGlobals "least_lot" = some (some (.ref f_least_lot)))
    (l_least_lot : K.lookup f_least_lot = some ⟨oc_least_lot, od_least_lot, .func (PySem.W.fnOf "least_lot" "least_lot" (defArgs s_least_lot) (defBody s_least_lot) (defScope s_least_lot) .none kV_least_lot dc_least_lot pm_least_lot an_least_lot cd_least_lot ct_least_lot), sl_least_lot⟩)
    (c_least_lot : PySem.W.codeIn K cd_least_lot "least_lot" = true) (k_least_lot : PySem.W.keepIn K (.ref f_least_lot) = true)
    {od_worth_of an_worth_of : Option Addr} {sl_worth_of : Array (Option Value)} {oc_worth_of kV_worth_of dc_worth_of pm_worth_of cd_worth_of ct_worth_of : Value} {f_worth_of : Addr}
    (a_worth_of : PySem.W.nsIn K mainGlobals "worth_of" = some (some (.ref f_worth_of)))
    (l_worth_of : K.lookup f_worth_of = some ⟨oc_worth_of, od_worth_of, .func (PySem.W.fnOf "worth_of" "worth_of" (defArgs s_worth_of) (defBody s_worth_of) (defScope s_worth_of) .none kV_worth_of dc_worth_of pm_worth_of an_worth_of cd_worth_of ct_worth_of), sl_worth_of⟩)
    (c_worth_of : PySem.W.codeIn K cd_worth_of "worth_of" = true) (k_worth_of : PySem.W.keepIn K (.ref f_worth_of) = true)
    {od_free_promises an_free_promises : Option Addr} {sl_free_promises : Array (Option Value)} {oc_free_promises kV_free_promises dc_free_promises pm_free_promises cd_free_promises ct_free_promises : Value} {f_free_promises : Addr}
    (a_free_promises : PySem.W.nsIn K mainGlobals "free_promises" = some (some (.ref f_free_promises)))
    (l_free_promises : K.lookup f_free_promises = some ⟨oc_free_promises, od_free_promises, .func (PySem.W.fnOf "free_promises" "free_promises" (defArgs s_free_promises) (defBody s_free_promises) (defScope s_free_promises) .none kV_free_promises dc_free_promises pm_free_promises an_free_promises cd_free_promises ct_free_promises), sl_free_promises⟩)
    (c_free_promises : PySem.W.codeIn K cd_free_promises "free_promises" = true) (k_free_promises : PySem.W.keepIn K (.ref f_free_promises) = true)
    {od_all_promises an_all_promises : Option Addr} {sl_all_promises : Array (Option Value)} {oc_all_promises kV_all_promises dc_all_promises pm_all_promises cd_all_promises ct_all_promises : Value} {f_all_promises : Addr}
    (a_all_promises : PySem.W.nsIn K mainGlobals "all_promises" = some (some (.ref f_all_promises)))
    (l_all_promises : K.lookup f_all_promises = some ⟨oc_all_promises, od_all_promises, .func (PySem.W.fnOf "all_promises" "all_promises" (defArgs s_all_promises) (defBody s_all_promises) (defScope s_all_promises) .none kV_all_promises dc_all_promises pm_all_promises an_all_promises cd_all_promises ct_all_promises), sl_all_promises⟩)
    (c_all_promises : PySem.W.codeIn K cd_all_promises "all_promises" = true) (k_all_promises : PySem.W.keepIn K (.ref f_all_promises) = true)
    {od_kept_with an_kept_with : Option Addr} {sl_kept_with : Array (Option Value)} {oc_kept_with kV_kept_with dc_kept_with pm_kept_with cd_kept_with ct_kept_with : Value} {f_kept_with : Addr}
    (a_kept_with : PySem.W.nsIn K mainGlobals "kept_with" = some (some (.ref f_kept_with)))
    (l_kept_with : K.lookup f_kept_with = some ⟨oc_kept_with, od_kept_with, .func (PySem.W.fnOf "kept_with" "kept_with" (defArgs s_kept_with) (defBody s_kept_with) (defScope s_kept_with) .none kV_kept_with dc_kept_with pm_kept_with an_kept_with cd_kept_with ct_kept_with), sl_kept_with⟩)
    (c_kept_with : PySem.W.codeIn K cd_kept_with "kept_with" = true) (k_kept_with : PySem.W.keepIn K (.ref f_kept_with) = true)
    {od_most_pieces an_most_pieces : Option Addr} {sl_most_pieces : Array (Option Value)} {oc_most_pieces kV_most_pieces dc_most_pieces pm_most_pieces cd_most_pieces ct_most_pieces : Value} {f_most_pieces : Addr}
    (a_most_pieces : PySem.W.nsIn K mainGlobals "most_pieces" = some (some (.ref f_most_pieces)))
    (l_most_pieces : K.lookup f_most_pieces = some ⟨oc_most_pieces, od_most_pieces, .func (PySem.W.fnOf "most_pieces" "most_pieces" (defArgs s_most_pieces) (defBody s_most_pieces) (defScope s_most_pieces) .none kV_most_pieces dc_most_pieces pm_most_pieces an_most_pieces cd_most_pieces ct_most_pieces), sl_most_pieces⟩)
    (c_most_pieces : PySem.W.codeIn K cd_most_pieces "most_pieces" = true) (k_most_pieces : PySem.W.keepIn K (.ref f_most_pieces) = true)
    {od__law_heap an__law_heap : Option Addr} {sl__law_heap : Array (Option Value)} {oc__law_heap kV__law_heap dc__law_heap pm__law_heap cd__law_heap ct__law_heap : Value} {f__law_heap : Addr}
    (a__law_heap : PySem.W.nsIn K mainGlobals "_law_heap" = some (some (.ref f__law_heap)))
    (l__law_heap : K.lookup f__law_heap = some ⟨oc__law_heap, od__law_heap, .func (PySem.W.fnOf "_law_heap" "_law_heap" (defArgs s__law_heap) (defBody s__law_heap) (defScope s__law_heap) .none kV__law_heap dc__law_heap pm__law_heap an__law_heap cd__law_heap ct__law_heap), sl__law_heap⟩)
    (c__law_heap : PySem.W.codeIn K cd__law_heap "_law_heap" = true) (k__law_heap : PySem.W.keepIn K (.ref f__law_heap) = true)
    {od__law_draw an__law_draw : Option Addr} {sl__law_draw : Array (Option Value)} {oc__law_draw kV__law_draw dc__law_draw pm__law_draw cd__law_draw ct__law_draw : Value} {f__law_draw : Addr}
    (a__law_draw : PySem.W.nsIn K mainGlobals "_law_draw" = some (some (.ref f__law_draw)))
    (l__law_draw : K.lookup f__law_draw = some ⟨oc__law_draw, od__law_draw, .func (PySem.W.fnOf "_law_draw" "_law_draw" (defArgs s__law_draw) (defBody s__law_draw) (defScope s__law_draw) .none kV__law_draw dc__law_draw pm__law_draw an__law_draw cd__law_draw ct__law_draw), sl__law_draw⟩)
    (c__law_draw : PySem.W.codeIn K cd__law_draw "_law_draw" = true) (k__law_draw : PySem.W.keepIn K (.ref f__law_draw) = true)
    {od__law_pick an__law_pick : Option Addr} {sl__law_pick : Array (Option Value)} {oc__law_pick kV__law_pick dc__law_pick pm__law_pick cd__law_pick ct__law_pick : Value} {f__law_pick : Addr}
    (a__law_pick : PySem.W.nsIn K mainGlobals "_law_pick" = some (some (.ref f__law_pick)))
    (l__law_pick : K.lookup f__law_pick = some ⟨oc__law_pick, od__law_pick, .func (PySem.W.fnOf "_law_pick" "_law_pick" (defArgs s__law_pick) (defBody s__law_pick) (defScope s__law_pick) .none kV__law_pick dc__law_pick pm__law_pick an__law_pick cd__law_pick ct__law_pick), sl__law_pick⟩)
    (c__law_pick : PySem.W.codeIn K cd__law_pick "_law_pick" = true) (k__law_pick : PySem.W.keepIn K (.ref f__law_pick) = true)
    {od__law_like an__law_like : Option Addr} {sl__law_like : Array (Option Value)} {oc__law_like kV__law_like dc__law_like pm__law_like cd__law_like ct__law_like : Value} {f__law_like : Addr}
    (a__law_like : PySem.W.nsIn K mainGlobals "_law_like" = some (some (.ref f__law_like)))
    (l__law_like : K.lookup f__law_like = some ⟨oc__law_like, od__law_like, .func (PySem.W.fnOf "_law_like" "_law_like" (defArgs s__law_like) (defBody s__law_like) (defScope s__law_like) .none kV__law_like dc__law_like pm__law_like an__law_like cd__law_like ct__law_like), sl__law_like⟩)
    (c__law_like : PySem.W.codeIn K cd__law_like "_law_like" = true) (k__law_like : PySem.W.keepIn K (.ref f__law_like) = true)
    {od__law_want an__law_want : Option Addr} {sl__law_want : Array (Option Value)} {oc__law_want kV__law_want dc__law_want pm__law_want cd__law_want ct__law_want : Value} {f__law_want : Addr}
    (a__law_want : PySem.W.nsIn K mainGlobals "_law_want" = some (some (.ref f__law_want)))
    (l__law_want : K.lookup f__law_want = some ⟨oc__law_want, od__law_want, .func (PySem.W.fnOf "_law_want" "_law_want" (defArgs s__law_want) (defBody s__law_want) (defScope s__law_want) .none kV__law_want dc__law_want pm__law_want an__law_want cd__law_want ct__law_want), sl__law_want⟩)
    (c__law_want : PySem.W.codeIn K cd__law_want "_law_want" = true) (k__law_want : PySem.W.keepIn K (.ref f__law_want) = true)
    {od__law_holds_story an__law_holds_story : Option Addr} {sl__law_holds_story : Array (Option Value)} {oc__law_holds_story kV__law_holds_story dc__law_holds_story pm__law_holds_story cd__law_holds_story ct__law_holds_story : Value} {f__law_holds_story : Addr}
    (a__law_holds_story : PySem.W.nsIn K mainGlobals "_law_holds_story" = some (some (.ref f__law_holds_story)))
    (l__law_holds_story : K.lookup f__law_holds_story = some ⟨oc__law_holds_story, od__law_holds_story, .func (PySem.W.fnOf "_law_holds_story" "_law_holds_story" (defArgs s__law_holds_story) (defBody s__law_holds_story) (defScope s__law_holds_story) .none kV__law_holds_story dc__law_holds_story pm__law_holds_story an__law_holds_story cd__law_holds_story ct__law_holds_story), sl__law_holds_story⟩)
    (c__law_holds_story : PySem.W.codeIn K cd__law_holds_story "_law_holds_story" = true) (k__law_holds_story : PySem.W.keepIn K (.ref f__law_holds_story) = true)
    {od__law_holds_kind an__law_holds_kind : Option Addr} {sl__law_holds_kind : Array (Option Value)} {oc__law_holds_kind kV__law_holds_kind dc__law_holds_kind pm__law_holds_kind cd__law_holds_kind ct__law_holds_kind : Value} {f__law_holds_kind : Addr}
    (a__law_holds_kind : PySem.W.nsIn K mainGlobals "_law_holds_kind" = some (some (.ref f__law_holds_kind)))
    (l__law_holds_kind : K.lookup f__law_holds_kind = some ⟨oc__law_holds_kind, od__law_holds_kind, .func (PySem.W.fnOf "_law_holds_kind" "_law_holds_kind" (defArgs s__law_holds_kind) (defBody s__law_holds_kind) (defScope s__law_holds_kind) .none kV__law_holds_kind dc__law_holds_kind pm__law_holds_kind an__law_holds_kind cd__law_holds_kind ct__law_holds_kind), sl__law_holds_kind⟩)
    (c__law_holds_kind : PySem.W.codeIn K cd__law_holds_kind "_law_holds_kind" = true) (k__law_holds_kind : PySem.W.keepIn K (.ref f__law_holds_kind) = true)
    {od__law_least an__law_least : Option Addr} {sl__law_least : Array (Option Value)} {oc__law_least kV__law_least dc__law_least pm__law_least cd__law_least ct__law_least : Value} {f__law_least : Addr}
    (a__law_least : PySem.W.nsIn K mainGlobals "_law_least" = some (some (.ref f__law_least)))
    (l__law_least : K.lookup f__law_least = some ⟨oc__law_least, od__law_least, .func (PySem.W.fnOf "_law_least" "_law_least" (defArgs s__law_least) (defBody s__law_least) (defScope s__law_least) .none kV__law_least dc__law_least pm__law_least an__law_least cd__law_least ct__law_least), sl__law_least⟩)
    (c__law_least : PySem.W.codeIn K cd__law_least "_law_least" = true) (k__law_least : PySem.W.keepIn K (.ref f__law_least) = true)
    {od__law_rows an__law_rows : Option Addr} {sl__law_rows : Array (Option Value)} {oc__law_rows kV__law_rows dc__law_rows pm__law_rows cd__law_rows ct__law_rows : Value} {f__law_rows : Addr}
    (a__law_rows : PySem.W.nsIn K mainGlobals "_law_rows" = some (some (.ref f__law_rows)))
    (l__law_rows : K.lookup f__law_rows = some ⟨oc__law_rows, od__law_rows, .func (PySem.W.fnOf "_law_rows" "_law_rows" (defArgs s__law_rows) (defBody s__law_rows) (defScope s__law_rows) .none kV__law_rows dc__law_rows pm__law_rows an__law_rows cd__law_rows ct__law_rows), sl__law_rows⟩)
    (c__law_rows : PySem.W.codeIn K cd__law_rows "_law_rows" = true) (k__law_rows : PySem.W.keepIn K (.ref f__law_rows) = true)
    {od__law_pieces an__law_pieces : Option Addr} {sl__law_pieces : Array (Option Value)} {oc__law_pieces kV__law_pieces dc__law_pieces pm__law_pieces cd__law_pieces ct__law_pieces : Value} {f__law_pieces : Addr}
    (a__law_pieces : PySem.W.nsIn K mainGlobals "_law_pieces" = some (some (.ref f__law_pieces)))
    (l__law_pieces : K.lookup f__law_pieces = some ⟨oc__law_pieces, od__law_pieces, .func (PySem.W.fnOf "_law_pieces" "_law_pieces" (defArgs s__law_pieces) (defBody s__law_pieces) (defScope s__law_pieces) .none kV__law_pieces dc__law_pieces pm__law_pieces an__law_pieces cd__law_pieces ct__law_pieces), sl__law_pieces⟩)
    (c__law_pieces : PySem.W.codeIn K cd__law_pieces "_law_pieces" = true) (k__law_pieces : PySem.W.keepIn K (.ref f__law_pieces) = true)
    {od_law an_law : Option Addr} {sl_law : Array (Option Value)} {oc_law kV_law dc_law pm_law cd_law ct_law : Value} {f_law : Addr}
    (a_law : PySem.W.nsIn K mainGlobals "law" = some (some (.ref f_law)))
    (l_law : K.lookup f_law = some ⟨oc_law, od_law, .func (PySem.W.fnOf "law" "law" (defArgs s_law) (defBody s_law) (defScope s_law) .none kV_law dc_law pm_law an_law cd_law ct_law), sl_law⟩)
    (c_law : PySem.W.codeIn K cd_law "law" = true) (k_law : PySem.W.keepIn K (.ref f_law) = true)
    {od_Want an_Want : Option Addr} {sl_Want : Array (Option Value)} {oc_Want kV_Want dc_Want pm_Want cd_Want ct_Want : Value} {f_Want C_Want : Addr}
    (a_Want : PySem.W.nsIn K mainGlobals "Want" = some (some (.ref C_Want))) (i_Want : PySem.W.findIn K (.ref C_Want) "__init__" = some (some (.ref f_Want))) (j_Want : PySem.W.isFn K (.ref f_Want) = true)
    (l_Want : K.lookup f_Want = some ⟨oc_Want, od_Want, .func (PySem.W.fnOf "__init__" "Want.__init__" (defArgs s_Want___init__) (defBody s_Want___init__) (defScope s_Want___init__) .none kV_Want dc_Want pm_Want an_Want cd_Want ct_Want), sl_Want⟩)
    (c_Want : PySem.W.codeIn K cd_Want "Want.__init__" = true) (k_Want : PySem.W.keepIn K (.ref f_Want) = true)
    (pg_Want : PySem.W.plainGet K C_Want Str.empty = true) (hd_Want : PySem.W.hasDictIn K C_Want = true) (po_Want : PySem.W.plainOver K C_Want = true) (sa_Want : PySem.W.findIn K (.ref C_Want) "__setattr__" = some (some (.builtin "object.__setattr__"))) (mk_Want : PySem.W.makesIn K C_Want = true) (kc_Want : PySem.W.keepIn K (.ref C_Want) = true)
    (at_Want_k : PySem.W.findIn K (.ref C_Want) "k" = some none)
    (at_Want_s : PySem.W.findIn K (.ref C_Want) "s" = some none)
    (at_Want_u : PySem.W.findIn K (.ref C_Want) "u" = some none)
    (at_Want_t : PySem.W.findIn K (.ref C_Want) "t" = some none)
    (at_Want_kinds : PySem.W.findIn K (.ref C_Want) "kinds" = some none)
    (at_Want_post : PySem.W.findIn K (.ref C_Want) "post" = some none)
    (n_abs : PySem.W.nsIn K mainGlobals "abs" = some none)
    (n_all : PySem.W.nsIn K mainGlobals "all" = some none)
    (n_any : PySem.W.nsIn K mainGlobals "any" = some none)
    (n_bool : PySem.W.nsIn K mainGlobals "bool" = some none)
    (n_int : PySem.W.nsIn K mainGlobals "int" = some none)
    (n_isinstance : PySem.W.nsIn K mainGlobals "isinstance" = some none)
    (n_len : PySem.W.nsIn K mainGlobals "len" = some none)
    (n_list : PySem.W.nsIn K mainGlobals "list" = some none)
    (n_max : PySem.W.nsIn K mainGlobals "max" = some none)
    (n_min : PySem.W.nsIn K mainGlobals "min" = some none)
    (n_range : PySem.W.nsIn K mainGlobals "range" = some none)
    (n_sorted : PySem.W.nsIn K mainGlobals "sorted" = some none)
    (n_str : PySem.W.nsIn K mainGlobals "str" = some none)
    (n_tuple : PySem.W.nsIn K mainGlobals "tuple" = some none)
    {t0_POSTS t1_POSTS : Tok} {a_POSTS : Addr} {of_POSTS : Option Addr} {n_POSTS : Nat} {sm_POSTS : Array (Option Value)} (g_POSTS : PySem.W.nsIn K mainGlobals "POSTS" = some (some (.ref a_POSTS)))
    (e_POSTS : K.lookup a_POSTS = some ⟨.type "tuple", of_POSTS, .seq #[.str "lost" t0_POSTS, .str "kept" t1_POSTS] n_POSTS, sm_POSTS⟩)
    {t_MOST_LOT : Tok} (g_MOST_LOT : PySem.W.nsIn K mainGlobals "MOST_LOT" = some (some (.int 7 t_MOST_LOT)))
    {t_MOST_SEEN : Tok} (g_MOST_SEEN : PySem.W.nsIn K mainGlobals "MOST_SEEN" = some (some (.int 3 t_MOST_SEEN)))
    {t_MOST_PACKED : Tok} (g_MOST_PACKED : PySem.W.nsIn K mainGlobals "MOST_PACKED" = some (some (.int 3 t_MOST_PACKED)))
    {t0_PROMISES t1_PROMISES t2_PROMISES t3_PROMISES t4_PROMISES : Tok} {a_PROMISES : Addr} {of_PROMISES : Option Addr} {n_PROMISES : Nat} {sm_PROMISES : Array (Option Value)} (g_PROMISES : PySem.W.nsIn K mainGlobals "PROMISES" = some (some (.ref a_PROMISES)))
    (e_PROMISES : K.lookup a_PROMISES = some ⟨.type "tuple", of_PROMISES, .seq #[.str "ends" t0_PROMISES, .str "had" t1_PROMISES, .str "small" t2_PROMISES, .str "story" t3_PROMISES, .str "unseen" t4_PROMISES] n_PROMISES, sm_PROMISES⟩) :
    ∃ fd : FuncData, (∀ (s : Shared) (v : Value), BindsTo s fd ⟨[v], []⟩ [("script", v)]) ∧ ∀ base : Heap, K.In base → base.Ns mainGlobals mg → FnOk l.prog w K mg base CX0 7 fa fd ["script"] (spD tk K 1 cLaw) := by
  have e := hfa.symm.trans (PySem.W.mg_of X G a_law)
  cases e
  have T : Txt l.prog K mg ⟨f_is_integer, _, f_is_number, _, f_is_sequence, _, f_need_post, _, f_parts_needed, _, f_kind_of, _, f_is_promises, _, f_need_promises, _, f_waits_for, _, f_seen_of, _, f_room_for, _, f_least_for_story, _, f_least_for_kind, _, f_least_lot, _, f_worth_of, _, f_free_promises, _, f_all_promises, _, f_kept_with, _, f_most_pieces, _, f__law_heap, _, f__law_draw, _, f__law_pick, _, f__law_like, _, f__law_want, _, f__law_holds_story, _, f__law_holds_kind, _, f__law_least, _, f__law_rows, _, f__law_pieces, _, fa, _, C_Want, f_Want, _⟩ :=
    ⟨FnT.mk0 (PySem.W.mg_of X G a_is_integer) l_is_integer c_is_integer k_is_integer,
     FnT.mkD (its := [Value.none]) (PySem.W.mg_of X G a_is_number) l_is_number e_is_number (.cons rfl .nil) (by decide) c_is_number k_is_number,
     FnT.mk0 (PySem.W.mg_of X G a_is_sequence) l_is_sequence c_is_sequence k_is_sequence,
     FnT.mk0 (PySem.W.mg_of X G a_need_post) l_need_post c_need_post k_need_post,
     FnT.mk0 (PySem.W.mg_of X G a_parts_needed) l_parts_needed c_parts_needed k_parts_needed,
     FnT.mk0 (PySem.W.mg_of X G a_kind_of) l_kind_of c_kind_of k_kind_of,
     FnT.mk0 (PySem.W.mg_of X G a_is_promises) l_is_promises c_is_promises k_is_promises,
     FnT.mk0 (PySem.W.mg_of X G a_need_promises) l_need_promises c_need_promises k_need_promises,
     FnT.mk0 (PySem.W.mg_of X G a_waits_for) l_waits_for c_waits_for k_waits_for,
     FnT.mk0 (PySem.W.mg_of X G a_seen_of) l_seen_of c_seen_of k_seen_of,
     FnT.mk0 (PySem.W.mg_of X G a_room_for) l_room_for c_room_for k_room_for,
     FnT.mk0 (PySem.W.mg_of X G a_least_for_story) l_least_for_story c_least_for_story k_least_for_story,
     FnT.mk0 (PySem.W.mg_of X G a_least_for_kind) l_least_for_kind c_least_for_kind k_least_for_kind,
     FnT.mk0 (PySem.W.mg_of X G a_least_lot) l_least_lot c_least_lot k_least_lot,
     FnT.mk0 (PySem.W.mg_of X G a_worth_of) l_worth_of c_worth_of k_worth_of,
     FnT.mk0 (PySem.W.mg_of X G a_free_promises) l_free_promises c_free_promises k_free_promises,
     FnT.mk0 (PySem.W.mg_of X G a_all_promises) l_all_promises c_all_promises k_all_promises,
     FnT.mk0 (PySem.W.mg_of X G a_kept_with) l_kept_with c_kept_with k_kept_with,
     FnT.mk0 (PySem.W.mg_of X G a_most_pieces) l_most_pieces c_most_pieces k_most_pieces,
     FnT.mk0 (PySem.W.mg_of X G a__law_heap) l__law_heap c__law_heap k__law_heap,
     FnT.mk0 (PySem.W.mg_of X G a__law_draw) l__law_draw c__law_draw k__law_draw,
     FnT.mk0 (PySem.W.mg_of X G a__law_pick) l__law_pick c__law_pick k__law_pick,
     FnT.mk0 (PySem.W.mg_of X G a__law_like) l__law_like c__law_like k__law_like,
     FnT.mk0 (PySem.W.mg_of X G a__law_want) l__law_want c__law_want k__law_want,
     FnT.mk0 (PySem.W.mg_of X G a__law_holds_story) l__law_holds_story c__law_holds_story k__law_holds_story,
     FnT.mk0 (PySem.W.mg_of X G a__law_holds_kind) l__law_holds_kind c__law_holds_kind k__law_holds_kind,
     FnT.mk0 (PySem.W.mg_of X G a__law_least) l__law_least c__law_least k__law_least,
     FnT.mk0 (PySem.W.mg_of X G a__law_rows) l__law_rows c__law_rows k__law_rows,
     FnT.mk0 (PySem.W.mg_of X G a__law_pieces) l__law_pieces c__law_pieces k__law_pieces,
     FnT.mk0 (PySem.W.mg_of X G a_law) l_law c_law k_law,
     ClT.mk0 (PySem.W.mg_of X G a_Want) pg_Want hd_Want po_Want sa_Want mk_Want i_Want j_Want kc_Want l_Want c_Want k_Want,
     at_Want_k,
     at_Want_s,
     at_Want_u,
     at_Want_t,
     at_Want_kinds,
     at_Want_post,
     PySem.W.mg_none_of X G n_abs,
     PySem.W.mg_none_of X G n_all,
     PySem.W.mg_none_of X G n_any,
     PySem.W.mg_none_of X G n_bool,
     PySem.W.mg_none_of X G n_int,
     PySem.W.mg_none_of X G n_isinstance,
     PySem.W.mg_none_of X G n_len,
     PySem.W.mg_none_of X G n_list,
     PySem.W.mg_none_of X G n_max,
     PySem.W.mg_none_of X G n_min,
     PySem.W.mg_none_of X G n_range,
     PySem.W.mg_none_of X G n_sorted,
     PySem.W.mg_none_of X G n_str,
     PySem.W.mg_none_of X G n_tuple,
     ⟨_, PySem.W.mg_of X G g_POSTS, [.str "lost", .str "kept"], ⟨_, _, _, e_POSTS, rfl, rfl, sz (n := 2) (by decide), (.cons ⟨_, rfl⟩ (.cons ⟨_, rfl⟩ .nil))⟩, rfl⟩,
     ⟨_, PySem.W.mg_of X G g_MOST_LOT⟩,
     ⟨_, PySem.W.mg_of X G g_MOST_SEEN⟩,
     ⟨_, PySem.W.mg_of X G g_MOST_PACKED⟩,
     ⟨_, PySem.W.mg_of X G g_PROMISES, [.str "ends", .str "had", .str "small", .str "story", .str "unseen"], ⟨_, _, _, e_PROMISES, rfl, rfl, sz (n := 5) (by decide), (.cons ⟨_, rfl⟩ (.cons ⟨_, rfl⟩ (.cons ⟨_, rfl⟩ (.cons ⟨_, rfl⟩ (.cons ⟨_, rfl⟩ .nil)))))⟩, rfl⟩⟩
  exact ⟨_, fun s v => T.f_law.fn.bindsA (ps := ["script"]) (fun _ _ _ _ _ _ us hl => match us, hl with | [_], _ => rfl) s [v] rfl, fun base _ _ => (ok_law (P := l.prog) (w := w) (base := base) T).ok⟩
theorem walk {l : PySem.W.OpenLaw} {q : Program} {loose : List Str} {XP : (Str → Option Value) → Heap → Prop} {YP : World → Heap → Prop} {d : DefRec} {K : Params → PySem.W.Frag} (hn : l.most = some 63) (hdf : d.params.defaults = [])
    (hY : ∀ (w : World) (h : Heap), YP w h → (K w.params).In h)
    (F : ∀ (w : World) (mg : Str → Option Value) (fa : Addr) (h : Heap), (K w.params).In h → h.Ns mainGlobals mg → mg d.name = some (.ref fa) →
      ∃ fd : FuncData, (∀ (s : Shared) (u : Value), BindsTo s fd ⟨[u], []⟩ [("script", u)]) ∧ ∀ base : Heap, (K w.params).In base → base.Ns mainGlobals mg → FnOk l.prog w (K w.params) mg base CX0 7 fa fd ["script"] (spD tk (K w.params) 1 cLaw)) :
    PySem.W.WalkO q loose XP YP l.row.toRowW d [] (fun f vs => PySem.call f vs) :=
  L2.walk_of (n := 63) (k := 7) (x := "script") (CX := fun _ => CX0) (sp := fun w => spD tk (K w.params) 1 cLaw) hn (by decide) hdf ⟨rfl, by decide, by decide⟩ hY F (fun _ _ _ _ hl ho hS => law_sp hl ho hS) fun _ _ _ _ _ z => z
end My
open PySem PySem.W PyProof.Rows
set_option maxRecDepth 100000 in
set_option maxHeartbeats 0 in
theorem PySem.Challenge.cw_allapart_k56_whole_what_each_promise_cos_holds : PySem.Challenge.rw_allapart_k56_whole_what_each_promise_cos.Holds := by
  w_on; o_law; k_head; (case hw => w_witness2)
  k_fill
  refine My.walk (l := PySem.Challenge.rw_allapart_k56_whole_what_each_promise_cos) rfl rfl (fun w h Y => PySem.W.kIn_of Y) ?F
  case F =>
    intro w mg fa h KX G hmg
    refine' My.all_mk KX G hmg ?a_is_integer ?l_is_integer ?c_is_integer ?k_is_integer ?a_is_number ?l_is_number ?e_is_number ?c_is_number ?k_is_number ?a_is_sequence ?l_is_sequence ?c_is_sequence ?k_is_sequence ?a_need_post ?l_need_post ?c_need_post ?k_need_post ?a_parts_needed ?l_parts_needed ?c_parts_needed ?k_parts_needed ?a_kind_of ?l_kind_of ?c_kind_of ?k_kind_of ?a_is_promises ?l_is_promises ?c_is_promises ?k_is_promises ?a_need_promises ?l_need_promises ?c_need_promises ?k_need_promises ?a_waits_for ?l_waits_for ?c_waits_for ?k_waits_for ?a_seen_of ?l_seen_of ?c_seen_of ?k_seen_of ?a_room_for ?l_room_for ?c_room_for ?k_room_for ?a_least_for_story ?l_least_for_story ?c_least_for_story ?k_least_for_story ?a_least_for_kind ?l_least_for_kind ?c_least_for_kind ?k_least_for_kind ?a_least_lot ?l_least_lot ?c_least_lot ?k_least_lot ?a_worth_of ?l_worth_of ?c_worth_of ?k_worth_of ?a_free_promises ?l_free_promises ?c_free_promises ?k_free_promises ?a_all_promises ?l_all_promises ?c_all_promises ?k_all_promises ?a_kept_with ?l_kept_with ?c_kept_with ?k_kept_with ?a_most_pieces ?l_most_pieces ?c_most_pieces ?k_most_pieces ?a__law_heap ?l__law_heap ?c__law_heap ?k__law_heap ?a__law_draw ?l__law_draw ?c__law_draw ?k__law_draw ?a__law_pick ?l__law_pick ?c__law_pick ?k__law_pick ?a__law_like ?l__law_like ?c__law_like ?k__law_like ?a__law_want ?l__law_want ?c__law_want ?k__law_want ?a__law_holds_story ?l__law_holds_story ?c__law_holds_story ?k__law_holds_story ?a__law_holds_kind ?l__law_holds_kind ?c__law_holds_kind ?k__law_holds_kind ?a__law_least ?l__law_least ?c__law_least ?k__law_least ?a__law_rows ?l__law_rows ?c__law_rows ?k__law_rows ?a__law_pieces ?l__law_pieces ?c__law_pieces ?k__law_pieces ?a_law ?l_law ?c_law ?k_law ?a_Want ?i_Want ?j_Want ?l_Want ?c_Want ?k_Want ?pg_Want ?hd_Want ?po_Want ?sa_Want ?mk_Want ?kc_Want ?at_Want_k ?at_Want_s ?at_Want_u ?at_Want_t ?at_Want_kinds ?at_Want_post ?n_abs ?n_all ?n_any ?n_bool ?n_int ?n_isinstance ?n_len ?n_list ?n_max ?n_min ?n_range ?n_sorted ?n_str ?n_tuple ?g_POSTS ?e_POSTS ?g_MOST_LOT ?g_MOST_SEEN ?g_MOST_PACKED ?g_PROMISES ?e_PROMISES
    (case a_is_integer => k_is)
    (case l_is_integer => k_is)
    (case c_is_integer => k_is)
    (case k_is_integer => k_is)
    (case a_is_number => k_is)
    (case l_is_number => k_is)
    (case e_is_number => k_is)
    (case c_is_number => k_is)
    (case k_is_number => k_is)
    (case a_is_sequence => k_is)
    (case l_is_sequence => k_is)
    (case c_is_sequence => k_is)
    (case k_is_sequence => k_is)
    (case a_need_post => k_is)
    (case l_need_post => k_is)
    (case c_need_post => k_is)
    (case k_need_post => k_is)
    (case a_parts_needed => k_is)
    (case l_parts_needed => k_is)
    (case c_parts_needed => k_is)
    (case k_parts_needed => k_is)
    (case a_kind_of => k_is)
    (case l_kind_of => k_is)
    (case c_kind_of => k_is)
    (case k_kind_of => k_is)
    (case a_is_promises => k_is)
    (case l_is_promises => k_is)
    (case c_is_promises => k_is)
    (case k_is_promises => k_is)
    (case a_need_promises => k_is)
    (case l_need_promises => k_is)
    (case c_need_promises => k_is)
    (case k_need_promises => k_is)
    (case a_waits_for => k_is)
    (case l_waits_for => k_is)
    (case c_waits_for => k_is)
    (case k_waits_for => k_is)
    (case a_seen_of => k_is)
    (case l_seen_of => k_is)
    (case c_seen_of => k_is)
    (case k_seen_of => k_is)
    (case a_room_for => k_is)
    (case l_room_for => k_is)
    (case c_room_for => k_is)
    (case k_room_for => k_is)
    (case a_least_for_story => k_is)
    (case l_least_for_story => k_is)
    (case c_least_for_story => k_is)
    (case k_least_for_story => k_is)
    (case a_least_for_kind => k_is)
    (case l_least_for_kind => k_is)
    (case c_least_for_kind => k_is)
    (case k_least_for_kind => k_is)
    (case a_least_lot => k_is)
    (case l_least_lot => k_is)
    (case c_least_lot => k_is)
    (case k_least_lot => k_is)
    (case a_worth_of => k_is)
    (case l_worth_of => k_is)
    (case c_worth_of => k_is)
    (case k_worth_of => k_is)
    (case a_free_promises => k_is)
    (case l_free_promises => k_is)
    (case c_free_promises => k_is)
    (case k_free_promises => k_is)
    (case a_all_promises => k_is)
    (case l_all_promises => k_is)
    (case c_all_promises => k_is)
    (case k_all_promises => k_is)
    (case a_kept_with => k_is)
    (case l_kept_with => k_is)
    (case c_kept_with => k_is)
    (case k_kept_with => k_is)
    (case a_most_pieces => k_is)
    (case l_most_pieces => k_is)
    (case c_most_pieces => k_is)
    (case k_most_pieces => k_is)
    (case a__law_heap => k_is)
    (case l__law_heap => k_is)
    (case c__law_heap => k_is)
    (case k__law_heap => k_is)
    (case a__law_draw => k_is)
    (case l__law_draw => k_is)
    (case c__law_draw => k_is)
    (case k__law_draw => k_is)
    (case a__law_pick => k_is)
    (case l__law_pick => k_is)
    (case c__law_pick => k_is)
    (case k__law_pick => k_is)
    (case a__law_like => k_is)
    (case l__law_like => k_is)
    (case c__law_like => k_is)
    (case k__law_like => k_is)
    (case a__law_want => k_is)
    (case l__law_want => k_is)
    (case c__law_want => k_is)
    (case k__law_want => k_is)
    (case a__law_holds_story => k_is)
    (case l__law_holds_story => k_is)
    (case c__law_holds_story => k_is)
    (case k__law_holds_story => k_is)
    (case a__law_holds_kind => k_is)
    (case l__law_holds_kind => k_is)
    (case c__law_holds_kind => k_is)
    (case k__law_holds_kind => k_is)
    (case a__law_least => k_is)
    (case l__law_least => k_is)
    (case c__law_least => k_is)
    (case k__law_least => k_is)
    (case a__law_rows => k_is)
    (case l__law_rows => k_is)
    (case c__law_rows => k_is)
    (case k__law_rows => k_is)
    (case a__law_pieces => k_is)
    (case l__law_pieces => k_is)
    (case c__law_pieces => k_is)
    (case k__law_pieces => k_is)
    (case a_law => k_is)
    (case l_law => k_is)
    (case c_law => k_is)
    (case k_law => k_is)
    (case a_Want => k_is)
    (case i_Want => k_is)
    (case j_Want => k_is)
    (case l_Want => k_is)
    (case c_Want => k_is)
    (case k_Want => k_is)
    (case pg_Want => k_is)
    (case hd_Want => k_is)
    (case po_Want => k_is)
    (case sa_Want => k_is)
    (case mk_Want => k_is)
    (case kc_Want => k_is)
    (case at_Want_k => k_is)
    (case at_Want_s => k_is)
    (case at_Want_u => k_is)
    (case at_Want_t => k_is)
    (case at_Want_kinds => k_is)
    (case at_Want_post => k_is)
    (case n_abs => k_is)
    (case n_all => k_is)
    (case n_any => k_is)
    (case n_bool => k_is)
    (case n_int => k_is)
    (case n_isinstance => k_is)
    (case n_len => k_is)
    (case n_list => k_is)
    (case n_max => k_is)
    (case n_min => k_is)
    (case n_range => k_is)
    (case n_sorted => k_is)
    (case n_str => k_is)
    (case n_tuple => k_is)
    (case g_POSTS => k_is)
    (case e_POSTS => k_is)
    (case g_MOST_LOT => k_is)
    (case g_MOST_SEEN => k_is)
    (case g_MOST_PACKED => k_is)
    (case g_PROMISES => k_is)
    (case e_PROMISES => k_is)
#print axioms PySem.Challenge.cw_allapart_k56_whole_what_each_promise_cos_holds
