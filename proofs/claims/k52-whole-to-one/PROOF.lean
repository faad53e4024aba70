import PyProof.Rows.All
import Wide.All
import OpenK.AllK
import Wide.FinOn
import PyProof.EqAt
import PyProof.EqKinds
import PyProof.TupleCall
import HandS.ForMost
import KE.SortData
import HandS.TupAny
import HandS.TupMul
import HandS.Wide
import HandS.IsInst
import HandS.Deep
import HandS.Zip
import HandS.TupLe
import HandS.Flow
import HandS.Style
import PyProof.MeetsIn
import PyProof.StrBlock2
import PyProof.WalkInts
import HandS.List
import HandS.Walk
import HandS.Exc
import HandS.ExcOwn
import HandS.TryMany
import HandS.HotCalls
import HandS.ExcIs
import HandS.More
import HandS.CallSlots
import KE.GoesMore
import PyProof.Draws
import HandS.Strs
import HandS.CallLocal
import HandS.Defaults
import HandS.HeadHook2
import HandS.HeadHook3
import HandS.HeadEnd
import HandS.Head2
import PySem.Challenge.RW_glazework_k52_whole_to_one
set_option Elab.async false
set_option linter.all false
set_option maxRecDepth 100000
set_option autoImplicit false
section -- GzA
/-! GzA: data as values, what stands for them in the heap, the state's relation. -/
namespace Gz
open PySem PySem.Spec PyProof.Rows L2
/-- a value as data -/
inductive D where
  | non
  | bl (b : Bool)
  | int (n : Int)
  | str (s : Str)
  | tup (l : List D)
  | lst (l : List D)
  /-- a list of ints that is known to the object (the script) -/
  | scr (l : List Int)
  | dct (ks : List Str) (vs : List D)
  | fn (f : Str)
  | obj (i : Nat)
  | exc (x : Str)
/-- what stands still: the written part, the module's names, the error in hand and its class -/
structure Wx where
  K : PySem.W.Frag
  mg : Str → Option Value
  ex : Option (Addr × Addr)
/-- ghosts: the zone of the objects, the frozen part of the heap, the objects' addresses, the error in hand -/
structure Gh where
  B : Addr → Prop
  F : Hp
  T : Nat → Option Addr
  X : Option (Addr × Str)
mutual
def Is (W : Wx) (g : Gh) : D → V → Prop
  | .non, v => v = .non
  | .bl b, v => v = .bl b
  | .int n, v => v = .int n
  | .str s, v => v = .str s
  | .tup l, v => ∃ a xs, v = .ref a ∧ SqT W.K g.F a xs ∧ IsL W g l xs
  | .lst l, v => ∃ a xs, v = .ref a ∧ g.F a = some (.lst xs) ∧ IsL W g l xs
  | .scr l, v => ∃ a, v = .ref a ∧ SqL W.K g.F a (l.map V.int)
  | .dct ks vs, v => ∃ a xs, v = .ref a ∧ g.F a = some (.dK ((ks.map (Sum.inr : Str → Key)).zip xs)) ∧ ks.Nodup ∧ IsL W g vs xs ∧ xs.length = ks.length
  | .fn f, v => ∃ a, v = .ref a ∧ W.mg f = some (.ref a)
  | .obj i, v => ∃ a, v = .ref a ∧ g.T i = some a
  | .exc x, v => ∃ a C, v = .ref a ∧ W.ex = some (a, C) ∧ W.mg x = some (.ref C)
def IsL (W : Wx) (g : Gh) : List D → List V → Prop
  | [], vs => vs = []
  | d :: ds, vs => ∃ v r, vs = v :: r ∧ Is W g d v ∧ IsL W g ds r
end
theorem IsL.length {W : Wx} {g : Gh} : ∀ {ds : List D} {vs : List V}, IsL W g ds vs → vs.length = ds.length
  | [], _, h => by unfold IsL at h; subst h; rfl
  | d :: ds, _, h => by
    unfold IsL at h
    obtain ⟨v, r, rfl, _, h⟩ := h
    simp [IsL.length h]
theorem IsL.get {W : Wx} {g : Gh} : ∀ {ds : List D} {vs : List V} {i : Nat} {d : D}, IsL W g ds vs → ds[i]? = some d → ∃ v, vs[i]? = some v ∧ Is W g d v
  | [], _, _, _, _, e => by simp at e
  | d :: ds, _, 0, _, h, e => by
    unfold IsL at h
    obtain ⟨v, r, rfl, h1, _⟩ := h
    simp at e; subst e
    exact ⟨v, rfl, h1⟩
  | d :: ds, _, i + 1, _, h, e => by
    unfold IsL at h
    obtain ⟨v, r, rfl, _, h⟩ := h
    obtain ⟨w, h1, h2⟩ := IsL.get (i := i) h (by simpa using e)
    exact ⟨w, by simpa using h1, h2⟩
theorem IsL.cons {W : Wx} {g : Gh} {d : D} {ds : List D} {v : V} {vs : List V} (h : Is W g d v) (t : IsL W g ds vs) : IsL W g (d :: ds) (v :: vs) := by
  unfold IsL; exact ⟨v, vs, rfl, h, t⟩
theorem IsL.nil {W : Wx} {g : Gh} : IsL W g [] [] := by unfold IsL; rfl
theorem IsL.append {W : Wx} {g : Gh} : ∀ {ds es : List D} {vs ws : List V}, IsL W g ds vs → IsL W g es ws → IsL W g (ds ++ es) (vs ++ ws)
  | [], _, _, _, h, t => by unfold IsL at h; subst h; exact t
  | d :: ds, _, _, _, h, t => by
    unfold IsL at h
    obtain ⟨v, r, rfl, h1, h⟩ := h
    exact IsL.cons h1 (IsL.append h t)
theorem IsL.take {W : Wx} {g : Gh} : ∀ {ds : List D} {vs : List V} (n : Nat), IsL W g ds vs → IsL W g (ds.take n) (vs.take n)
  | _, _, 0, _ => IsL.nil
  | [], _, n + 1, h => by unfold IsL at h; subst h; exact IsL.nil
  | d :: ds, _, n + 1, h => by
    unfold IsL at h
    obtain ⟨v, r, rfl, h1, h⟩ := h
    exact IsL.cons h1 (IsL.take n h)
theorem IsL.drop {W : Wx} {g : Gh} : ∀ {ds : List D} {vs : List V} (n : Nat), IsL W g ds vs → IsL W g (ds.drop n) (vs.drop n)
  | _, _, 0, h => h
  | [], _, n + 1, h => by unfold IsL at h; subst h; exact IsL.nil
  | d :: ds, _, n + 1, h => by
    unfold IsL at h
    obtain ⟨v, r, rfl, h1, h⟩ := h
    exact IsL.drop n h
theorem IsL.set {W : Wx} {g : Gh} {d : D} {v : V} (hd : Is W g d v) : ∀ {ds : List D} {vs : List V} (n : Nat), IsL W g ds vs → IsL W g (ds.set n d) (vs.set n v)
  | [], _, n, h => by unfold IsL at h; subst h; exact IsL.nil
  | e :: ds, _, 0, h => by
    unfold IsL at h
    obtain ⟨w, r, rfl, h1, h⟩ := h
    exact IsL.cons hd h
  | e :: ds, _, n + 1, h => by
    unfold IsL at h
    obtain ⟨w, r, rfl, h1, h⟩ := h
    exact IsL.cons h1 (IsL.set hd n h)
theorem IsL.reverse {W : Wx} {g : Gh} : ∀ {ds : List D} {vs : List V}, IsL W g ds vs → IsL W g ds.reverse vs.reverse
  | [], _, h => by unfold IsL at h; subst h; exact IsL.nil
  | d :: ds, _, h => by
    unfold IsL at h
    obtain ⟨v, r, rfl, h1, h⟩ := h
    rw [List.reverse_cons, List.reverse_cons]
    exact (IsL.reverse h).append (IsL.cons h1 IsL.nil)
theorem IsL.flat {W : Wx} {g : Gh} {ds : List D} {vs : List V} (h : IsL W g ds vs) : ∀ n : Nat, IsL W g (List.replicate n ds).flatten (List.replicate n vs).flatten
  | 0 => IsL.nil
  | n + 1 => by
    rw [List.replicate_succ, List.replicate_succ, List.flatten_cons, List.flatten_cons]
    exact h.append (IsL.flat h n)
theorem IsL.strs {W : Wx} {g : Gh} : ∀ {ss : List Str} {vs : List V}, IsL W g (ss.map D.str) vs → vs = ss.map V.str
  | [], _, h => by unfold IsL at h; exact h
  | s :: ss, _, h => by
    rw [List.map_cons] at h
    unfold IsL at h
    obtain ⟨v, r, rfl, h1, h⟩ := h
    unfold Is at h1
    subst h1
    rw [List.map_cons, IsL.strs h]
theorem IsL.ints {W : Wx} {g : Gh} : ∀ {ss : List Int} {vs : List V}, IsL W g (ss.map D.int) vs → vs = ss.map V.int
  | [], _, h => by unfold IsL at h; exact h
  | s :: ss, _, h => by
    rw [List.map_cons] at h
    unfold IsL at h
    obtain ⟨v, r, rfl, h1, h⟩ := h
    unfold Is at h1
    subst h1
    rw [List.map_cons, IsL.ints h]
theorem IsL.bls {W : Wx} {g : Gh} : ∀ {ss : List Bool} {vs : List V}, IsL W g (ss.map D.bl) vs → vs = ss.map V.bl
  | [], _, h => by unfold IsL at h; exact h
  | s :: ss, _, h => by
    rw [List.map_cons] at h
    unfold IsL at h
    obtain ⟨v, r, rfl, h1, h⟩ := h
    unfold Is at h1
    subst h1
    rw [List.map_cons, IsL.bls h]
/-- the written part and what is frozen stay -/
theorem SqT.mono {K : PySem.W.Frag} {H H' : Hp} {a : Addr} {xs : List V} (e : Same H H') (h : SqT K H a xs) : SqT K H' a xs := by
  rcases h with (h | ⟨o, h⟩) | h
  · exact .inl (.inl (e _ _ h))
  · exact .inl (.inr ⟨o, e _ _ h⟩)
  · exact .inr h
/-- ghosts grow -/
structure GLe (g g' : Gh) : Prop where
  F : Same g.F g'.F
  T : ∀ k a, g.T k = some a → g'.T k = some a
  X : g'.X = g.X
theorem GLe.refl (g : Gh) : GLe g g := ⟨Same.refl _, fun _ _ h => h, rfl⟩
theorem GLe.trans {g g1 g2 : Gh} (a : GLe g g1) (b : GLe g1 g2) : GLe g g2 := ⟨a.F.trans b.F, fun k x h => b.T k x (a.T k x h), b.X.trans a.X⟩
mutual
theorem Is.mono {W : Wx} {g g' : Gh} (e : GLe g g') : ∀ {d : D} {v : V}, Is W g d v → Is W g' d v
  | .non, _, h => by unfold Is at h ⊢; exact h
  | .bl _, _, h => by unfold Is at h ⊢; exact h
  | .int _, _, h => by unfold Is at h ⊢; exact h
  | .str _, _, h => by unfold Is at h ⊢; exact h
  | .tup l, _, h => by unfold Is at h ⊢; obtain ⟨a, xs, rfl, h1, h2⟩ := h; exact ⟨a, xs, rfl, SqT.mono e.F h1, IsL.mono e h2⟩
  | .lst l, _, h => by unfold Is at h ⊢; obtain ⟨a, xs, rfl, h1, h2⟩ := h; exact ⟨a, xs, rfl, e.F _ _ h1, IsL.mono e h2⟩
  | .scr l, _, h => by unfold Is at h ⊢; obtain ⟨a, rfl, h1⟩ := h; exact ⟨a, rfl, e.F.seq h1⟩
  | .dct ks vs, _, h => by unfold Is at h ⊢; obtain ⟨a, xs, rfl, h1, h2, h3, h4⟩ := h; exact ⟨a, xs, rfl, e.F _ _ h1, h2, IsL.mono e h3, h4⟩
  | .fn f, _, h => by unfold Is at h ⊢; exact h
  | .obj i, _, h => by unfold Is at h ⊢; obtain ⟨a, rfl, h1⟩ := h; exact ⟨a, rfl, e.T _ _ h1⟩
  | .exc x, _, h => by unfold Is at h ⊢; exact h
theorem IsL.mono {W : Wx} {g g' : Gh} (e : GLe g g') : ∀ {ds : List D} {vs : List V}, IsL W g ds vs → IsL W g' ds vs
  | [], _, h => by unfold IsL at h ⊢; exact h
  | d :: ds, _, h => by
    unfold IsL at h ⊢
    obtain ⟨v, r, rfl, h1, h⟩ := h
    exact ⟨v, r, rfl, Is.mono e h1, IsL.mono e h⟩
end
/-- a slot: nothing, frozen data, a list or a dict of its own -/
inductive Cell where
  | un
  | fr (d : D)
  | own (l : List D)
  | owd (ks : List Str) (vs : List D)
abbrev Env := List Cell
/-- an object: its class, its fields -/
structure Ob where
  cls : Str
  flds : List (Str × Cell)
abbrev Store := List Ob
/-- a list of one's own at a: tracked, not frozen, outside the objects' zone -/
def OwnL (W : Wx) (g : Gh) (H : Hp) (l : List D) (v : V) : Prop := ∃ a xs, v = .ref a ∧ H a = some (.lst xs) ∧ g.F a = none ∧ IsL W g l xs
def OwnD (W : Wx) (g : Gh) (H : Hp) (ks : List Str) (vs : List D) (v : V) : Prop := ∃ a xs, v = .ref a ∧ H a = some (.dK ((ks.map (Sum.inr : Str → Key)).zip xs)) ∧ g.F a = none ∧ ks.Nodup ∧ IsL W g vs xs ∧ xs.length = ks.length
def CellIs (W : Wx) (g : Gh) (H : Hp) : Cell → Option V → Prop
  | .un, _ => True
  | .fr d, o => ∃ v, o = some v ∧ Is W g d v
  | .own l, o => ∃ v, o = some v ∧ OwnL W g H l v
  | .owd ks vs, o => ∃ v, o = some v ∧ OwnD W g H ks vs v
def Cell.isOwn : Cell → Bool
  | .own _ => true
  | .owd _ _ => true
  | _ => false
/-- a field's cell -/
def FldsIs (W : Wx) (g : Gh) (H : Hp) (fs : List (Str × Cell)) (vs : List (Str × V)) : Prop :=
  vs.map (·.1) = fs.map (·.1) ∧ ∀ (j : Nat) n c, fs[j]? = some (n, c) → c ≠ .un ∧ ∃ v, vs[j]? = some (n, v) ∧ CellIs W g H c (some v) ∧ (c.isOwn = true → ∃ a, v = .ref a ∧ g.B a)
/-- the objects -/
structure ObsIs (W : Wx) (g : Gh) (H : Hp) (S : Store) : Prop where
  dom : ∀ k, (∃ a, g.T k = some a) ↔ k < S.length
  inj : ∀ k j a, g.T k = some a → g.T j = some a → k = j
  at_ : ∀ k ob, S[k]? = some ob → ∃ a C dx vs, g.T k = some a ∧ g.B a ∧ W.mg ob.cls = some (.ref C) ∧ H a = some (.ins C dx vs) ∧ FldsIs W g H ob.flds vs
  dis : ∀ (k j : Nat) (ob ob' : Ob) (i i' : Nat) (n n' : Str) (c c' : Cell) (a C dx : Addr) (vs : List (Str × V)) (C' dx' : Addr) (vs' : List (Str × V)), S[k]? = some ob → S[j]? = some ob' → ob.flds[i]? = some (n, c) → ob'.flds[i']? = some (n', c') → c.isOwn = true → c'.isOwn = true →
    (∃ x, g.T k = some x ∧ H x = some (.ins C dx vs)) → (∃ x, g.T j = some x ∧ H x = some (.ins C' dx' vs')) → vs[i]? = some (n, .ref a) → vs'[i']? = some (n', .ref a) → k = j ∧ i = i'
/-- the heap's part of the relation -/
structure HRel (W : Wx) (g : Gh) (H : Hp) (S : Store) : Prop where
  fh : Same g.F H
  fb : ∀ a, g.B a → g.F a = none
  bh : ∀ a, g.B a → ∃ o, H a = some o
  obs : ObsIs W g H S
/-- what an evaluation may do: ghosts grow by new addresses, all that is outside the zone stays -/
structure Ext (g : Gh) (H : Hp) (g' : Gh) (H' : Hp) : Prop where
  le : GLe g g'
  hs : ∀ a o, H a = some o → ∃ o', H' a = some o'
  h : ∀ a o, H a = some o → ¬ g.B a → H' a = some o
  b : ∀ a, g.B a → g'.B a
  bn : ∀ a, g'.B a → ¬ g.B a → H a = none
  fn : ∀ a, g'.F a ≠ none → g.F a = none → H a = none
theorem Ext.refl (g : Gh) (H : Hp) : Ext g H g H := ⟨GLe.refl _, fun _ o h => ⟨o, h⟩, fun _ _ h _ => h, fun _ h => h, fun _ h n => absurd h n, fun _ h n => absurd n h⟩
theorem Ext.trans {g g1 g2 : Gh} {H H1 H2 : Hp} (x : Ext g H g1 H1) (y : Ext g1 H1 g2 H2) : Ext g H g2 H2 where
  le := x.le.trans y.le
  hs := fun a o e => let ⟨o1, e1⟩ := x.hs a o e; y.hs a o1 e1
  h := fun a o e n => y.h a o (x.h a o e n) fun q => by rw [x.bn a q n] at e; cases e
  b := fun a q => y.b a (x.b a q)
  bn := fun a q n => by
    by_cases q1 : g1.B a
    · exact x.bn a q1 n
    · have e1 := y.bn a q q1
      cases e : H a with
      | none => rfl
      | some o => obtain ⟨o1, e2⟩ := x.hs a o e; rw [e1] at e2; cases e2
  fn := fun a q n => by
    by_cases q1 : g1.F a = none
    · have e1 := y.fn a q q1
      cases e : H a with
      | none => rfl
      | some o => obtain ⟨o1, e2⟩ := x.hs a o e; rw [e1] at e2; cases e2
    · exact x.fn a q1 n
/-- what stands and is not frozen stays unfrozen -/
theorem Ext.unf {g g' : Gh} {H H' : Hp} (x : Ext g H g' H') {a : Addr} {o : HO} (e : H a = some o) (n : g.F a = none) : g'.F a = none := by
  cases q : g'.F a with
  | none => rfl
  | some u =>
    have := x.fn a (by rw [q]; simp) n
    rw [e] at this; cases this
theorem Ext.unb {g g' : Gh} {H H' : Hp} (x : Ext g H g' H') {a : Addr} {o : HO} (e : H a = some o) (n : ¬ g.B a) : ¬ g'.B a := fun q => by
  have := x.bn a q n
  rw [e] at this; cases this
/-- the slots' part -/
structure SRel (W : Wx) (g : Gh) (H : Hp) (σ : L2.St) (env : Env) : Prop where
  len : σ.length = env.length
  at_ : ∀ (i : Nat) c, env[i]? = some c → ∃ o, σ[i]? = some o ∧ CellIs W g H c o ∧ (c.isOwn = true → ∀ a, o = some (.ref a) → ¬ g.B a)
  dis : ∀ (i j : Nat) (c c' : Cell) (a : Addr), env[i]? = some c → env[j]? = some c' → c.isOwn = true → c'.isOwn = true → σ[i]? = some (some (.ref a)) → σ[j]? = some (some (.ref a)) → i = j
theorem OwnL.ext {W : Wx} {g g' : Gh} {H H' : Hp} {l : List D} {v : V} (x : Ext g H g' H') (nb : ∀ a, v = .ref a → ¬ g.B a) (h : OwnL W g H l v) : OwnL W g' H' l v := by
  obtain ⟨a, xs, rfl, e, n, hl⟩ := h
  exact ⟨a, xs, rfl, x.h a _ e (nb a rfl), x.unf e n, hl.mono x.le⟩
theorem OwnD.ext {W : Wx} {g g' : Gh} {H H' : Hp} {ks : List Str} {vs : List D} {v : V} (x : Ext g H g' H') (nb : ∀ a, v = .ref a → ¬ g.B a) (h : OwnD W g H ks vs v) : OwnD W g' H' ks vs v := by
  obtain ⟨a, xs, rfl, e, n, hk, hl, hz⟩ := h
  exact ⟨a, xs, rfl, x.h a _ e (nb a rfl), x.unf e n, hk, hl.mono x.le, hz⟩
theorem CellIs.has {W : Wx} {g : Gh} {H : Hp} {c : Cell} {o : Option V} (h : CellIs W g H c o) (q : c.isOwn = true) : ∃ a u, o = some (.ref a) ∧ H a = some u ∧ g.F a = none := by
  cases c with
  | un => cases q
  | fr d => cases q
  | own l => obtain ⟨v, rfl, a, xs, rfl, e, n, _⟩ := h; exact ⟨a, _, rfl, e, n⟩
  | owd ks vs => obtain ⟨v, rfl, a, xs, rfl, e, n, _⟩ := h; exact ⟨a, _, rfl, e, n⟩
theorem CellIs.ext {W : Wx} {g g' : Gh} {H H' : Hp} {c : Cell} {o : Option V} (x : Ext g H g' H') (nb : c.isOwn = true → ∀ a, o = some (.ref a) → ¬ g.B a) (h : CellIs W g H c o) : CellIs W g' H' c o := by
  cases c with
  | un => trivial
  | fr d => obtain ⟨v, rfl, h⟩ := h; exact ⟨v, rfl, h.mono x.le⟩
  | own l => obtain ⟨v, rfl, h⟩ := h; exact ⟨v, rfl, h.ext x fun a e => nb rfl a (by rw [e])⟩
  | owd ks vs => obtain ⟨v, rfl, h⟩ := h; exact ⟨v, rfl, h.ext x fun a e => nb rfl a (by rw [e])⟩
theorem SRel.ext {W : Wx} {g g' : Gh} {H H' : Hp} {σ : L2.St} {env : Env} (s : SRel W g H σ env) (x : Ext g H g' H') : SRel W g' H' σ env where
  len := s.len
  at_ := fun i c e => by
    obtain ⟨o, e1, h, nb⟩ := s.at_ i c e
    refine ⟨o, e1, h.ext x nb, fun q a ea => ?_⟩
    obtain ⟨a', u, e2, e3, _⟩ := h.has q
    rw [ea] at e2; cases e2
    exact x.unb e3 (nb q a ea)
  dis := s.dis
/-- a new object that is frozen at once -/
def Gh.put (g : Gh) (p : Addr) (o : HO) : Gh := { g with F := upd g.F p o }
theorem Gh.put_le {g : Gh} {p : Addr} {o : HO} (h : g.F p = none) : GLe g (g.put p o) := ⟨fun b u e => by show upd g.F p o b = some u; rw [upd_ne (ne_of_none e h)]; exact e, fun _ _ h => h, rfl⟩
theorem FldsIs.keep {W : Wx} {g g' : Gh} {H H' : Hp} {fs : List (Str × Cell)} {vs : List (Str × V)} (le : GLe g g') (hb : ∀ a, g.B a → g'.B a) (k : ∀ a o, H a = some o → g.B a → H' a = some o) (nf : ∀ a, g.B a → g'.F a = none) (h : FldsIs W g H fs vs) : FldsIs W g' H' fs vs := by
  refine ⟨h.1, fun j n c e => ?_⟩
  obtain ⟨hc, v, e1, h1, h2⟩ := h.2 j n c e
  refine ⟨hc, v, e1, ?_, fun q => let ⟨a, ea, hB⟩ := h2 q; ⟨a, ea, hb a hB⟩⟩
  cases c with
  | un => trivial
  | fr d => obtain ⟨v', ev, h⟩ := h1; exact ⟨v', ev, h.mono le⟩
  | own l =>
    obtain ⟨v', ev, a, xs, rfl, e3, n3, hl⟩ := h1
    cases ev
    obtain ⟨a', ea, hB⟩ := h2 rfl
    cases ea
    exact ⟨_, rfl, a, xs, rfl, k a _ e3 hB, nf a hB, hl.mono le⟩
  | owd ks vs =>
    obtain ⟨v', ev, a, xs, rfl, e3, n3, hk, hl, hz⟩ := h1
    cases ev
    obtain ⟨a', ea, hB⟩ := h2 rfl
    cases ea
    exact ⟨_, rfl, a, xs, rfl, k a _ e3 hB, nf a hB, hk, hl.mono le, hz⟩
/-- objects stay where the zone stays -/
theorem ObsIs.keep {W : Wx} {g g' : Gh} {H H' : Hp} {S : Store} (o : ObsIs W g H S) (le : GLe g g') (hT : g'.T = g.T) (hB : g'.B = g.B) (k : ∀ a o, H a = some o → g.B a → H' a = some o) (nf : ∀ a, g.B a → g'.F a = none) : ObsIs W g' H' S where
  dom := by rw [hT]; exact o.dom
  inj := by rw [hT]; exact o.inj
  at_ := fun i ob e => by
    obtain ⟨a, C, dx, vs, h1, h2, h3, h4, h5⟩ := o.at_ i ob e
    exact ⟨a, C, dx, vs, by rw [hT]; exact h1, by rw [hB]; exact h2, h3, k a _ h4 h2, h5.keep le (fun a h => by rw [hB]; exact h) k nf⟩
  dis := fun i j ob ob' p p' n n' c c' a C dx vs C' dx' vs' e1 e2 e3 e4 q1 q2 ⟨x, hx, ex⟩ ⟨y, hy, ey⟩ e5 e6 => by
    obtain ⟨a1, C1, dx1, vs1, h1, h2, h3, h4, h5⟩ := o.at_ i ob e1
    obtain ⟨a2, C2, dx2, vs2, k1, k2, k3, k4, k5⟩ := o.at_ j ob' e2
    rw [hT] at hx hy
    rw [h1] at hx; cases hx
    rw [k1] at hy; cases hy
    have z1 := k _ _ h4 h2
    have z2 := k _ _ k4 k2
    rw [z1] at ex; cases ex
    rw [z2] at ey; cases ey
    exact o.dis i j ob ob' p p' n n' c c' a _ _ _ _ _ _ e1 e2 e3 e4 q1 q2 ⟨_, h1, h4⟩ ⟨_, k1, k4⟩ e5 e6
/-- something new stands beside: nothing of the relation is touched -/
theorem HRel.new {W : Wx} {g : Gh} {H : Hp} {S : Store} (h : HRel W g H S) {p : Addr} {o : HO} (np : H p = none) : HRel W g (upd H p o) S ∧ Ext g H g (upd H p o) := by
  have k : ∀ a u, H a = some u → upd H p o a = some u := fun a u e => by rw [upd_ne (ne_of_none e np)]; exact e
  refine ⟨⟨fun a u e => k a u (h.fh a u e), h.fb, fun a q => let ⟨u, e⟩ := h.bh a q; ⟨u, k a u e⟩, h.obs.keep (GLe.refl _) rfl rfl (fun a u e _ => k a u e) h.fb⟩, ?_⟩
  exact ⟨GLe.refl _, fun a u e => ⟨u, k a u e⟩, fun a u e _ => k a u e, fun _ q => q, fun _ q n => absurd q n, fun _ q n => absurd n q⟩
/-- .. and is frozen -/
theorem HRel.put {W : Wx} {g : Gh} {H : Hp} {S : Store} (h : HRel W g H S) {p : Addr} {o : HO} (np : H p = none) : HRel W (g.put p o) (upd H p o) S ∧ Ext g H (g.put p o) (upd H p o) := by
  have k : ∀ a u, H a = some u → upd H p o a = some u := fun a u e => by rw [upd_ne (ne_of_none e np)]; exact e
  have nF : g.F p = none := by
    cases e : g.F p with
    | none => rfl
    | some u => have := h.fh p u e; rw [np] at this; cases this
  have nb : ∀ a, g.B a → (g.put p o).F a = none := fun a q => by
    obtain ⟨u, e⟩ := h.bh a q
    show upd g.F p o a = none
    rw [upd_ne (ne_of_none e np)]
    exact h.fb a q
  refine ⟨⟨fun a u e => ?_, nb, fun a q => let ⟨u, e⟩ := h.bh a q; ⟨u, k a u e⟩, h.obs.keep (Gh.put_le nF) rfl rfl (fun a u e _ => k a u e) nb⟩, ?_⟩
  · have e' : upd g.F p o a = some u := e
    by_cases ha : a = p
    · subst ha; rw [upd_same] at e' ⊢; exact e'
    · rw [upd_ne ha] at e' ⊢; exact h.fh a u e'
  · refine ⟨Gh.put_le nF, fun a u e => ⟨u, k a u e⟩, fun a u e _ => k a u e, fun _ q => q, fun _ q n => absurd q n, fun a q n => ?_⟩
    by_cases ha : a = p
    · subst ha; exact np
    · have q' : upd g.F p o a ≠ none := q
      rw [upd_ne ha] at q'
      exact absurd n q'
/-- what stands, unfrozen, outside the zone, is frozen: seen from a state in which it did not stand -/
theorem HRel.freeze {W : Wx} {g g0 : Gh} {H H0 : Hp} {S : Store} (h : HRel W g H S) (x : Ext g0 H0 g H) {p : Addr} {o : HO} (hp : H p = some o) (np : H0 p = none) (nb : ¬ g.B p) : HRel W (g.put p o) H S ∧ Ext g0 H0 (g.put p o) H := by
  have le : GLe g (g.put p o) := by
    refine ⟨fun b u e => ?_, fun _ _ h => h, rfl⟩
    show upd g.F p o b = some u
    by_cases hb : b = p
    · subst hb
      have := h.fh b u e
      rw [hp] at this; cases this
      exact upd_same
    · rw [upd_ne hb]; exact e
  have nB : ∀ a, g.B a → (g.put p o).F a = none := fun a q => by
    show upd g.F p o a = none
    by_cases ha : a = p
    · subst ha; exact absurd q nb
    · rw [upd_ne ha]; exact h.fb a q
  refine ⟨⟨fun a u e => ?_, nB, h.bh, h.obs.keep le rfl rfl (fun _ _ e _ => e) nB⟩, ⟨x.le.trans le, x.hs, x.h, x.b, x.bn, fun a q n => ?_⟩⟩
  · have e' : upd g.F p o a = some u := e
    by_cases ha : a = p
    · subst ha; rw [upd_same] at e'; cases e'; exact hp
    · rw [upd_ne ha] at e'; exact h.fh a u e'
  · by_cases ha : a = p
    · subst ha; exact np
    · have q' : upd g.F p o a ≠ none := q
      rw [upd_ne ha] at q'
      exact x.fn a q' n
end Gz
end -- GzA
section -- GzB
/-! GzB: the small language, and what it computes. -/
namespace SX
/-- one more key that is met -/
def met {K : Type} [DecidableEq K] (acc : List K) (k : K) : List K := if k ∈ acc then acc else acc ++ [k]
/-- the keys in the order in which they are met first -/
def dd {K : Type} [DecidableEq K] (l : List K) : List K := l.foldl met []
end SX
namespace Gz
open PySem PySem.Spec PyProof.Rows L2
inductive Op2 where
  | add | sub | mul | fdiv | mod | pow
inductive Cm where
  | eq | ne | lt | le | gt | ge | isin | notin | is | isnot
inductive Bi where
  | len | tuple | list | all | any | min | max | int | str | sum | sorted | dict | lenSet | srtSet | lrange
inductive Ty where
  | int | bool | tuple | str | list | exc (x : Str)
inductive Mt where
  | join | split | count | index | get
/-- a target: a name's slot, or several -/
inductive Tg where
  | one (i : Nat)
  | many (l : List Nat)
/-- what is walked -/
inductive Ik where
  | seq | rng | zip | enum
mutual
inductive E where
  | var (i : Nat)
  | int (n : Int)
  | bl (b : Bool)
  | non
  | str (s : Str)
  | glob (x : Str)
  | fnv (x : Str)
  /-- an item of a module's dict of defs -/
  | gix (x : Str) (a : E)
  | bin (o : Op2) (a b : E)
  | cmp (o : Cm) (a b : E)
  | chain (o o' : Cm) (a b c : E)
  | not (a : E)
  | and (a b : E)
  | or (a b : E)
  | ite (c a b : E)
  | tup (es : Es)
  | lst (es : Es)
  | dct (ks : List Str) (es : Es)
  | idx (a i : E)
  | slL (a lo : E)
  | slU (a hi : E)
  | slB (a lo hi : E)
  | rev (a : E)
  /-- len(set(a)) -/
  | lenS (a : E)
  | call (f : Str) (es : Es)
  | callv (i : Nat) (es : Es)
  | calle (a : E) (es : Es)
  | bi (b : Bi) (es : Es)
  | isi (t : Ty) (a : E)
  /-- isinstance(a, T), T a class of errors -/
  | isx (T : Str) (a : E)
  | mt (m : Mt) (o : E) (es : Es)
  | lc (vs : List (Str × Nat)) (tg : Tg) (k : Ik) (it : Es) (cs : Es) (elt : E)
inductive Es where
  | nil
  | cons (e : E) (es : Es)
end
mutual
inductive S where
  | asg (i : Nat) (e : E)
  /-- the slot gets a list or a dict of its own -/
  | asgO (i : Nat) (e : E)
  | asgT (l : List Nat) (e : E)
  /-- i, j = a, b both written -/
  | par (i j : Nat) (a b : E)
  | app (i : Nat) (e : E)
  | ext (i : Nat) (e : E)
  /-- x[a:b] = e -/
  | setSl (i : Nat) (a b e : E)
  /-- x[a] = e -/
  | setIx (i : Nat) (a e : E)
  | ret (e : E)
  /-- the slot's own list goes out -/
  | retO (i : Nat)
  | ifs (c : E) (a b : Ss)
  | for_ (tg : Tg) (k : Ik) (it : Es) (b : Ss)
  | whil (c : E) (b : Ss)
  | expr (e : E)
  | pass
  /-- ghost: the slot's own list is frozen -/
  | frz (i : Nat)
  /-- raise x('..') -/
  | rais (x : Str)
  /-- try: b, except T as i: h -/
  | try_ (b : Ss) (T : Str) (i : Nat) (h : Ss)
  | never
inductive Ss where
  | nil
  | cons (s : S) (ss : Ss)
end
structure Fn where
  ps : Nat
  slots : Nat
  body : Ss
structure Prog where
  defs : List (Str × Fn)
  cons : List (Str × D)
  tabs : List (Str × List (Str × Str)) := []
  /-- the classes of errors that are raised -/
  excs : List Str := []
  /-- defs that are called where an error is in hand -/
  hots : List Str := []
  /-- an error is in hand -/
  hot : Bool := false
def Prog.hotP (P : Prog) : Prog := { P with hot := true }
/-- is an error of the class x one of T -/
def excSub (x T : Str) : Bool := decide (x = T) || decide (T = ("GlazeError" : Str)) || decide (T = ("ValueError" : Str))
def Prog.exs (P : Prog) (x T : Str) : Option Bool := if x ∈ P.excs then some (excSub x T) else none
/-! ### answers -/
inductive K3 where
  | fr | own | bor
  deriving DecidableEq
structure Rv where
  d : D
  k : K3
abbrev Rv.fr (d : D) : Rv := ⟨d, .fr⟩
inductive Out (α : Type) where
  | ok (a : α) (S : Store)
  | exc (x : Str) (S : Store)
  | no
def Out.bind {α β : Type} (o : Out α) (f : α → Store → Out β) : Out β := match o with
  | .ok a S => f a S
  | .exc x S => .exc x S
  | .no => .no
abbrev M (α : Type) := Store → Out α
def ofOpt {α : Type} (o : Option α) (S : Store) : Out α := match o with
  | some a => .ok a S
  | none => .no
abbrev Calls := Str → List D → M Rv
mutual
/-- no error is in it -/
def D.noX : D → Bool
  | .exc _ => false
  | .tup l => D.noXs l
  | .lst l => D.noXs l
  | .dct _ vs => D.noXs vs
  | _ => true
def D.noXs : List D → Bool
  | [] => true
  | d :: ds => D.noX d && D.noXs ds
end
def Prog.isx (P : Prog) (T : Str) : D → Option Bool
  | .exc y => P.exs y T
  | _ => none
def lim : Nat := 16777216
/-- values that may be stored: no borrowed list -/
def Rv.hold (r : Rv) : Option D := match r.k with
  | .bor => none
  | _ => some r.d
/-! ### values -/
mutual
/-- == of Python -/
def D.eqb : D → D → Bool
  | .non, .non => true
  | .bl a, .bl b => a == b
  | .bl a, .int j => (if a then 1 else 0) == j
  | .int i, .bl b => i == (if b then 1 else 0)
  | .int i, .int j => i == j
  | .str x, .str y => x == y
  | .lst xs, .lst ys => D.eqs xs ys
  | .tup xs, .tup ys => D.eqs xs ys
  | _, _ => false
def D.eqs : List D → List D → Bool
  | [], [] => true
  | x :: xs, y :: ys => D.eqb x y && D.eqs xs ys
  | _, _ => false
end
mutual
/-- data that is compared: depth at most n -/
def D.okq : Nat → D → Bool
  | _, .non => true
  | _, .bl _ => true
  | _, .int _ => true
  | _, .str x => PyData.strOk x
  | 0, _ => false
  | n + 1, .tup l => D.oks n l
  | n + 1, .lst l => D.oks n l
  | _ + 1, _ => false
def D.oks : Nat → List D → Bool
  | _, [] => true
  | n, d :: ds => D.okq n d && D.oks n ds
end
def eqO : D → D → Option Bool
  | .scr l, .lst [] => some l.isEmpty
  | a, b => if a.okq 60 && b.okq 60 then some (a.eqb b) else none
def D.truth : D → Option Bool
  | .non => some false
  | .bl b => some b
  | .int i => some (i != 0)
  | .str s => if s.length ≤ lim then some (((s.length : Int)) != 0) else none
  | .tup l => some !l.isEmpty
  | .lst l => some !l.isEmpty
  | .scr l => some !l.isEmpty
  | .dct ks _ => some !ks.isEmpty
  | _ => none
/-- xs[lo:hi] -/
def cut {α : Type} (xs : List α) (lo hi : Option Int) : List α := (xs.drop (HT.sIx xs.length 0 lo)).take (HT.sIx xs.length xs.length hi - HT.sIx xs.length 0 lo)
def atD {α : Type} (xs : List α) (i : Int) : Option α := (ixN xs.length i).bind fun j => xs[j]?
def bools : List D → Option (List Bool)
  | [] => some []
  | .bl b :: r => (bools r).map (b :: ·)
  | _ => none
def intsOf : List D → Option (List Int)
  | [] => some []
  | .int b :: r => (intsOf r).map (b :: ·)
  | _ => none
def strsOf : List D → Option (List Str)
  | [] => some []
  | .str b :: r => (strsOf r).map (b :: ·)
  | _ => none
def okMul (i j : Int) : Bool := decide (i.natAbs.log2 + j.natAbs.log2 < 1000000)
def okDiv (j : Int) : Bool := decide (0 < j) && decide (j.natAbs.log2 < 9000)
def Op2.ev : Op2 → D → D → Option Rv
  | .add, .int i, .int j => some (.fr (.int (i + j)))
  | .add, .str s, .str t => if s.length + t.length ≤ lim then some (.fr (.str (s ++ t))) else none
  | .add, .tup a, .tup b => if a.length + b.length ≤ lim then some (.fr (.tup (a ++ b))) else none
  | .add, .lst a, .lst b => if a.length + b.length ≤ lim then some ⟨.lst (a ++ b), .own⟩ else none
  | .sub, .int i, .int j => some (.fr (.int (i - j)))
  | .mul, .int i, .int j => if okMul i j then some (.fr (.int (i * j))) else none
  | .mul, .str s, .int k => if decide (1 ≤ k) && decide (k ≤ 2) && decide (s.length ≤ 1000) then some (.fr (.str (if k = 1 then s else s ++ s))) else none
  | .mul, .tup a, .int k => if decide (1 ≤ k) && decide (k ≤ 1000) && decide (a.length ≤ 1000) then some (.fr (.tup (List.replicate k.toNat a).flatten)) else none
  | .mul, .lst a, .int k => if decide (-1000 ≤ k) && decide (k ≤ 1000) && decide (a.length ≤ 1000) then some ⟨.lst (List.replicate k.toNat a).flatten, .own⟩ else none
  | .fdiv, .int i, .int j => if okDiv j then some (.fr (.int (i / j))) else none
  | .mod, .int i, .int j => if decide (0 < j) then some (.fr (.int (i % j))) else none
  | .pow, .int i, .int j => if decide (0 ≤ j) && decide (j ≤ 100) && decide (i.natAbs ≤ 1000) then some (.fr (.int (i ^ j.toNat))) else none
  | _, _, _ => none
def Cm.ev : Cm → D → D → Option Bool
  | .eq, a, b => eqO a b
  | .ne, a, b => (eqO a b).map not
  | .lt, .int i, .int j => some (decide (i < j))
  | .le, .int i, .int j => some (decide (i ≤ j))
  | .gt, .int i, .int j => some (decide (j < i))
  | .ge, .int i, .int j => some (decide (j ≤ i))
  | .is, a, .non => match a with
    | .non => some true
    | .bl _ => some false
    | .tup _ => some false
    | .lst _ => some false
    | .int _ => some false
    | .str _ => some false
    | _ => none
  | .isnot, a, .non => match a with
    | .non => some false
    | .bl _ => some true
    | .tup _ => some true
    | .lst _ => some true
    | .int _ => some true
    | .str _ => some true
    | _ => none
  | .is, .bl a, .bl b => some (a == b)
  | .isnot, .bl a, .bl b => some (a != b)
  | .isin, a, .lst l => if a.okq 60 && D.oks 60 l then some (l.any fun z => z.eqb a) else none
  | .isin, a, .tup l => if a.okq 60 && D.oks 60 l then some (l.any fun z => z.eqb a) else none
  | .isin, .str s, .str z => match s.cps.toList with
    | [c] => some (decide (c ∈ z.cps.toList))
    | _ => none
  | .notin, a, .lst l => if a.okq 60 && D.oks 60 l then some (!l.any fun z => z.eqb a) else none
  | .notin, a, .tup l => if a.okq 60 && D.oks 60 l then some (!l.any fun z => z.eqb a) else none
  | .notin, .str s, .str z => match s.cps.toList with
    | [c] => some (!decide (c ∈ z.cps.toList))
    | _ => none
  | _, _, _ => none
def idxEv : D → D → Option D
  | .tup l, .int i => atD l i
  | .lst l, .int i => atD l i
  | .scr l, .int i => (atD l i).map D.int
  | .str s, .int i => if s.length ≤ lim then (atD s.cps.toList i).map fun c => D.str ⟨#[c]⟩ else none
  | _, _ => none
def D.intO : Option D → Option (Option Int)
  | none => some none
  | some (.int i) => some (some i)
  | _ => none
def D.toInt : D → Option Int
  | .int i => some i
  | _ => none
def slEv (a : D) (lo hi : Option D) : Option Rv := match D.intO lo, D.intO hi with
  | some lo, some hi => (match a with
    | .tup l => some (.fr (.tup (cut l lo hi)))
    | .lst l => some ⟨.lst (cut l lo hi), .own⟩
    | .str s => if s.length ≤ lim then some (.fr (.str ⟨(cut s.cps.toList lo hi).toArray⟩)) else none
    | _ => none)
  | _, _ => none
def revEv : D → Option Rv
  | .lst l => some ⟨.lst l.reverse, .own⟩
  | .tup l => some (.fr (.tup l.reverse))
  | _ => none
/-- how many unlike texts -/
def lenSEv : D → Option Rv
  | .lst l => (strsOf l).bind fun ss => if ss.length ≤ 1000 then some (.fr (.int (SX.dd ss).length)) else none
  | _ => none
def minL : List Int → Option Int
  | [] => none
  | x :: r => some (r.foldl (fun m y => if y < m then y else m) x)
def maxL : List Int → Option Int
  | [] => none
  | x :: r => some (r.foldl (fun m y => if y > m then y else m) x)
/-- what may be sorted: tuples with an item, or whole numbers, all alike -/
def D.tup1 : D → Bool
  | .tup (_ :: _) => true
  | _ => false
def D.isInt : D → Bool
  | .int _ => true
  | _ => false
mutual
/-- as data of the library -/
def D.py : D → PyData
  | .non => .none
  | .bl b => .bool b
  | .int i => .int i
  | .str s => .str s
  | .tup l => .tuple (D.pys l)
  | .lst l => .list (D.pys l)
  | _ => .none
def D.pys : List D → List PyData
  | [] => []
  | d :: ds => D.py d :: D.pys ds
end
def srtOk (l : List D) : Bool := (l.all fun a => l.all fun b => PySem.W.alike a.py b.py) && (l.all D.tup1 || l.all D.isInt)
def srtD (l : List D) : List D := l.mergeSort (PySem.W.dataLe false D.py)
def Bi.ev : Bi → List D → Option Rv
  | .sorted, [.tup l] => if D.oks 60 l && srtOk l then some ⟨.lst (srtD l), .own⟩ else none
  | .sorted, [.lst l] => if D.oks 60 l && srtOk l then some ⟨.lst (srtD l), .own⟩ else none
  | .len, [.tup l] => some (.fr (.int l.length))
  | .len, [.lst l] => some (.fr (.int l.length))
  | .len, [.scr l] => some (.fr (.int l.length))
  | .len, [.str s] => if s.length ≤ lim then some (.fr (.int s.length)) else none
  | .tuple, [.tup l] => some (.fr (.tup l))
  | .tuple, [.lst l] => some (.fr (.tup l))
  | .list, [.tup l] => some ⟨.lst l, .own⟩
  | .list, [.lst l] => some ⟨.lst l, .own⟩
  | .all, [.lst l] => (bools l).map fun bs => .fr (.bl (bs.all id))
  | .any, [.lst l] => (bools l).map fun bs => .fr (.bl (bs.any id))
  | .min, [.int i, .int j] => some (.fr (.int (if j < i then j else i)))
  | .max, [.int i, .int j] => some (.fr (.int (if j > i then j else i)))
  | .min, [.lst l] => (intsOf l).bind fun is => (minL is).map fun i => .fr (.int i)
  | .max, [.lst l] => (intsOf l).bind fun is => (maxL is).map fun i => .fr (.int i)
  | .max, [.tup l] => (intsOf l).bind fun is => (maxL is).map fun i => .fr (.int i)
  | .int, [.int i] => some (.fr (.int i))
  | .int, [.bl b] => some (.fr (.int (if b then 1 else 0)))
  | .str, [.int i] => if i.natAbs.log2 < 1920 then some (.fr (.str (toString i))) else none
  | .sum, [.lst l] => (intsOf l).map fun is => .fr (.int is.sum)
  | _, _ => none
def Ty.ev : Ty → D → Option Bool
  | .int, .int _ => some true
  | .int, .bl _ => some true
  | .bool, .bl _ => some true
  | .tuple, .tup _ => some true
  | .str, .str _ => some true
  | .list, .lst _ => some true
  | .int, .non => some false
  | .int, .str _ => some false
  | .int, .tup _ => some false
  | .int, .lst _ => some false
  | .bool, .non => some false
  | .bool, .int _ => some false
  | .bool, .str _ => some false
  | .bool, .tup _ => some false
  | .bool, .lst _ => some false
  | .tuple, .non => some false
  | .tuple, .bl _ => some false
  | .tuple, .int _ => some false
  | .tuple, .str _ => some false
  | .tuple, .lst _ => some false
  | .str, .non => some false
  | .str, .bl _ => some false
  | .str, .int _ => some false
  | .str, .tup _ => some false
  | .str, .lst _ => some false
  | .list, .non => some false
  | .list, .bl _ => some false
  | .list, .int _ => some false
  | .list, .str _ => some false
  | .list, .tup _ => some false
  | _, _ => none
def joinOk (s : Str) (l : List Str) : Bool := decide ((l.map (·.length)).sum + l.length * s.length ≤ 16777216)
def Mt.ev : Mt → D → List D → Option Rv
  | .join, .str s, [.lst l] => (strsOf l).bind fun ss => if joinOk s ss then some (.fr (.str (Txt.join s ss))) else none
  | .index, .lst l, [a] => if a.okq 60 && D.oks 60 l then (l.findIdx? fun z => z.eqb a).map fun j => .fr (.int (j : Nat)) else none
  | .count, .lst l, [a] => if a.okq 60 && D.oks 60 l then some (.fr (.int (l.countP fun z => z.eqb a : Nat))) else none
  | _, _, _ => none
def Mt.okO : Mt → D → Bool
  | .join, .str _ => true
  | .index, .lst _ => true
  | .count, .lst _ => true
  | _, _ => false
/-- what is walked: its items -/
def itEv : Ik → List D → Option (List D)
  | .seq, [.tup l] => some l
  | .seq, [.lst l] => some l
  | .seq, [.scr l] => some (l.map D.int)
  | .seq, [.str s] => some (s.cps.toList.map fun c => D.str ⟨#[c]⟩)
  | .rng, [.int n] => if decide (n < lim) && decide (-lim < n) then some ((List.range n.toNat).map fun (i : Nat) => D.int i) else none
  | .rng, [.int a, .int n] => if decide (n < lim) && decide (-lim < n) && decide (a < lim) && decide (-lim < a) then some ((List.range (n - a).toNat).map fun (i : Nat) => D.int (a + (i : Int))) else none
  | .zip, [.tup a, .tup b] => some ((a.zip b).map fun p => D.tup [p.1, p.2])
  | .zip, [.lst a, .lst b] => some ((a.zip b).map fun p => D.tup [p.1, p.2])
  | .enum, [.lst a] => some (a.zipIdx.map fun p => D.tup [.int (p.2 : Nat), p.1])
  | .enum, [.tup a] => some (a.zipIdx.map fun p => D.tup [.int (p.2 : Nat), p.1])
  | _, _ => none
/-! ### expressions -/
def setE (env : Env) (i : Nat) (c : Cell) : Env := List.set env i c
def bindL : Env → List Nat → List D → Option Env
  | env, [], [] => some env
  | env, i :: is, d :: ds => bindL (setE env i (.fr d)) is ds
  | _, _, _ => none
/-- the target gets an item -/
def Tg.bind (t : Tg) (env : Env) (d : D) : Option Env := match t with
  | .one i => some (setE env i (.fr d))
  | .many l => match d with
    | .tup ds => bindL env l ds
    | _ => none
def wipeE (env : Env) : List Nat → Env
  | [] => env
  | v :: vs => setE (wipeE env vs) v .un
def lcLoop (f : D → Store → Out (Option D)) : List D → List D → Store → Out (List D)
  | [], acc, S => .ok acc S
  | d :: ds, acc, S => (f d S).bind fun o S' => match o with
    | none => lcLoop f ds acc S'
    | some y => lcLoop f ds (acc ++ [y]) S'
/-- within a comprehension nothing may be raised -/
def Out.calm {α : Type} : Out α → Out α
  | .exc _ _ => .no
  | o => o
def truthR (r : Rv) (S : Store) : Out Bool := ofOpt r.d.truth S
def slotRv : Option Cell → Option Rv
  | some (.fr d) => some (.fr d)
  | some (.own l) => some ⟨.lst l, .bor⟩
  | some (.owd ks vs) => some ⟨.dct ks vs, .bor⟩
  | _ => none
def gixEv (P : Prog) (x : Str) : D → Option Rv
  | .str k => (P.tabs.lookup x).bind fun t => (t.lookup k).map fun f => .fr (.fn f)
  | _ => none
section
variable (cl : Calls) (P : Prog)
mutual
def evE : E → Env → Store → Out Rv
  | .var i, env, S => ofOpt (slotRv env[i]?) S
  | .int n, _, S => .ok (.fr (.int n)) S
  | .bl b, _, S => .ok (.fr (.bl b)) S
  | .non, _, S => .ok (.fr .non) S
  | .str s, _, S => .ok (.fr (.str s)) S
  | .glob x, _, S => ofOpt ((P.cons.lookup x).map Rv.fr) S
  | .fnv x, _, S => .ok (.fr (.fn x)) S
  | .gix x a, env, S => (evE a env S).bind fun y S => ofOpt (gixEv P x y.d) S
  | .bin o a b, env, S => (evE a env S).bind fun x S => (evE b env S).bind fun y S => ofOpt (o.ev x.d y.d) S
  | .cmp o a b, env, S => (evE a env S).bind fun x S => (evE b env S).bind fun y S => ofOpt ((o.ev x.d y.d).map fun b => .fr (.bl b)) S
  | .chain o o' a b c, env, S => (evE a env S).bind fun x S => (evE b env S).bind fun y S => (ofOpt (o.ev x.d y.d) S).bind fun t S => match t with
    | true => (evE c env S).bind fun z S => ofOpt ((o'.ev y.d z.d).map fun b => .fr (.bl b)) S
    | false => .ok (.fr (.bl false)) S
  | .not a, env, S => (evE a env S).bind fun x S => (truthR x S).bind fun t S => .ok (.fr (.bl !t)) S
  | .and a b, env, S => (evE a env S).bind fun x S => (truthR x S).bind fun t S => match t with
    | true => evE b env S
    | false => .ok x S
  | .or a b, env, S => (evE a env S).bind fun x S => (truthR x S).bind fun t S => match t with
    | true => .ok x S
    | false => evE b env S
  | .ite c a b, env, S => (evE c env S).bind fun x S => (truthR x S).bind fun t S => match t with
    | true => evE a env S
    | false => evE b env S
  | .tup es, env, S => (evEs es env S).bind fun ds S => .ok (.fr (.tup ds)) S
  | .lst es, env, S => (evEs es env S).bind fun ds S => .ok ⟨.lst ds, .own⟩ S
  | .dct ks es, env, S => (evEs es env S).bind fun ds S => .ok ⟨.dct ks ds, .own⟩ S
  | .idx a i, env, S => (evE a env S).bind fun x S => (evE i env S).bind fun y S => ofOpt ((idxEv x.d y.d).map Rv.fr) S
  | .slL a i, env, S => (evE a env S).bind fun x S => (evE i env S).bind fun y S => ofOpt (slEv x.d (some y.d) none) S
  | .slU a i, env, S => (evE a env S).bind fun x S => (evE i env S).bind fun y S => ofOpt (slEv x.d none (some y.d)) S
  | .slB a i j, env, S => (evE a env S).bind fun x S => (evE i env S).bind fun y S => (ofOpt y.d.toInt S).bind fun n S => (evE j env S).bind fun z S => ofOpt (slEv x.d (some (.int n)) (some z.d)) S
  | .rev a, env, S => (evE a env S).bind fun x S => ofOpt (revEv x.d) S
  | .lenS a, env, S => (evE a env S).bind fun x S => ofOpt (lenSEv x.d) S
  | .call f es, env, S => (evEs es env S).bind fun ds S => cl f ds S
  | .callv i es, env, S => match env[i]? with
    | some (.fr (.fn f)) => if (P.defs.lookup f).isSome then (evEs es env S).bind fun ds S => cl f ds S else .no
    | _ => .no
  | .calle a es, env, S => (evE a env S).bind fun x S => match x.d with
    | .fn f => if (P.defs.lookup f).isSome then (evEs es env S).bind fun ds S => cl f ds S else .no
    | _ => .no
  | .bi b es, env, S => (evXs es env S).bind fun ds S => ofOpt (b.ev ds) S
  | .isi t a, env, S => (evE a env S).bind fun x S => ofOpt ((t.ev x.d).map fun b => .fr (.bl b)) S
  | .isx T a, env, S => (evE a env S).bind fun x S => ofOpt ((P.isx T x.d).map fun b => .fr (.bl b)) S
  | .mt m o es, env, S => (evE o env S).bind fun x S => if m.okO x.d then (evXs es env S).bind fun ds S => ofOpt (m.ev x.d ds) S else .no
  | .lc vs tg k it cs elt, env, S => (evXs it env S).bind fun xs S => (ofOpt (itEv k xs) S).bind fun ds S =>
    if ds.length ≤ lim then
      ((lcLoop (fun d S => match tg.bind (wipeE env (vs.map (·.2))) d with
        | none => .no
        | some env' => (evT cs env' S).bind fun t S => match t with
          | false => .ok none S
          | true => (evE elt env' S).bind fun y S => ofOpt (y.hold.map some) S) ds [] S).calm).bind fun ys S => .ok ⟨.lst ys, .own⟩ S
    else .no
/-- values that are stored -/
def evEs : Es → Env → Store → Out (List D)
  | .nil, _, S => .ok [] S
  | .cons e es, env, S => (evE e env S).bind fun x S => (ofOpt x.hold S).bind fun d S => (evEs es env S).bind fun ds S => .ok (d :: ds) S
/-- values that are looked at -/
def evXs : Es → Env → Store → Out (List D)
  | .nil, _, S => .ok [] S
  | .cons e es, env, S => (evE e env S).bind fun x S => (evXs es env S).bind fun ds S => .ok (x.d :: ds) S
/-- the tests of a comprehension -/
def evT : Es → Env → Store → Out Bool
  | .nil, _, S => .ok true S
  | .cons e es, env, S => (evE e env S).bind fun x S => (truthR x S).bind fun t S => match t with
    | true => evT es env S
    | false => .ok false S
end
end
/-! ### statements -/
inductive SO where
  | nx (env : Env) (S : Store)
  | rt (r : Rv) (S : Store)
  | ex (x : Str) (env : Env) (S : Store)
  | no
def SO.then_ (o : SO) (f : Env → Store → SO) : SO := match o with
  | .nx env S => f env S
  | o => o
/-- an error is caught: the handler answers data at once, and leaves the objects as they are (there are none) -/
def SO.caught : SO → SO
  | .rt ⟨d, .fr⟩ [] => if d.noX then .rt ⟨d, .fr⟩ [] else .no
  | _ => .no
def SO.catch_ (o : SO) (exs : Str → Str → Option Bool) (T : Str) (i : Nat) (h : Env → Store → SO) : SO := match o with
  | .ex x env S => (match exs x T, S with
    | some true, [] => (h (setE env i (.fr (.exc x))) []).caught
    | some false, S => .ex x env S
    | _, _ => .no)
  | o => o
/-- an expression's answer, then a statement's -/
def Out.st {α : Type} (o : Out α) (env : Env) (f : α → Store → SO) : SO := match o with
  | .ok a S => f a S
  | .exc x S => .ex x env S
  | .no => .no
def Out.toO {α : Type} (o : Option α) (f : α → SO) : SO := match o with
  | some a => f a
  | none => .no
def forLoop (b : D → Env → Store → SO) : List D → Env → Store → SO
  | [], env, S => .nx env S
  | d :: ds, env, S => (b d env S).then_ fun env S => forLoop b ds env S
def whileN (c : Env → Store → Out Bool) (b : Env → Store → SO) : Nat → Env → Store → SO
  | 0, _, _ => .no
  | n + 1, env, S => (c env S).st env fun t S => match t with
    | true => (b env S).then_ fun env S => whileN c b n env S
    | false => .nx env S
open Classical in
/-- as many turns as there are -/
noncomputable def whileD (c : Env → Store → Out Bool) (b : Env → Store → SO) (env : Env) (S : Store) : SO :=
  if h : ∃ n, whileN c b n env S ≠ .no then whileN c b h.choose env S else .no
/-- a fresh list or dict, as a slot's own -/
def Rv.cell (r : Rv) : Option Cell := match r.k, r.d with
  | .own, .lst l => some (.own l)
  | .own, .dct ks vs => some (.owd ks vs)
  | _, _ => none
section
variable (cl : Calls) (P : Prog)
mutual
noncomputable def evS : S → Env → Store → SO
  | .asg i e, env, S => (evE cl P e env S).st env fun x S => Out.toO x.hold fun d => .nx (setE env i (.fr d)) S
  | .asgO i e, env, S => (evE cl P e env S).st env fun x S => Out.toO x.cell fun c => .nx (setE env i c) S
  | .asgT l e, env, S => (evE cl P e env S).st env fun x S => Out.toO ((Tg.many l).bind env x.d) fun env => .nx env S
  | .par i j a b, env, S => (evEs cl P (.cons a (.cons b .nil)) env S).st env fun ds S => match ds with
    | [x, y] => .nx (setE (setE env i (.fr x)) j (.fr y)) S
    | _ => .no
  | .app i e, env, S => match env[i]? with
    | some (.own l) => (evE cl P e env S).st env fun x S => Out.toO x.hold fun d => if l.length < lim then .nx (setE env i (.own (l ++ [d]))) S else .no
    | _ => .no
  | .ext i e, env, S => match env[i]? with
    | some (.own l) => (evE cl P e env S).st env fun x S => match x.d with
      | .lst l' => if l.length + l'.length ≤ lim then .nx (setE env i (.own (l ++ l'))) S else .no
      | .tup l' => if l.length + l'.length ≤ lim then .nx (setE env i (.own (l ++ l'))) S else .no
      | _ => .no
    | _ => .no
  | .setSl i a b e, env, S => (evE cl P e env S).st env fun x S => Out.toO x.hold fun d => match d, env[i]? with
    | .lst l', some (.own l) => (evE cl P a env S).st env fun y S => Out.toO y.d.toInt fun p => (evE cl P b env S).st env fun z S => Out.toO z.d.toInt fun q =>
      if 0 ≤ p ∧ p ≤ q ∧ l.length + l'.length ≤ lim then .nx (setE env i (.own (l.take p.toNat ++ l' ++ l.drop q.toNat))) S else .no
    | _, _ => .no
  | .setIx i a e, env, S => .no
  | .ret e, env, S => (evE cl P e env S).st env fun x S => .rt x S
  | .retO i, env, S => match env[i]? with
    | some (.own l) => .rt ⟨.lst l, .own⟩ S
    | some (.owd ks vs) => .rt ⟨.dct ks vs, .own⟩ S
    | _ => .no
  | .ifs c a b, env, S => (evE cl P c env S).st env fun x S => Out.toO x.d.truth fun t => match t with
    | true => evSs a env S
    | false => evSs b env S
  | .for_ tg k it b, env, S => (evEs cl P it env S).st env fun xs S => Out.toO (itEv k xs) fun ds =>
    forLoop (fun d env S => Out.toO (tg.bind env d) fun env => evSs b env S) ds env S
  | .whil c b, env, S => whileD (fun env S => (evE cl P c env S).bind truthR) (fun env S => evSs b env S) env S
  | .expr e, env, S => (evE cl P e env S).st env fun _ S => .nx env S
  | .pass, env, S => .nx env S
  | .frz i, env, S => match env[i]? with
    | some (.own l) => .nx (setE env i (.fr (.lst l))) S
    | some (.owd ks vs) => .nx (setE env i (.fr (.dct ks vs))) S
    | _ => .no
  | .rais x, env, S => .ex x env S
  | .try_ b T i h, env, S => (evSs b env S).catch_ P.exs T i fun env S => evSs h env S
  | .never, _, _ => .no
noncomputable def evSs : Ss → Env → Store → SO
  | .nil, env, S => .nx env S
  | .cons s ss, env, S => (evS s env S).then_ fun env S => evSs ss env S
end
end
noncomputable def Fn.run (f : Fn) (cl : Calls) (P : Prog) (ds : List D) (S : Store) : Out Rv :=
  if ds.length = f.ps then
    match evSs cl P f.body (ds.map Cell.fr ++ List.replicate (f.slots - ds.length) .un) S with
    | .nx _ S => .ok (.fr .non) S
    | .rt r S => .ok r S
    | .ex x _ S => .exc x S
    | .no => .no
  else .no
/-- what a def answers, calls n deep -/
noncomputable def den (P : Prog) : Nat → Calls
  | 0, _, _, _ => .no
  | n + 1, f, ds, S => match P.defs.lookup f with
    | some fn => fn.run (den P n) P ds S
    | none => .no
/-! ### the while loop's equation -/
theorem whileN_up (c : Env → Store → Out Bool) (b : Env → Store → SO) : ∀ (n m : Nat) (env : Env) (S : Store), whileN c b n env S ≠ .no → n ≤ m → whileN c b m env S = whileN c b n env S
  | 0, _, _, _, h, _ => absurd rfl h
  | n + 1, 0, _, _, _, h => absurd h (by omega)
  | n + 1, m + 1, env, S, h, hm => by
    unfold whileN at h ⊢
    cases e : c env S with
    | no => rfl
    | exc x S => rfl
    | ok t S1 =>
      rw [e] at h
      simp only [Out.st] at h ⊢
      cases t with
      | false => rfl
      | true =>
        simp only at h ⊢
        cases e2 : b env S1 with
        | nx env' S' =>
          rw [e2] at h
          simp only [SO.then_] at h ⊢
          exact whileN_up c b n m env' S' h (by omega)
        | rt r S => rfl
        | ex x e S => rfl
        | no => rfl
theorem whileD_of {c : Env → Store → Out Bool} {b : Env → Store → SO} {n : Nat} {env : Env} {S : Store} {o : SO} (h : whileN c b n env S = o) (ho : o ≠ .no) : whileD c b env S = o := by
  have hx : ∃ n, whileN c b n env S ≠ .no := ⟨n, by rw [h]; exact ho⟩
  unfold whileD
  rw [dif_pos hx]
  have h1 := hx.choose_spec
  by_cases q : n ≤ hx.choose
  · rw [whileN_up c b n hx.choose env S (by rw [h]; exact ho) q, h]
  · rw [← whileN_up c b hx.choose n env S h1 (by omega), h]
theorem whileD_ex {c : Env → Store → Out Bool} {b : Env → Store → SO} {env : Env} {S : Store} (h : whileD c b env S ≠ .no) : ∃ n, whileN c b n env S = whileD c b env S := by
  unfold whileD at h ⊢
  by_cases q : ∃ n, whileN c b n env S ≠ .no
  · rw [dif_pos q]; exact ⟨_, rfl⟩
  · rw [dif_neg q] at h; exact absurd rfl h
theorem whileD_eq (c : Env → Store → Out Bool) (b : Env → Store → SO) (env : Env) (S : Store) :
    whileD c b env S = (c env S).st env fun t S => match t with
      | true => (b env S).then_ fun env S => whileD c b env S
      | false => .nx env S := by
  cases e : c env S with
  | no =>
    have : ∀ n, whileN c b n env S = .no := fun n => by cases n with
      | zero => rfl
      | succ n => unfold whileN; rw [e]; rfl
    simp only [Out.st]
    unfold whileD
    rw [dif_neg (fun ⟨n, h⟩ => h (this n))]
  | exc x S1 => exact whileD_of (n := 1) (by unfold whileN; rw [e]; rfl) (by simp [Out.st])
  | ok t S1 =>
    simp only [Out.st]
    cases t with
    | false => exact whileD_of (n := 1) (by unfold whileN; rw [e]; rfl) (by simp)
    | true =>
      simp only
      cases e2 : b env S1 with
      | rt r S2 => exact whileD_of (n := 1) (by unfold whileN; rw [e]; simp only [Out.st, e2, SO.then_]) (by simp [SO.then_])
      | ex x v S2 => exact whileD_of (n := 1) (by unfold whileN; rw [e]; simp only [Out.st, e2, SO.then_]) (by simp [SO.then_])
      | no =>
        have : ∀ n, whileN c b n env S = .no := fun n => by cases n with
          | zero => rfl
          | succ n => unfold whileN; rw [e]; simp only [Out.st, e2, SO.then_]
        simp only [SO.then_]
        unfold whileD
        rw [dif_neg (fun ⟨n, h⟩ => h (this n))]
      | nx env' S' =>
        simp only [SO.then_]
        by_cases q : whileD c b env' S' = .no
        · rw [q]
          have : ∀ n, whileN c b n env S = .no := fun n => by cases n with
            | zero => rfl
            | succ n =>
              unfold whileN
              rw [e]
              simp only [Out.st, e2, SO.then_]
              cases e3 : whileN c b n env' S' with
              | no => rfl
              | _ => rw [whileD_of (n := n) e3 (by simp)] at q; cases q
          unfold whileD
          rw [dif_neg (fun ⟨n, h⟩ => h (this n))]
        · obtain ⟨n, h⟩ := whileD_ex q
          exact whileD_of (n := n + 1) (by unfold whileN; rw [e]; simp only [Out.st, e2, SO.then_]; exact h) q
end Gz
end -- GzB
section -- GzC
/-! GzC: the operations on values are sound. -/
namespace Gz
open PySem PySem.Spec PyProof.Rows L2
/-- the error that a suite holds, and its class -/
def exO (calm : Bool) (pn : List (Addr × Obj)) : Option (Addr × Addr) := match calm, pn with
  | false, p :: _ => (match p.2.cls with
    | .ref C => some (p.1, C)
    | _ => none)
  | _, _ => none
abbrev wx (X : Cx) : Wx := ⟨X.K, X.mg, exO X.calm X.pn⟩
/-- a list or dict that is not frozen, outside the objects' zone -/
def OwnA (W : Wx) (g : Gh) (H : Hp) (d : D) (v : V) : Prop := ((∃ l, d = .lst l ∧ OwnL W g H l v) ∨ (∃ ks vs, d = .dct ks vs ∧ OwnD W g H ks vs v)) ∧ ∀ a, v = .ref a → ¬ g.B a
/-- a value that is looked at -/
def Rep (W : Wx) (g : Gh) (H : Hp) (d : D) (v : V) : Prop := Is W g d v ∨ OwnA W g H d v
/-- an answer, seen from the heap H0 ahead of it -/
def RvIs (W : Wx) (H0 : Hp) (g : Gh) (H : Hp) (r : Rv) (v : V) : Prop := match r.k with
  | .fr => Is W g r.d v
  | .own => OwnA W g H r.d v ∧ ∀ a, v = .ref a → H0 a = none
  | .bor => OwnA W g H r.d v
theorem RvIs.rep {W : Wx} {H0 : Hp} {g : Gh} {H : Hp} {r : Rv} {v : V} (h : RvIs W H0 g H r v) : Rep W g H r.d v := by
  unfold RvIs at h
  cases e : r.k with
  | fr => rw [e] at h; exact .inl h
  | own => rw [e] at h; exact .inr h.1
  | bor => rw [e] at h; exact .inr h
theorem OwnA.has {W : Wx} {g : Gh} {H : Hp} {d : D} {v : V} (h : OwnA W g H d v) : ∃ a u, v = .ref a ∧ H a = some u ∧ g.F a = none ∧ ¬ g.B a := by
  obtain ⟨⟨l, rfl, a, xs, rfl, e, n, _⟩ | ⟨ks, vs, rfl, a, xs, rfl, e, n, _⟩, nb⟩ := h
  · exact ⟨a, _, rfl, e, n, nb a rfl⟩
  · exact ⟨a, _, rfl, e, n, nb a rfl⟩
theorem OwnA.ext {W : Wx} {g g' : Gh} {H H' : Hp} {d : D} {v : V} (x : Ext g H g' H') (h : OwnA W g H d v) : OwnA W g' H' d v := by
  obtain ⟨a, u, ea, eu, _, nB⟩ := h.has
  refine ⟨?_, fun b eb => by rw [ea] at eb; cases eb; exact x.unb eu nB⟩
  obtain ⟨⟨l, rfl, h⟩ | ⟨ks, vs, rfl, h⟩, nb⟩ := h
  · exact .inl ⟨l, rfl, h.ext x nb⟩
  · exact .inr ⟨ks, vs, rfl, h.ext x nb⟩
/-- what is looked at stays as it is while other things are evaluated -/
theorem Rep.ext {W : Wx} {g g' : Gh} {H H' : Hp} {d : D} {v : V} (x : Ext g H g' H') (h : Rep W g H d v) : Rep W g' H' d v := by
  rcases h with h | h
  · exact .inl (h.mono x.le)
  · exact .inr (h.ext x)
theorem RvIs.later {W : Wx} {H0 : Hp} {g g' : Gh} {H H' : Hp} {r : Rv} {v : V} (h : RvIs W H0 g H r v) (x : Ext g H g' H') : RvIs W H0 g' H' r v := by
  unfold RvIs at h ⊢
  cases e : r.k with
  | fr => rw [e] at h; exact h.mono x.le
  | own => rw [e] at h; exact ⟨h.1.ext x, h.2⟩
  | bor => rw [e] at h; exact h.ext x
/-- seen from further back -/
theorem RvIs.back {W : Wx} {H0 H1 : Hp} {g : Gh} {H : Hp} {r : Rv} {v : V} (h : RvIs W H1 g H r v) (x : ∀ a o, H0 a = some o → ∃ o', H1 a = some o') : RvIs W H0 g H r v := by
  unfold RvIs at h ⊢
  cases e : r.k with
  | fr => rw [e] at h; exact h
  | own =>
    rw [e] at h
    refine ⟨h.1, fun a ea => ?_⟩
    cases q : H0 a with
    | none => rfl
    | some o => obtain ⟨o', e'⟩ := x a o q; rw [h.2 a ea] at e'; cases e'
  | bor => rw [e] at h; exact h
/-! ### the shapes that a value may have -/
section
variable {W : Wx} {g : Gh} {H : Hp} {S : Store} {v : V}
theorem Rep.non (h : Rep W g H .non v) : v = .non := by
  rcases h with h | ⟨⟨l, e, _⟩ | ⟨ks, vs, e, _⟩, _⟩
  · unfold Is at h; exact h
  · cases e
  · cases e
theorem Rep.bl {b : Bool} (h : Rep W g H (.bl b) v) : v = .bl b := by
  rcases h with h | ⟨⟨l, e, _⟩ | ⟨ks, vs, e, _⟩, _⟩
  · unfold Is at h; exact h
  · cases e
  · cases e
theorem Rep.int {n : Int} (h : Rep W g H (.int n) v) : v = .int n := by
  rcases h with h | ⟨⟨l, e, _⟩ | ⟨ks, vs, e, _⟩, _⟩
  · unfold Is at h; exact h
  · cases e
  · cases e
theorem Rep.str {s : Str} (h : Rep W g H (.str s) v) : v = .str s := by
  rcases h with h | ⟨⟨l, e, _⟩ | ⟨ks, vs, e, _⟩, _⟩
  · unfold Is at h; exact h
  · cases e
  · cases e
theorem Rep.tup {l : List D} (r : HRel W g H S) (h : Rep W g H (.tup l) v) : ∃ a xs, v = .ref a ∧ SqT W.K H a xs ∧ IsL W g l xs := by
  rcases h with h | ⟨⟨l, e, _⟩ | ⟨ks, vs, e, _⟩, _⟩
  · unfold Is at h
    obtain ⟨a, xs, rfl, h1, h2⟩ := h
    exact ⟨a, xs, rfl, SqT.mono r.fh h1, h2⟩
  · cases e
  · cases e
theorem Rep.lst {l : List D} (r : HRel W g H S) (h : Rep W g H (.lst l) v) : ∃ a xs, v = .ref a ∧ H a = some (.lst xs) ∧ IsL W g l xs := by
  rcases h with h | ⟨⟨l', e, a, xs, h1, h2, _, h4⟩ | ⟨ks, vs, e, _⟩, _⟩
  · unfold Is at h
    obtain ⟨a, xs, rfl, h1, h2⟩ := h
    exact ⟨a, xs, rfl, r.fh _ _ h1, h2⟩
  · cases e
    exact ⟨a, xs, h1, h2, h4⟩
  · cases e
theorem Rep.scr {l : List Int} (r : HRel W g H S) (h : Rep W g H (.scr l) v) : ∃ a, v = .ref a ∧ SqL W.K H a (l.map V.int) := by
  rcases h with h | ⟨⟨l', e, _⟩ | ⟨ks, vs, e, _⟩, _⟩
  · unfold Is at h
    obtain ⟨a, rfl, h1⟩ := h
    exact ⟨a, rfl, Same.seq r.fh h1⟩
  · cases e
  · cases e
theorem Rep.dct {ks : List Str} {ds : List D} (r : HRel W g H S) (h : Rep W g H (.dct ks ds) v) : ∃ a xs, v = .ref a ∧ H a = some (.dK ((ks.map (Sum.inr : Str → Key)).zip xs)) ∧ ks.Nodup ∧ IsL W g ds xs ∧ xs.length = ks.length := by
  rcases h with h | ⟨⟨l', e, _⟩ | ⟨ks', vs', e, a, xs, h1, h2, _, h4⟩, _⟩
  · unfold Is at h
    obtain ⟨a, xs, rfl, h1, h2⟩ := h
    exact ⟨a, xs, rfl, r.fh _ _ h1, h2⟩
  · cases e
  · cases e
    exact ⟨a, xs, h1, h2, h4⟩
end
/-! ### data that is compared -/
theorem D.pys_map : ∀ ds : List D, D.pys ds = ds.map D.py
  | [] => rfl
  | d :: ds => by rw [D.pys, D.pys_map ds]; rfl
mutual
theorem Is.dp {W : Wx} {g : Gh} {H : Hp} (fh : Same g.F H) : ∀ (n : Nat) (d : D) (v : V), d.okq n = true → Is W g d v → Dp W.K H v d.py
  | _, .non, _, _, h => by unfold Is at h; subst h; exact .non
  | _, .bl b, _, _, h => by unfold Is at h; subst h; exact .bl b
  | _, .int i, _, _, h => by unfold Is at h; subst h; exact .int i
  | _, .str s, _, _, h => by unfold Is at h; subst h; exact .str s
  | 0, .tup l, _, q, _ => by simp [D.okq] at q
  | n + 1, .tup l, _, q, h => by
    unfold Is at h
    obtain ⟨a, xs, rfl, h1, h2⟩ := h
    exact .tup (SqT.mono fh h1) (Is.dps fh n l xs (by simpa [D.okq] using q) h2)
  | 0, .lst l, _, q, _ => by simp [D.okq] at q
  | n + 1, .lst l, _, q, h => by
    unfold Is at h
    obtain ⟨a, xs, rfl, h1, h2⟩ := h
    exact .lst (SqL.of (fh _ _ h1)) (Is.dps fh n l xs (by simpa [D.okq] using q) h2)
  | 0, .scr l, _, q, _ => by simp [D.okq] at q
  | _ + 1, .scr _, _, q, _ => by simp [D.okq] at q
  | 0, .dct _ _, _, q, _ => by simp [D.okq] at q
  | _ + 1, .dct _ _, _, q, _ => by simp [D.okq] at q
  | 0, .fn _, _, q, _ => by simp [D.okq] at q
  | _ + 1, .fn _, _, q, _ => by simp [D.okq] at q
  | 0, .obj _, _, q, _ => by simp [D.okq] at q
  | _ + 1, .obj _, _, q, _ => by simp [D.okq] at q
  | 0, .exc _, _, q, _ => by simp [D.okq] at q
  | _ + 1, .exc _, _, q, _ => by simp [D.okq] at q
theorem Is.dps {W : Wx} {g : Gh} {H : Hp} (fh : Same g.F H) : ∀ (n : Nat) (ds : List D) (vs : List V), D.oks n ds = true → IsL W g ds vs → DpAll W.K H vs (D.pys ds)
  | _, [], _, _, h => by unfold IsL at h; subst h; exact .nil
  | n, d :: ds, _, q, h => by
    unfold IsL at h
    obtain ⟨v, r, rfl, h1, h2⟩ := h
    have q' : d.okq n = true ∧ D.oks n ds = true := by simpa [D.oks] using q
    exact .cons (Is.dp fh n d v q'.1 h1) (Is.dps fh n ds r q'.2 h2)
end
theorem Rep.dp {W : Wx} {g : Gh} {H : Hp} {S : Store} (r : HRel W g H S) {n : Nat} {d : D} {v : V} (q : d.okq n = true) (h : Rep W g H d v) : Dp W.K H v d.py := by
  rcases h with h | ⟨⟨l', rfl, a, xs, rfl, h2, _, h4⟩ | ⟨ks, vs, rfl, _⟩, _⟩
  · exact Is.dp r.fh n d v q h
  · cases n with
    | zero => simp [D.okq] at q
    | succ n => exact .lst (SqL.of h2) (Is.dps r.fh n l' xs (by simpa [D.okq] using q) h4)
  · cases n <;> simp [D.okq] at q
mutual
theorem okq_lay : ∀ (n : Nat) (d : D), d.okq n = true → PyData.canLay0 d.py = true ∧ PyData.depth d.py ≤ n
  | _, .non, _ => by simp [D.py, PyData.canLay0, PyData.depth]
  | _, .bl b, _ => by simp [D.py, PyData.canLay0, PyData.depth]
  | _, .int i, _ => by simp [D.py, PyData.canLay0, PyData.depth]
  | _, .str s, q => by simpa [D.py, PyData.canLay0, PyData.depth, D.okq] using q
  | 0, .tup l, q => by simp [D.okq] at q
  | n + 1, .tup l, q => by
    have z := oks_lay n l (by simpa [D.okq] using q)
    simp only [D.py, PyData.canLay0, PyData.depth]
    exact ⟨z.1, by omega⟩
  | 0, .lst l, q => by simp [D.okq] at q
  | n + 1, .lst l, q => by
    have z := oks_lay n l (by simpa [D.okq] using q)
    simp only [D.py, PyData.canLay0, PyData.depth]
    exact ⟨z.1, by omega⟩
  | 0, .scr l, q => by simp [D.okq] at q
  | _ + 1, .scr _, q => by simp [D.okq] at q
  | 0, .dct _ _, q => by simp [D.okq] at q
  | _ + 1, .dct _ _, q => by simp [D.okq] at q
  | 0, .fn _, q => by simp [D.okq] at q
  | _ + 1, .fn _, q => by simp [D.okq] at q
  | 0, .obj _, q => by simp [D.okq] at q
  | _ + 1, .obj _, q => by simp [D.okq] at q
  | 0, .exc _, q => by simp [D.okq] at q
  | _ + 1, .exc _, q => by simp [D.okq] at q
theorem oks_lay : ∀ (n : Nat) (ds : List D), D.oks n ds = true → PyData.canLayAll0 (D.pys ds) = true ∧ PyData.depthAll (D.pys ds) ≤ n
  | _, [], _ => by simp [D.pys, PyData.canLayAll0, PyData.depthAll]
  | n, d :: ds, q => by
    have q' : d.okq n = true ∧ D.oks n ds = true := by simpa [D.oks] using q
    have z1 := okq_lay n d q'.1
    have z2 := oks_lay n ds q'.2
    simp only [D.pys, PyData.canLayAll0, PyData.depthAll, z1.1, z2.1, Bool.and_self, true_and]
    omega
end
theorem okq_shaped {d : D} (q : d.okq 60 = true) : SeqAt.shaped d.py = true := by
  have z := okq_lay 60 d q
  unfold SeqAt.shaped
  rw [z.1, Bool.true_and]
  exact decide_eq_true (by omega)
theorem oks_shapedL {ds : List D} (q : D.oks 60 ds = true) : SeqAt.shaped (.list (D.pys ds)) = true := by
  have z := oks_lay 60 ds q
  unfold SeqAt.shaped
  simp only [PyData.canLay0, PyData.depth, z.1, Bool.true_and]
  exact decide_eq_true (by omega)
/-- == on data is the library's -/
theorem okq_not {n : Nat} {d : D} (q : d.okq n = true) : (∀ l, d ≠ .scr l) ∧ (∀ x, d ≠ .fn x) ∧ (∀ x, d ≠ .obj x) ∧ (∀ x, d ≠ .exc x) ∧ (∀ x y, d ≠ .dct x y) := by
  refine ⟨fun l e => ?_, fun l e => ?_, fun l e => ?_, fun l e => ?_, fun l m e => ?_⟩ <;> (subst e; cases n <;> simp [D.okq] at q)
mutual
theorem eqv_py : ∀ (n m : Nat) (a b : D), a.okq n = true → b.okq m = true → PyData.eqv a.py b.py = a.eqb b
  | n, m, a, b, qa, qb => by
    have na := okq_not qa
    have nb := okq_not qb
    cases a with
    | scr l => exact absurd rfl (na.1 l)
    | fn l => exact absurd rfl (na.2.1 l)
    | obj l => exact absurd rfl (na.2.2.1 l)
    | exc l => exact absurd rfl (na.2.2.2.1 l)
    | dct l k => exact absurd rfl (na.2.2.2.2 l k)
    | tup xs =>
      cases n with
      | zero => simp [D.okq] at qa
      | succ n =>
        cases b with
        | scr l => exact absurd rfl (nb.1 l)
        | fn l => exact absurd rfl (nb.2.1 l)
        | obj l => exact absurd rfl (nb.2.2.1 l)
        | exc l => exact absurd rfl (nb.2.2.2.1 l)
        | dct l k => exact absurd rfl (nb.2.2.2.2 l k)
        | tup ys =>
          cases m with
          | zero => simp [D.okq] at qb
          | succ m =>
            simp only [D.py, PyData.eqv, D.eqb]
            exact eqvs_py n m xs ys (by simpa [D.okq] using qa) (by simpa [D.okq] using qb)
        | _ => simp [D.py, PyData.eqv, D.eqb]
    | lst xs =>
      cases n with
      | zero => simp [D.okq] at qa
      | succ n =>
        cases b with
        | scr l => exact absurd rfl (nb.1 l)
        | fn l => exact absurd rfl (nb.2.1 l)
        | obj l => exact absurd rfl (nb.2.2.1 l)
        | exc l => exact absurd rfl (nb.2.2.2.1 l)
        | dct l k => exact absurd rfl (nb.2.2.2.2 l k)
        | lst ys =>
          cases m with
          | zero => simp [D.okq] at qb
          | succ m =>
            simp only [D.py, PyData.eqv, D.eqb]
            exact eqvs_py n m xs ys (by simpa [D.okq] using qa) (by simpa [D.okq] using qb)
        | _ => simp [D.py, PyData.eqv, D.eqb]
    | _ =>
      cases b with
      | scr l => exact absurd rfl (nb.1 l)
      | fn l => exact absurd rfl (nb.2.1 l)
      | obj l => exact absurd rfl (nb.2.2.1 l)
      | exc l => exact absurd rfl (nb.2.2.2.1 l)
      | dct l k => exact absurd rfl (nb.2.2.2.2 l k)
      | _ => simp [D.py, PyData.eqv, D.eqb]
theorem eqvs_py : ∀ (n m : Nat) (xs ys : List D), D.oks n xs = true → D.oks m ys = true → PyData.eqvAll (D.pys xs) (D.pys ys) = D.eqs xs ys
  | _, _, [], [], _, _ => by simp [D.pys, PyData.eqvAll, D.eqs]
  | _, _, [], _ :: _, _, _ => by simp [D.pys, PyData.eqvAll, D.eqs]
  | _, _, _ :: _, [], _, _ => by simp [D.pys, PyData.eqvAll, D.eqs]
  | n, m, x :: xs, y :: ys, qa, qb => by
    have qa' : x.okq n = true ∧ D.oks n xs = true := by simpa [D.oks] using qa
    have qb' : y.okq m = true ∧ D.oks m ys = true := by simpa [D.oks] using qb
    simp only [D.pys, PyData.eqvAll, D.eqs]
    rw [eqv_py n m x y qa'.1 qb'.1, eqvs_py n m xs ys qa'.2 qb'.2]
end
theorem any_eqv {m : Nat} {a : D} (qa : a.okq m = true) : ∀ (n : Nat) (l : List D), D.oks n l = true → ((D.pys l).any fun z => PyData.eqv z a.py) = l.any fun z => z.eqb a
  | _, [], _ => rfl
  | n, x :: xs, q => by
    have q' : x.okq n = true ∧ D.oks n xs = true := by simpa [D.oks] using q
    simp only [D.pys, List.any_cons]
    rw [eqv_py n m x a q'.1 qa, any_eqv qa n xs q'.2]
end Gz
end -- GzC
section -- GzCr
set_option maxHeartbeats 4000000
/-! GzCr: a tuple once, or the empty one any number of times: the tuple itself. -/
namespace L2
open PySem PySem.Spec PyProof.Rows
theorem tuple_mulW1 (l : Addr) (items : Array Value) (n : Nat) (dd : Option Addr) (sl : Array (Option Value)) (x : Int) (u : Tok) (c0 : (decide (x < -(2 ^ 63)) || decide (x ≥ 2 ^ 63)) = false) (c1 : (items.isEmpty || x == 1) = true) :
    Meets (Builtin.«tuple.__mul__» ⟨[.ref l, .int x u], []⟩) (fun _ R s => s.heap.get? l = some { cls := .type "tuple", dict := dd, data := .seq items n, slots := sl } ∧
      R (.ok (.ret (Value.ref l))) s) :=
  .of_wp fun prog w A R s h => by
    obtain ⟨hp, g, d, tk, os⟩ := s
    obtain ⟨hl, h⟩ := h
    have f1 := AutoSeq1.idx_int
    wp_walk using wpAny_loadPart' hl
    repeat (first
      | (refine wpAny_ite_false (decide_eq_false (by rw [c0]; exact Bool.false_ne_true)) ?_; wp_walk using wpAny_loadPart' hl)
      | (refine wpAny_ite_true (decide_eq_true (by rw [c1])) ?_; wp_walk using wpAny_loadPart' hl))
    exact ⟨_, rfl, h⟩
def rRep1 (K : PySem.W.Frag) : R2 := fun x y H Q => ∃ l k xs, x = .ref l ∧ y = .int k ∧ SqT K H l xs ∧ (xs = [] ∨ k = 1) ∧ 1 ≤ k ∧ k ≤ 1000 ∧ Q (.ref l) H
section
variable {X : Cx}
theorem op_rep1 : OpR X (binaryOp .Mult) (rRep1 X.K) := by
  intro pins s σ H x y v u Q I rx ry h
  obtain ⟨l, k, xs, rfl, rfl, hT, h0, h1, h2, q⟩ := h
  cases rx
  obtain ⟨t, rfl⟩ := ry
  obtain ⟨its, r, ⟨⟨cls, dd, data, sl⟩, ho, hc, n, hd⟩, hs⟩ := I.tuple hT
  simp only at hc hd
  subst hc hd
  have c0 : (decide (k < -(2 ^ 63)) || decide (k ≥ 2 ^ 63)) = false := by
    rw [decide_eq_false (by omega), decide_eq_false (by omega)] <;> rfl
  have c1 : (its.toArray.isEmpty || k == 1) = true := by
    rcases h0 with rfl | rfl
    · cases r
      rfl
    · rw [Bool.or_eq_true]
      exact .inr rfl
  refine wpAny_binaryOp_repeat_ref (T := "tuple") (U := "int") (by decide) ⟨_, ho, rfl⟩ (fun s' => typeIs_int s' k t) noFill_tuple_mul F.fills_int_mul F.slot_int_rmul repeat_tuple F.slot_int_index.lookup
    (call_meets F.slot_int_rmul (typeIs_int s k t) F.entry_int_rmul (F.args_int_rmul_2 _ _) (int_rmul_tuple k t l its.toArray n dd sl)
      ⟨ho, rfl, ⟨_, ho, rfl⟩, call_meets F.slot_tuple_mul ⟨_, ho, rfl⟩ F.entry_tuple_mul (F.args_tuple_mul_2 _ _) (tuple_mulW1 l its.toArray n dd sl k t c0 c1) ⟨ho, ?_⟩⟩)
  exact ⟨.ref l, H, I, rfl, q⟩
end
end L2
end -- GzCr
section -- GzD
/-! GzD: operators, comparisons, subscripts, slices by values are sound. -/
namespace Gz
open PySem PySem.Spec PyProof.Rows L2
/-- room for what the operations do by themselves -/
structure Cok (X : Cx) : Prop where
  un : X.A.units + 70 < cLine
theorem lim_eq : lim = sizeLine := by rw [sizeLine_eq]; rfl
/-- the wanted end of an operation -/
def Fin (W : Wx) (g : Gh) (H : Hp) (S : Store) (r : Rv) (Q : VK) : Prop := ∀ v g' H', HRel W g' H' S → Ext g H g' H' → RvIs W H g' H' r v → Q v H'
section
variable {W : Wx} {g : Gh} {H : Hp} {S : Store} {Q : VK}
/-- a plain value -/
theorem Fin.plain {d : D} {v : V} (h : HRel W g H S) (f : Fin W g H S (.fr d) Q) (i : Is W g d v) : Q v H := f v g H h (Ext.refl _ _) i
/-- a new tuple -/
theorem Fin.tup {l : List D} {xs : List V} (h : HRel W g H S) (f : Fin W g H S (.fr (.tup l)) Q) (i : IsL W g l xs) (p : Addr) (np : H p = none) : Q (.ref p) (upd H p (.tup xs)) := by
  obtain ⟨h1, e1⟩ := h.put (o := .tup xs) np
  exact f _ _ _ h1 e1 (show Is W (g.put p (.tup xs)) (.tup l) (.ref p) by
    unfold Is
    exact ⟨p, xs, rfl, SqT.of (show upd g.F p (.tup xs) p = _ from upd_same), i.mono e1.le⟩)
/-- a new list of one's own -/
theorem Fin.lst {l : List D} {xs : List V} (h : HRel W g H S) (f : Fin W g H S ⟨.lst l, .own⟩ Q) (i : IsL W g l xs) (p : Addr) (np : H p = none) : Q (.ref p) (upd H p (.lst xs)) := by
  obtain ⟨h1, e1⟩ := h.new (o := .lst xs) np
  have nF : g.F p = none := by
    cases e : g.F p with
    | none => rfl
    | some u => have := h.fh p u e; rw [np] at this; cases this
  have nB : ¬ g.B p := fun q => by obtain ⟨o, e⟩ := h.bh p q; rw [np] at e; cases e
  exact f _ _ _ h1 e1 ⟨⟨.inl ⟨l, rfl, p, xs, rfl, upd_same, nF, i⟩, fun a ea => by cases ea; exact nB⟩, fun a ea => by cases ea; exact np⟩
end
/-! ### two-place operators -/
def Op2.op : Op2 → Operator
  | .add => .Add
  | .sub => .Sub
  | .mul => .Mult
  | .fdiv => .FloorDiv
  | .mod => .Mod
  | .pow => .Pow
def tBin (W : Wx) (o : Op2) : R2 := fun x y H Q => ∃ g S dx dy r, HRel W g H S ∧ Rep W g H dx x ∧ Rep W g H dy y ∧ o.ev dx dy = some r ∧ Fin W g H S r Q
section
variable {X : Cx}
theorem op2_ok (c : Cok X) (o : Op2) : OpR X (binaryOp o.op) (tBin (wx X) o) := by
  intro pins s σ H x y v u Q I rx ry h
  obtain ⟨g, S, dx, dy, r, hr, hx, hy, e, f⟩ := h
  cases o with
  | add =>
    cases dx with
    | int i =>
      cases dy with
      | int j =>
        cases hx.int; cases hy.int; cases e
        exact op_add pins s σ H _ _ v u Q I rx ry ⟨i, j, rfl, rfl, f.plain hr (by unfold Is; rfl)⟩
      | _ => cases e
    | str a =>
      cases dy with
      | str b =>
        cases hx.str; cases hy.str
        simp only [Op2.ev] at e
        split at e
        · rename_i hl
          cases e
          exact op_add_str pins s σ H _ _ v u Q I rx ry ⟨a, b, rfl, rfl, by rw [← lim_eq]; exact hl, f.plain hr (by unfold Is; rfl)⟩
        · cases e
      | _ => cases e
    | tup a =>
      cases dy with
      | tup b =>
        obtain ⟨p, xs, rfl, sx, ix⟩ := hx.tup hr
        obtain ⟨q, ys, rfl, sy, iy⟩ := hy.tup hr
        simp only [Op2.ev] at e
        split at e
        · rename_i hl
          cases e
          refine op_catA pins s σ H _ _ v u Q I rx ry ⟨p, q, xs, ys, rfl, rfl, sx, sy, by rw [← lim_eq, ix.length, iy.length]; exact hl, fun e0 => ?_, fun _ e0 => ?_, fun _ _ t nt => Fin.tup hr f (ix.append iy) t nt⟩
          · subst e0
            have ea : a = [] := List.eq_nil_of_length_eq_zero (by rw [← ix.length]; rfl)
            subst ea
            rcases hy with z | z
            · exact f.plain hr z
            · rcases z with ⟨⟨l, e, _⟩ | ⟨l, m, e, _⟩, _⟩ <;> cases e
          · subst e0
            have eb : b = [] := List.eq_nil_of_length_eq_zero (by rw [← iy.length]; rfl)
            subst eb
            rw [List.append_nil] at f
            rcases hx with z | z
            · exact f.plain hr z
            · rcases z with ⟨⟨l, e, _⟩ | ⟨l, m, e, _⟩, _⟩ <;> cases e
        · cases e
      | _ => cases e
    | lst a =>
      cases dy with
      | lst b =>
        obtain ⟨p, xs, rfl, sx, ix⟩ := hx.lst hr
        obtain ⟨q, ys, rfl, sy, iy⟩ := hy.lst hr
        simp only [Op2.ev] at e
        split at e
        · rename_i hl
          cases e
          exact op_cat pins s σ H _ _ v u Q I rx ry ⟨p, q, xs, ys, rfl, rfl, sx, sy, by rw [← lim_eq, ix.length, iy.length]; exact hl, fun t nt => Fin.lst hr f (ix.append iy) t nt⟩
        · cases e
      | _ => cases e
    | _ => cases e
  | sub =>
    cases dx with
    | int i =>
      cases dy with
      | int j =>
        cases hx.int; cases hy.int; cases e
        exact op_sub pins s σ H _ _ v u Q I rx ry ⟨i, j, rfl, rfl, f.plain hr (by unfold Is; rfl)⟩
      | _ => cases e
    | _ => cases e
  | mul =>
    cases dx with
    | int i =>
      cases dy with
      | int j =>
        cases hx.int; cases hy.int
        simp only [Op2.ev] at e
        split at e
        · rename_i hl
          cases e
          exact op_mulW pins s σ H _ _ v u Q I rx ry ⟨i, j, rfl, rfl, (show i.natAbs.log2 + j.natAbs.log2 < 1000000 from of_decide_eq_true hl), f.plain hr (by unfold Is; rfl)⟩
        · cases e
      | _ => cases e
    | str a =>
      cases dy with
      | int k =>
        cases hx.str; cases hy.int
        simp only [Op2.ev] at e
        split at e
        · rename_i hl
          cases e
          simp only [Bool.and_eq_true, decide_eq_true_eq] at hl
          obtain ⟨⟨h1, h2⟩, h3⟩ := hl
          obtain ⟨t, rfl⟩ := rx
          obtain ⟨t', rfl⟩ := ry
          have hm : Txt.mul a k = if k = 1 then a else a ++ a := by
            unfold Txt.mul
            rw [if_neg (by omega)]
            by_cases hk : k = 1
            · subst hk
              rw [if_pos rfl, if_pos (by simp)]
            · have hk2 : k = 2 := by omega
              subst hk2
              rw [if_neg hk]
              by_cases hz : a.length = 0
              · rw [if_pos (by rw [hz]; rfl)]
                have e0 : a.cps = #[] := by
                  apply Array.eq_empty_of_size_eq_zero
                  exact hz
                cases a
                simp only at e0
                subst e0
                rfl
              · rw [if_neg (by simp [hz])]
                show (⟨(List.replicate 2 a.cps).foldl (· ++ ·) #[]⟩ : Str) = ⟨a.cps ++ a.cps⟩
                simp [List.replicate]
          refine SB.mul ⟨by rw [decide_eq_false (by omega), decide_eq_false (by omega)]; rfl, fun _ _ => ?_, fun _ _ => ?_⟩ fun t' m => ?_
          · have hk : k = 1 ∨ k = 2 := by omega
            rcases hk with rfl | rfl
            · rw [show ((2 ^ 63 - 1 : Int) / 1) = 9223372036854775807 by decide]; omega
            · rw [show ((2 ^ 63 - 1 : Int) / 2) = 4611686018427387903 by decide]; omega
          · show decide (a.length * k.toNat > sizeLine) = false
            have : a.length * k.toNat ≤ 1000 * 2 := Nat.mul_le_mul h3 (by omega)
            rw [sizeLine_eq, decide_eq_false (by omega)]
          · rw [hm]
            exact ⟨.str _, H, I.kept (t' := m) fun _ _ q => q, ⟨t', rfl⟩, f.plain hr (by unfold Is; rfl)⟩
        · cases e
      | _ => cases e
    | tup a =>
      cases dy with
      | int k =>
        obtain ⟨p, xs, rfl, sx, ix⟩ := hx.tup hr
        cases hy.int
        simp only [Op2.ev] at e
        split at e
        · rename_i hl
          cases e
          simp only [Bool.and_eq_true, decide_eq_true_eq] at hl
          obtain ⟨⟨h2, h3⟩, h4⟩ := hl
          by_cases z : xs = [] ∨ k = 1
          · refine op_rep1 pins s σ H _ _ v u Q I rx ry ⟨p, k, xs, rfl, rfl, sx, z, h2, h3, ?_⟩
            have ea : (List.replicate k.toNat a).flatten = a := by
              rcases z with z | z
              · subst z
                have ea : a = [] := List.eq_nil_of_length_eq_zero (by rw [← ix.length]; rfl)
                subst ea
                induction k.toNat with
                | zero => rfl
                | succ n ih => rw [List.replicate_succ, List.flatten_cons, ih]; rfl
              · subst z
                exact List.append_nil a
            rw [ea] at f
            rcases hx with z | z
            · exact f.plain hr z
            · rcases z with ⟨⟨l, e, _⟩ | ⟨l, m, e, _⟩, _⟩ <;> cases e
          · exact op_repT pins s σ H _ _ v u Q I rx ry ⟨p, k, xs, rfl, rfl, sx, fun e => z (.inl e), by have : k ≠ 1 := fun e => z (.inr e); omega, h3, by rw [ix.length]; exact h4, fun t nt => Fin.tup hr f (ix.flat _) t nt⟩
        · cases e
      | _ => cases e
    | lst a =>
      cases dy with
      | int k =>
        obtain ⟨p, xs, rfl, sx, ix⟩ := hx.lst hr
        cases hy.int
        simp only [Op2.ev] at e
        split at e
        · rename_i hl
          cases e
          simp only [Bool.and_eq_true, decide_eq_true_eq] at hl
          obtain ⟨⟨h1, h2⟩, h3⟩ := hl
          have hz : xs.length * k.toNat ≤ sizeLine := by
            rw [sizeLine_eq, ix.length]
            have : a.length * k.toNat ≤ 1000 * 1000 := Nat.mul_le_mul h3 (by omega)
            omega
          exact op_rep pins s σ H _ _ v u Q I rx ry ⟨p, k, xs, rfl, rfl, sx, by omega, by omega, hz, fun t nt => Fin.lst hr f (ix.flat _) t nt⟩
        · cases e
      | _ => cases e
    | _ => cases e
  | fdiv =>
    cases dx with
    | int i =>
      cases dy with
      | int j =>
        cases hx.int; cases hy.int
        simp only [Op2.ev] at e
        split at e
        · rename_i hl
          cases e
          unfold okDiv at hl
          rw [Bool.and_eq_true] at hl
          exact op_fdivW pins s σ H _ _ v u Q I rx ry ⟨i, j, rfl, rfl, ⟨of_decide_eq_true hl.1, of_decide_eq_true hl.2⟩, f.plain hr (by unfold Is; rfl)⟩
        · cases e
      | _ => cases e
    | _ => cases e
  | mod =>
    cases dx with
    | int i =>
      cases dy with
      | int j =>
        cases hx.int; cases hy.int
        simp only [Op2.ev] at e
        split at e
        · rename_i hl
          cases e
          exact op_mod pins s σ H _ _ v u Q I rx ry ⟨i, j, rfl, rfl, of_decide_eq_true hl, f.plain hr (by unfold Is; rfl)⟩
        · cases e
      | _ => cases e
    | _ => cases e
  | pow =>
    cases dx with
    | int i =>
      cases dy with
      | int j =>
        cases hx.int; cases hy.int
        simp only [Op2.ev] at e
        split at e
        · rename_i hl
          cases e
          simp only [Bool.and_eq_true, decide_eq_true_eq] at hl
          obtain ⟨⟨h1, h2⟩, h3⟩ := hl
          exact op_pow pins s σ H _ _ v u Q I rx ry ⟨i, j, rfl, rfl, ⟨h1, by omega, by omega⟩, f.plain hr (by unfold Is; rfl)⟩
        · cases e
      | _ => cases e
    | _ => cases e
end
/-! ### comparisons -/
def Cm.op : Cm → CmpOp
  | .eq => .Eq
  | .ne => .NotEq
  | .lt => .Lt
  | .le => .LtE
  | .gt => .Gt
  | .ge => .GtE
  | .isin => .In
  | .notin => .NotIn
  | .is => .Is
  | .isnot => .IsNot
def tCm (W : Wx) (o : Cm) : R2 := fun x y H Q => ∃ g S dx dy b, HRel W g H S ∧ Rep W g H dx x ∧ Rep W g H dy y ∧ o.ev dx dy = some b ∧ Q (.bl b) H
theorem eqO_cases {a b : D} {r : Bool} (h : eqO a b = some r) : (∃ l, a = .scr l ∧ b = .lst [] ∧ r = l.isEmpty) ∨ (a.okq 60 = true ∧ b.okq 60 = true ∧ r = a.eqb b) := by
  unfold eqO at h
  split at h
  · exact .inl ⟨_, rfl, rfl, (Option.some.inj h).symm⟩
  · split at h
    · rename_i q
      rw [Bool.and_eq_true] at q
      exact .inr ⟨q.1, q.2, (Option.some.inj h).symm⟩
    · cases h
theorem dp_ints {K : PySem.W.Frag} {H : Hp} : ∀ l : List Int, DpAll K H (l.map V.int) (l.map PyData.int)
  | [] => .nil
  | i :: l => .cons (.int i) (dp_ints l)
theorem lay_ints : ∀ l : List Int, PyData.canLayAll0 (l.map PyData.int) = true
  | [] => by simp [PyData.canLayAll0]
  | i :: l => by simp [PyData.canLayAll0, PyData.canLay0, lay_ints l]
theorem depth_ints : ∀ l : List Int, PyData.depthAll (l.map PyData.int) = 0
  | [] => by simp [PyData.depthAll]
  | i :: l => by simp [PyData.depthAll, PyData.depth, depth_ints l]
theorem shaped_ints (l : List Int) : SeqAt.shaped (.list (l.map PyData.int)) = true := by
  unfold SeqAt.shaped
  simp only [PyData.canLay0, PyData.depth, lay_ints, depth_ints, Bool.true_and]
  rfl
theorem eqv_nil (l : List Int) : PyData.eqv (.list (l.map PyData.int)) (.list []) = l.isEmpty := by
  cases l <;> simp [PyData.eqv, PyData.eqvAll]
section
variable {X : Cx}
/-- the two data that are compared, as the library's == wants them -/
theorem eq_data {W : Wx} {g : Gh} {H : Hp} {S : Store} {a b : D} {x y : V} {r : Bool} (hr : HRel W g H S) (hx : Rep W g H a x) (hy : Rep W g H b y) (e : eqO a b = some r) :
    ∃ d d', Dp W.K H x d ∧ Dp W.K H y d' ∧ SeqAt.shaped d = true ∧ SeqAt.shaped d' = true ∧ PyData.eqv d d' = r := by
  rcases eqO_cases e with ⟨l, rfl, rfl, rfl⟩ | ⟨qa, qb, rfl⟩
  · obtain ⟨p, rfl, hs⟩ := hx.scr hr
    obtain ⟨q, ys, rfl, hl, iy⟩ := hy.lst hr
    unfold IsL at iy
    subst iy
    exact ⟨_, _, .lst hs (dp_ints l), .lst (SqL.of hl) .nil, shaped_ints l, rfl, eqv_nil l⟩
  · exact ⟨_, _, hx.dp hr qa, hy.dp hr qb, okq_shaped qa, okq_shaped qb, eqv_py _ _ _ _ qa qb⟩
theorem rep_nn {W : Wx} {g : Gh} {H : Hp} {S : Store} (hr : HRel W g H S) {d : D} {x : V} (h : Rep W g H d x) (q : (∃ b, d = .bl b) ∨ (∃ l, d = .tup l) ∨ (∃ l, d = .lst l) ∨ (∃ l, d = .int l) ∨ ∃ l, d = .str l) : x ≠ .non := by
  rcases q with ⟨b, rfl⟩ | ⟨l, rfl⟩ | ⟨l, rfl⟩ | ⟨l, rfl⟩ | ⟨l, rfl⟩
  · rw [h.bl]; exact fun z => nomatch z
  · obtain ⟨a, xs, rfl, _⟩ := h.tup hr; exact fun z => nomatch z
  · obtain ⟨a, xs, rfl, _⟩ := h.lst hr; exact fun z => nomatch z
  · rw [h.int]; exact fun z => nomatch z
  · rw [h.str]; exact fun z => nomatch z
theorem in_room {n d m : Nat} (hu : n + 70 < cLine) (h : d ≤ 60) : n + 1 + min m d < cLine := by
  have : min m d ≤ d := Nat.min_le_right _ _
  omega
theorem cm_ok (c : Cok X) (o : Cm) : OpR X (compareOp o.op) (tCm (wx X) o) := by
  intro pins s σ H x y v u Q I rx ry h
  obtain ⟨g, S, dx, dy, b, hr, hx, hy, e, f⟩ := h
  have hu := c.un
  -- x in a list, a tuple
  have inS : ∀ (a : D) (l : List D) (d : PyData), a.okq 60 = true → D.oks 60 l = true → dx = a → (dy = .lst l ∧ d = .list (D.pys l) ∨ dy = .tup l ∧ d = .tuple (D.pys l)) → ∃ as bs, Reads s.heap v a.py as ∧ Reads s.heap u d bs := by
    rintro a l d qa ql rfl z
    obtain ⟨as, r1⟩ := Dp.reads I _ _ v (hx.dp hr qa) rx
    rcases z with ⟨rfl, rfl⟩ | ⟨rfl, rfl⟩
    · obtain ⟨bs, r2⟩ := Dp.reads I _ _ u (hy.dp hr (n := 61) (by simpa [D.okq] using ql)) ry
      exact ⟨as, bs, r1, r2⟩
    · obtain ⟨bs, r2⟩ := Dp.reads I _ _ u (hy.dp hr (n := 61) (by simpa [D.okq] using ql)) ry
      exact ⟨as, bs, r1, r2⟩
  cases o with
  | eq =>
    obtain ⟨d, d', h1, h2, h3, h4, h5⟩ := eq_data hr hx hy e
    exact op_eqD (by omega) pins s σ H _ _ v u Q I rx ry ⟨d, d', h1, h2, h3, h4, by rw [h5]; exact f⟩
  | ne =>
    simp only [Cm.ev] at e
    cases e2 : eqO dx dy with
    | none => rw [e2] at e; cases e
    | some r =>
      rw [e2] at e
      cases e
      obtain ⟨d, d', h1, h2, h3, h4, h5⟩ := eq_data hr hx hy e2
      exact op_neD (by omega) pins s σ H _ _ v u Q I rx ry ⟨d, d', h1, h2, h3, h4, by rw [h5]; exact f⟩
  | lt =>
    cases dx <;> try cases e
    rename_i i
    cases dy <;> try cases e
    rename_i j
    cases hx.int; cases hy.int
    exact op_lt pins s σ H _ _ v u Q I rx ry ⟨i, j, rfl, rfl, f⟩
  | le =>
    cases dx <;> try cases e
    rename_i i
    cases dy <;> try cases e
    rename_i j
    cases hx.int; cases hy.int
    exact op_le pins s σ H _ _ v u Q I rx ry ⟨i, j, rfl, rfl, f⟩
  | gt =>
    cases dx <;> try cases e
    rename_i i
    cases dy <;> try cases e
    rename_i j
    cases hx.int; cases hy.int
    exact op_gt pins s σ H _ _ v u Q I rx ry ⟨i, j, rfl, rfl, f⟩
  | ge =>
    cases dx <;> try cases e
    rename_i i
    cases dy <;> try cases e
    rename_i j
    cases hx.int; cases hy.int
    exact op_ge pins s σ H _ _ v u Q I rx ry ⟨i, j, rfl, rfl, f⟩
  | is =>
    cases dy with
    | non =>
      cases hy.non
      refine op_isN pins s σ H _ _ v u Q I rx ry ⟨rfl, ?_⟩
      cases dx with
      | non => cases e; rw [hx.non]; exact f
      | bl k => cases e; rw [decide_eq_false (rep_nn hr hx (.inl ⟨_, rfl⟩))]; exact f
      | tup k => cases e; rw [decide_eq_false (rep_nn hr hx (.inr (.inl ⟨_, rfl⟩)))]; exact f
      | lst k => cases e; rw [decide_eq_false (rep_nn hr hx (.inr (.inr (.inl ⟨_, rfl⟩))))]; exact f
      | int k => cases e; rw [decide_eq_false (rep_nn hr hx (.inr (.inr (.inr (.inl ⟨_, rfl⟩)))))]; exact f
      | str k => cases e; rw [decide_eq_false (rep_nn hr hx (.inr (.inr (.inr (.inr ⟨_, rfl⟩)))))]; exact f
      | _ => cases e
    | bl k =>
      cases hy.bl
      cases dx with
      | bl j =>
        cases hx.bl; cases e
        exact op_is_bl pins s σ H _ _ v u Q I rx ry ⟨j, k, rfl, rfl, by
          have z : decide (j = k) = (j == k) := by cases j <;> cases k <;> rfl
          rw [z]; exact f⟩
      | _ => cases e
    | _ => cases dx <;> cases e
  | isnot =>
    cases dy with
    | non =>
      cases hy.non
      refine op_notN pins s σ H _ _ v u Q I rx ry ⟨rfl, ?_⟩
      cases dx with
      | non => cases e; rw [hx.non]; exact f
      | bl k => cases e; rw [decide_eq_false (rep_nn hr hx (.inl ⟨_, rfl⟩))]; exact f
      | tup k => cases e; rw [decide_eq_false (rep_nn hr hx (.inr (.inl ⟨_, rfl⟩)))]; exact f
      | lst k => cases e; rw [decide_eq_false (rep_nn hr hx (.inr (.inr (.inl ⟨_, rfl⟩))))]; exact f
      | int k => cases e; rw [decide_eq_false (rep_nn hr hx (.inr (.inr (.inr (.inl ⟨_, rfl⟩)))))]; exact f
      | str k => cases e; rw [decide_eq_false (rep_nn hr hx (.inr (.inr (.inr (.inr ⟨_, rfl⟩)))))]; exact f
      | _ => cases e
    | bl k =>
      cases hy.bl
      cases dx with
      | bl j =>
        cases hx.bl; cases e
        exact op_isnot_bl pins s σ H _ _ v u Q I rx ry ⟨j, k, rfl, rfl, by
          have z : (!decide (j = k)) = (j != k) := by cases j <;> cases k <;> rfl
          rw [z]; exact f⟩
      | _ => cases e
    | _ => cases dx <;> cases e
  | isin =>
    cases dy with
    | lst l =>
      simp only [Cm.ev] at e
      split at e
      · rename_i q
        rw [Bool.and_eq_true] at q
        cases e
        obtain ⟨as, bs, r1, r2⟩ := inS _ _ _ q.1 q.2 rfl (.inl ⟨rfl, rfl⟩)
        refine SeqAt.in_list_reads r2 r1 (oks_lay _ _ q.2).1 (okq_lay _ _ q.1).1 (in_room hu (okq_lay _ _ q.1).2) ⟨.bl _, H, I, rfl, ?_⟩
        rw [any_eqv q.1 _ _ q.2]
        exact f
      · cases e
    | tup l =>
      simp only [Cm.ev] at e
      split at e
      · rename_i q
        rw [Bool.and_eq_true] at q
        cases e
        obtain ⟨as, bs, r1, r2⟩ := inS _ _ _ q.1 q.2 rfl (.inr ⟨rfl, rfl⟩)
        refine SeqAt.in_tuple_reads r2 r1 (oks_lay _ _ q.2).1 (okq_lay _ _ q.1).1 (in_room hu (okq_lay _ _ q.1).2) ⟨.bl _, H, I, rfl, ?_⟩
        rw [any_eqv q.1 _ _ q.2]
        exact f
      · cases e
    | str z =>
      cases dx with
      | str t =>
        cases hx.str; cases hy.str
        simp only [Cm.ev] at e
        split at e
        · rename_i ch hch
          have et : t = ⟨#[ch]⟩ := by
            obtain ⟨cp⟩ := t
            congr 1
            exact Array.toList_inj.mp hch
          subst et
          cases e
          exact op_in_sign pins s σ H _ _ v u Q I rx ry ⟨_, _, rfl, rfl, f⟩
        · cases e
      | _ => cases e
    | _ => cases dx <;> cases e
  | notin =>
    cases dy with
    | lst l =>
      simp only [Cm.ev] at e
      split at e
      · rename_i q
        rw [Bool.and_eq_true] at q
        cases e
        obtain ⟨as, bs, r1, r2⟩ := inS _ _ _ q.1 q.2 rfl (.inl ⟨rfl, rfl⟩)
        refine SeqAt.notIn_list_reads r2 r1 (oks_lay _ _ q.2).1 (okq_lay _ _ q.1).1 (in_room hu (okq_lay _ _ q.1).2) ⟨.bl _, H, I, rfl, ?_⟩
        rw [any_eqv q.1 _ _ q.2]
        exact f
      · cases e
    | tup l =>
      simp only [Cm.ev] at e
      split at e
      · rename_i q
        rw [Bool.and_eq_true] at q
        cases e
        obtain ⟨as, bs, r1, r2⟩ := inS _ _ _ q.1 q.2 rfl (.inr ⟨rfl, rfl⟩)
        refine SeqAt.notIn_tuple_reads r2 r1 (oks_lay _ _ q.2).1 (okq_lay _ _ q.1).1 (in_room hu (okq_lay _ _ q.1).2) ⟨.bl _, H, I, rfl, ?_⟩
        rw [any_eqv q.1 _ _ q.2]
        exact f
      · cases e
    | str z =>
      cases dx with
      | str t =>
        cases hx.str; cases hy.str
        simp only [Cm.ev] at e
        split at e
        · rename_i ch hch
          have et : t = ⟨#[ch]⟩ := by
            obtain ⟨cp⟩ := t
            congr 1
            exact Array.toList_inj.mp hch
          subst et
          cases e
          exact op_notIn_sign pins s σ H _ _ v u Q I rx ry ⟨_, _, rfl, rfl, f⟩
        · cases e
      | _ => cases e
    | _ => cases dx <;> cases e
end
end Gz
end -- GzD
section -- GzEs
/-! GzEs: sorted of lists and of tuples that read as data. -/
namespace HT
open PySem PySem.Spec PyProof.Rows PySem.W PySem.Calls
section
variable {prog : Program} {w : World} {A : Around} {E : Value → Shared → Prop} {s : Shared}
/-- the items of a list, of a tuple, in a list of their own -/
theorem collect_any {T : String} {l : Addr} {o : Obj} {vs : List Value} {n : Nat} {Q : List Value → Shared → Prop} (hT : T = "list" ∨ T = "tuple") (ho : s.heap.get? l = some o) (hc : o.cls = .type T) (hd : o.data = .seq vs.toArray n) (hsz : vs.length ≤ sizeLine)
    (h : Q vs { s with heap := (s.heap.push (seqObj "list" #[] 0)).update s.heap.objs.size (Obj.mapSeq (· ++ vs.toArray)) }) : wpAny (model prog w) A (collect (.ref l)) Q E s := by
  unfold collect
  refine wpAny_bind (wpAny_runValue (codeAny_builtin entry_proto_collect' ?_))
  show wpAny _ _ (do again (.builtin "list.__iadd__" ⟨[← newList [], .ref l], []⟩)) _ _ s
  refine wpAny_bind (wpAny_newList (wpAny_pure ⟨Code.quiet_builtin _ (by decide +kernel), codeAny_builtin entry_list_iadd' ?_⟩))
  show wpAny _ _ (Builtin.List.listExtendWith (.ref s.heap.objs.size) (.ref l) (.ref s.heap.objs.size)) _ _ { s with heap := s.heap.push (seqObj "list" #[] 0) }
  unfold Builtin.List.listExtendWith
  have ho' : (s.heap.push (seqObj "list" #[] 0)).get? l = some o := Heap.get?_push_of_some _ ho
  refine wpAny_bind (wpAny_typeOf (T := T) ⟨o, ho', hc⟩ ?_)
  have ht : (Builtin.List.listSameRef (Value.ref s.heap.objs.size) (.ref l) || Value.type T == Value.type "list" || Value.type T == Value.type "tuple") = true := by
    rcases hT with rfl | rfl
    · rw [show (Value.type "list" == Value.type "list") = true by rfl]; simp
    · rw [show (Value.type "tuple" == Value.type "tuple") = true by rfl]; simp
  rw [if_pos ht]
  refine wpAny_bind (listItems_at ho' hd ?_)
  refine wpAny_bind (listItems_at (xs := #[]) (n := 0) (Heap.get?_push_size _ rfl) rfl ?_)
  rw [if_neg (by simp)]
  refine wpAny_bind (listUpdate_at (xs := #[]) (n := 0) (Heap.get?_push_size _ rfl) rfl ?_ (Nat.zero_le _) (by show (#[] ++ vs.toArray).size ≤ sizeLine + 1; simp only [Array.size_append, List.size_toArray, List.length_nil]; omega))
  refine wpAny_pure ?_
  show wpAny (model prog w) A (do
      let o ← load s.heap.objs.size
      match o.data with
      | .seq xs _ => pure xs.toList
      | _ => unsupported "internal:collect") Q E { s with heap := (s.heap.push (seqObj "list" #[] 0)).update s.heap.objs.size (Obj.mapSeq (· ++ vs.toArray)) }
  refine wpAny_bind (wpAny_load (get?_update_seq (Heap.get?_push_size _ rfl) _) ?_)
  show wpAny _ _ (pure ((#[] : Array Value) ++ vs.toArray).toList) Q E _
  rw [show ((#[] : Array Value) ++ vs.toArray).toList = vs by simp]
  exact wpAny_pure h
theorem sorted_seq {β : Type} {bs : List β} {enc : β → PyData} {R : Value → β → Prop} {T : String} {l : Addr} {o : Obj} {vs : List Value} {n : Nat} {Q : Value → Shared → Prop} (hT : T = "list" ∨ T = "tuple") (ho : s.heap.get? l = some o) (hc : o.cls = .type T) (hd : o.data = .seq vs.toArray n)
    (e : EachIs R vs bs) (er : EachIs (fun v b => ∃ as, Reads s.heap v (enc b) as) vs bs) (hal : AllAlike (bs.map enc)) (hk : Sortable (bs.map enc)) (hu : ∀ b, b ∈ bs → A.units + 2 + (enc b).depth < cLine) (hL : vs.length ≤ sizeLine)
    (h : ∀ (out : List Value) (h' : Heap) (D : Addr) (c : Nat), (∀ b o, s.heap.get? b = some o → h'.get? b = some o) → s.heap.objs.size ≤ D → h'.get? D = some (seqObj "list" out.toArray c) → EachIs R out (bs.mergeSort (dataLe false enc)) → Q (.ref D) { s with heap := h' }) :
    wpAny (model prog w) A (call (.builtin "sorted") [.ref l]) Q E s := by
  refine Calls.call_function_entry kind_sorted plain_sorted entry_sorted (args_sorted1 _) ?_
  unfold Builtin.«sorted»
  refine wpAny_bind (m := checkCount "sorted" 1 1 _) (wpAny_pure ?_)
  refine wpAny_bind (collect_any hT ho hc hd hL ?_)
  have k1 : ∀ b o, s.heap.get? b = some o → ((s.heap.push (seqObj "list" #[] 0)).update s.heap.objs.size (Obj.mapSeq (· ++ vs.toArray))).get? b = some o := fun b o q =>
    (Heap.get?_update_other _ _ (Nat.ne_of_gt (Heap.lt_size q))).trans (Heap.get?_push_of_some _ q)
  have sz : s.heap.objs.size ≤ ((s.heap.push (seqObj "list" #[] 0)).update s.heap.objs.size (Obj.mapSeq (· ++ vs.toArray))).objs.size := by
    rw [Heap.size_update, size_push']
    omega
  generalize (s.heap.push (seqObj "list" #[] 0)).update s.heap.objs.size (Obj.mapSeq (· ++ vs.toArray)) = h1 at k1 sz ⊢
  refine wpAny_bind (wpAny_newList ?_ hL)
  have at1 : (h1.push (seqObj "list" vs.toArray 0)).get? h1.objs.size = some (seqObj "list" vs.toArray 0) := Heap.get?_push_size _ rfl
  have ol : ∀ b o, s.heap.get? b = some o → (h1.push (seqObj "list" vs.toArray 0)).get? b = some o := fun b o q => Heap.get?_push_of_some _ (k1 b o q)
  have os : ∀ b o, s.heap.get? b = some o → (sortingHeap (h1.push (seqObj "list" vs.toArray 0)) h1.objs.size vs).get? b = some o := fun b o q => sortingHeap_old (Nat.ne_of_lt (Heap.lt_size (k1 b o q))) (ol b o q)
  have er' : EachIs (fun v b => ∃ as, Reads (sortingHeap (h1.push (seqObj "list" vs.toArray 0)) h1.objs.size vs) v (enc b) as) vs bs := er.mono fun _ _ ⟨as, r⟩ => ⟨as, PyProof.Rows.Reads.keeps os r⟩
  show wpAny _ _ _ _ _ { s with heap := h1.push (seqObj "list" vs.toArray 0) }
  refine wpAny_bind (wpAny_holding (wpAny_call_entry slot_list_sort ⟨_, at1, rfl⟩ entry_list_sort ?_ (args_list_sort _)))
  refine list_sort_vals (s := { s with heap := h1.push (seqObj "list" vs.toArray 0) }) at1
    (SortsAt.data (s := { s with heap := sortingHeap (h1.push (seqObj "list" vs.toArray 0)) h1.objs.size vs }) (each_map (R := fun v d => ∃ as, Reads (sortingHeap (h1.push (seqObj "list" vs.toArray 0)) h1.objs.size vs) v d as) enc er') hal hk (bound_map hu)) hL ⟨_, rfl, ?_⟩
  refine wpAny_pure ⟨_, rfl, ?_⟩
  obtain ⟨c, hc'⟩ := sortedHeap_at (vs := vs) (out := (sortVals (dataKind (sortingHeap (h1.push (seqObj "list" vs.toArray 0)) h1.objs.size vs) (bs.map enc)) false vs vs).toArray) at1
  refine h _ _ _ c (fun b o q => ?_) sz hc' (sortVals_data false e er' hal)
  rw [sortedHeap_old (Nat.ne_of_lt (Heap.lt_size (k1 b o q))) (Heap.lt_size (ol b o q))]
  exact ol b o q
end
end HT
namespace Gz
open PySem PySem.Spec PyProof.Rows L2
section
variable {X : Cx}
theorem each_py {pins : List (Addr × Obj)} {σ : L2.St} {H : Hp} {s : Shared} (I : Inv X pins σ H s) {g : Gh} : ∀ {l : List D} {xs : List V} {its : List Value}, IsL (wx X) g l xs → DpAll X.K H xs (D.pys l) → Vals xs its →
    PySem.W.EachIs (fun v b => ∃ x, RelV x v ∧ Is (wx X) g b x) its l ∧ PySem.W.EachIs (fun v b => ∃ as, Reads s.heap v (D.py b) as) its l
  | [], xs, its, h, _, r => by
    unfold IsL at h
    subst h
    cases r
    exact ⟨.nil, .nil⟩
  | d :: l, xs, its, h, dp, r => by
    unfold IsL at h
    obtain ⟨v, t, rfl, h1, h2⟩ := h
    cases r with
    | cons r1 r2 =>
      rw [D.pys] at dp
      cases dp with
      | cons p1 p2 =>
        obtain ⟨a, b⟩ := each_py I h2 p2 r2
        exact ⟨.cons ⟨_, r1, h1⟩ a, .cons (Dp.reads I _ _ _ p1 r1) b⟩
theorem each_back {g : Gh} : ∀ {l : List D} {out : List Value}, PySem.W.EachIs (fun v b => ∃ x, RelV x v ∧ Is (wx X) g b x) out l → ∃ xs, IsL (wx X) g l xs ∧ Vals xs out
  | _, _, .nil => ⟨[], .nil, .nil⟩
  | _, _, .cons ⟨x, r, h⟩ t => by
    obtain ⟨xs, h1, h2⟩ := each_back t
    exact ⟨x :: xs, .cons h h1, .cons r h2⟩
theorem all_alike {l : List D} (h : (l.all fun a => l.all fun b => PySem.W.alike a.py b.py) = true) : PySem.W.AllAlike (l.map D.py) := by
  intro d hd d' hd'
  obtain ⟨a, ha, rfl⟩ := List.mem_map.mp hd
  obtain ⟨b, hb, rfl⟩ := List.mem_map.mp hd'
  exact List.all_eq_true.mp (List.all_eq_true.mp h a ha) b hb
theorem all_sortable {l : List D} (h : (l.all D.tup1 || l.all D.isInt) = true) : PySem.W.Sortable (l.map D.py) := by
  rw [Bool.or_eq_true] at h
  rcases h with h | h
  · refine .inl fun d hd => ?_
    obtain ⟨a, ha, rfl⟩ := List.mem_map.mp hd
    have := List.all_eq_true.mp h a ha
    unfold D.tup1 at this
    split at this
    · exact ⟨_, _, by rw [D.py, D.pys]⟩
    · cases this
  · refine .inr fun d hd => ?_
    obtain ⟨a, ha, rfl⟩ := List.mem_map.mp hd
    have := List.all_eq_true.mp h a ha
    unfold D.isInt at this
    split at this
    · exact ⟨by rw [D.py]; simp, fun xs => by rw [D.py]; simp⟩
    · cases this
theorem cr_srt (c : Cok X) {pins : List (Addr × Obj)} {s : Shared} {σ : L2.St} {H : Hp} {Q : VK} (I : Inv X pins σ H s) {g : Gh} {S : Store} {l : List D} {a : Addr} {xs : List V} (hr : HRel (wx X) g H S) (hs : SqL X.K H a xs ∨ SqT X.K H a xs) (hi : IsL (wx X) g l xs)
    (h1 : D.oks 60 l = true) (h2 : srtOk l = true) (f : Fin (wx X) g H S ⟨.lst (srtD l), .own⟩ Q) : wpAny (model X.prog X.w) X.A (call (.builtin "sorted") [.ref a]) (EP X pins σ Q) X.xe s := by
  unfold srtOk at h2
  rw [Bool.and_eq_true] at h2
  have dp : DpAll X.K H xs (D.pys l) := Is.dps hr.fh 60 l xs h1 hi
  have hu : ∀ b ∈ l, X.A.units + 2 + (D.py b).depth < cLine := fun b hb => by
    have : b.okq 60 = true := by
      clear h2 f hi dp
      induction l with
      | nil => cases hb
      | cons x l ih =>
        rw [D.oks, Bool.and_eq_true] at h1
        rcases List.mem_cons.mp hb with rfl | hb
        · exact h1.1
        · exact ih h1.2 hb
    have := (okq_lay 60 b this).2
    have := c.un
    omega
  have fin : ∀ (out : List Value) (h' : Heap) (D : Addr) (c : Nat), (∀ b o, s.heap.get? b = some o → h'.get? b = some o) → s.heap.objs.size ≤ D → h'.get? D = some (seqObj "list" out.toArray c) → PySem.W.EachIs (fun v b => ∃ x, RelV x v ∧ Is (wx X) g b x) out (srtD l) → EP X pins σ Q (.ref D) { s with heap := h' } := fun out h' D c kp hD at1 eo => by
    obtain ⟨ys, iy, vy⟩ := each_back eo
    have hlen : ys.length ≤ sizeLine := by
      rw [iy.length]
      unfold srtD
      rw [List.length_mergeSort, ← hi.length]
      rcases hs with hs | hs
      · exact (I.list hs).choose_spec.2.2
      · exact (I.tuple hs).choose_spec.2.2
    exact ⟨.ref D, upd H D (.lst ys), I.laid (t' := s.toks) kp hD ⟨hlen, out, c, vy, at1⟩, rfl, Fin.lst hr f iy D (I.hok.fresh hD)⟩
  rcases hs with hs | hs
  · obtain ⟨its, r, pl, hz⟩ := I.list hs
    obtain ⟨o, ho, hc, n, hd⟩ := pl.isList
    obtain ⟨e1, e2⟩ := each_py I hi dp r
    exact HT.sorted_seq (.inl rfl) ho hc hd e1 e2 (all_alike h2.1) (all_sortable h2.2) hu (by rw [← r.length]; exact hz) fin
  · obtain ⟨its, r, pl, hz⟩ := I.tuple hs
    obtain ⟨o, ho, hc, n, hd⟩ := pl
    obtain ⟨e1, e2⟩ := each_py I hi dp r
    exact HT.sorted_seq (.inr rfl) ho hc hd e1 e2 (all_alike h2.1) (all_sortable h2.2) hu (by rw [← r.length]; exact hz) fin
end
end Gz
end -- GzEs
section -- GzEm
/-! GzEm: max of a tuple of ints. -/
namespace Gz
open PySem PySem.Spec PyProof.Rows L2
section
variable {prog : Program} {w : World} {A : Around} {E : Value → Shared → Prop} {s : Shared} {l : Addr} {xs : Array (Int × Tok)} {its : List Value} {ns : List Int} {Q : Value → Shared → Prop}
theorem max_intTup (hh : A.handled = none) (hl : s.heap.IsTuple l (intItems xs)) (hne : 0 < xs.size)
    (h : ∀ v h' tk, (intItems xs)[argBest (fun i j => decide (numAt xs i > numAt xs j)) (xs.size - 1)]? = some v → (∀ b o, s.heap.get? b = some o → h'.get? b = some o) → Q v { s with heap := h', toks := tk }) :
    wpAny (model prog w) A (call (.builtin "max") [.ref l]) Q E s := by
  have hlt : l < s.heap.objs.size := by obtain ⟨_, e, _⟩ := hl; exact Heap.lt_size e
  refine call_max_walk (wpAny_pyIter_tuple hl ?_)
  refine ⟨_, [_, l], [_], _, _, _, _, rfl, Walks.tuple (A := A.in1) hh _ l (Nat.ne_of_lt hlt) (intItems xs), ⟨⟨_, Heap.get?_push_size _ rfl, rfl, rfl⟩, hl.push _⟩, fun d hd => ?_, by simpa [intItems] using hne, CmpOf.ints_gt (numAt xs) (fun _ _ => intItems_at), fun v h' tk hP hk => ?_⟩
  · show d < (s.heap.push _).objs.size
    rw [Heap.size_push]
    rcases List.mem_cons.mp hd with rfl | hd
    · exact Nat.lt_succ_self _
    · rcases List.mem_cons.mp hd with rfl | hd
      · exact Nat.lt_succ_of_lt hlt
      · cases hd
  · refine h v h' tk (by simpa [intItems] using hP) fun b o e => hk b o (fun hm => ?_) (Heap.get?_push_of_some _ e)
    rcases List.mem_cons.mp hm with e1 | hm
    · exact absurd (e1 ▸ Heap.lt_size e) (Nat.lt_irrefl _)
    · cases hm
theorem max_rawT (hh : A.handled = none) (hl : s.heap.IsTuple l its.toArray) (hi : IntsAre its ns) (hne : 0 < ns.length)
    (h : ∀ h' tk M t', (∀ b o, s.heap.get? b = some o → h'.get? b = some o) → M ∈ ns → (∀ a, a ∈ ns → a ≤ M) → Q (.int M t') { s with heap := h', toks := tk }) : wpAny (model prog w) A (call (.builtin "max") [.ref l]) Q E s := by
  obtain ⟨xs, e⟩ := hi.allInts.items
  have hn : numsOf (intItems xs).toList = ns := by rw [← e]; exact hi.numsOf
  rw [nums_intItems] at hn
  subst hn
  rw [e] at hl
  have hsz : 0 < xs.size := by simpa using hne
  refine max_intTup hh hl hsz fun v h' tk hv hk => ?_
  obtain ⟨t, rfl⟩ := intItems_at hv
  obtain ⟨h1, h2⟩ := argBest_gt (numAt xs) (xs.size - 1)
  refine h h' tk _ t hk ?_ fun a ha => ?_
  · rw [numAt_eq]; exact PySem.getD_mem (by rw [List.length_map, Array.length_toList]; omega)
  · obtain ⟨j, hj, rfl⟩ := mem_getD ha
    rw [List.length_map, Array.length_toList] at hj
    rw [← numAt_eq]; exact h2 j (by omega)
end
def rMaxT (K : PySem.W.Frag) : List V → Hp → VK → Prop := fun vs H Q => ∃ (a : Addr) (ns : List Int), vs = [V.ref a] ∧ SqT K H a (ns.map V.int) ∧ 0 < ns.length ∧ ∀ m, m ∈ ns → (∀ y, y ∈ ns → y ≤ m) → Q (.int m) H
theorem cr_maxT {X : Cx} (hc : X.calm = true) : CallR X (.builtin "max") (rMaxT X.K) := by
  intro pins s σ H vs us Q I r h
  obtain ⟨a, ns, rfl, hs, hne, q⟩ := h
  obtain ⟨its, rv, hl, _⟩ := I.tuple hs
  rw [Vals.ref1 r]
  exact max_rawT (I.ok.hd hc) hl rv.ints hne fun h' tk m t' hk h1 h2 => ⟨.int _, H, I.kept hk, ⟨_, rfl⟩, q m h1 h2⟩
end Gz
end -- GzEm
section -- GzE
/-! GzE: subscripts, slices, built-in functions, methods by values are sound. -/
namespace Gz
open PySem PySem.Spec PyProof.Rows L2
theorem IsL.atI {W : Wx} {g : Gh} {l : List D} {xs : List V} {i : Int} {d : D} (h : IsL W g l xs) (e : atD l i = some d) : ∃ v, L2.atI xs i = some v ∧ Is W g d v := by
  unfold atD at e
  unfold L2.atI
  rw [h.length]
  cases q : ixN l.length i with
  | none => rw [q] at e; cases e
  | some j =>
    rw [q] at e
    exact h.get e
theorem atI_map {α β : Type} (f : α → β) {l : List α} {i : Int} {a : α} (h : atD l i = some a) : L2.atI (l.map f) i = some (f a) := by
  unfold atD at h
  unfold L2.atI
  rw [List.length_map]
  cases q : ixN l.length i with
  | none => rw [q] at h; cases h
  | some j =>
    rw [q] at h
    show (l.map f)[j]? = some (f a)
    rw [List.getElem?_map, show l[j]? = some a from h]
    rfl
theorem IsL.cut {W : Wx} {g : Gh} {l : List D} {xs : List V} (h : IsL W g l xs) (lo hi : Option Int) : IsL W g (Gz.cut l lo hi) (cutV xs lo hi) := by
  unfold Gz.cut cutV
  rw [h.length]
  exact (h.drop _).take _
/-! ### subscripts -/
def tIx (W : Wx) : R2 := fun x y H Q => ∃ g S dx dy d, HRel W g H S ∧ Rep W g H dx x ∧ Rep W g H dy y ∧ idxEv dx dy = some d ∧ Fin W g H S (.fr d) Q
section
variable {X : Cx}
theorem ix_ok : IxR X (tIx (wx X)) := by
  intro value slice pins s σ H x y v u Q I rx ry h hs
  obtain ⟨g, S, dx, dy, d, hr, hx, hy, e, f⟩ := h
  cases dx with
  | tup l =>
    cases dy with
    | int i =>
      obtain ⟨p, xs, rfl, sx, ix⟩ := hx.tup hr
      cases hy.int
      obtain ⟨w, h1, h2⟩ := ix.atI (show atD l i = some d from e)
      exact ix_tup value slice pins s σ H _ _ v u Q I rx ry ⟨p, xs, i, w, rfl, rfl, sx, h1, f.plain hr h2⟩ hs
    | _ => cases e
  | lst l =>
    cases dy with
    | int i =>
      obtain ⟨p, xs, rfl, sx, ix⟩ := hx.lst hr
      cases hy.int
      obtain ⟨w, h1, h2⟩ := ix.atI (show atD l i = some d from e)
      exact ix_list value slice pins s σ H _ _ v u Q I rx ry ⟨p, xs, i, w, rfl, rfl, SqL.of sx, h1, f.plain hr h2⟩ hs
    | _ => cases e
  | scr l =>
    cases dy with
    | int i =>
      obtain ⟨p, rfl, sx⟩ := hx.scr hr
      cases hy.int
      simp only [idxEv] at e
      cases q : atD l i with
      | none => rw [q] at e; cases e
      | some n =>
        rw [q] at e
        cases e
        exact ix_list value slice pins s σ H _ _ v u Q I rx ry ⟨p, _, i, .int n, rfl, rfl, sx, atI_map V.int q, f.plain hr (by unfold Is; rfl)⟩ hs
    | _ => cases e
  | str z =>
    cases dy with
    | int i =>
      cases hx.str
      cases hy.int
      simp only [idxEv] at e
      split at e
      · rename_i hl
        cases q : atD z.cps.toList i with
        | none => rw [q] at e; cases e
        | some n =>
          rw [q] at e
          cases e
          exact ix_str value slice pins s σ H _ _ v u Q I rx ry ⟨z, i, n, rfl, rfl, by rw [← lim_eq]; exact hl, q, f.plain hr (by unfold Is; rfl)⟩ hs
      · cases e
    | _ => cases e
  | _ => cases dy <;> cases e
end
/-! ### slices -/
def tSli (W : Wx) : V → Option Int → Option Int → Hp → VK → Prop := fun x lo hi H Q => ∃ g S dx r, HRel W g H S ∧ Rep W g H dx x ∧ slEv dx (lo.map D.int) (hi.map D.int) = some r ∧ Fin W g H S r Q
theorem intO_map (o : Option Int) : D.intO (o.map D.int) = some o := by cases o <;> rfl
theorem cutS_eq (z : Str) (lo hi : Option Int) : cutS z lo hi = ⟨(Gz.cut z.cps.toList lo hi).toArray⟩ := by
  unfold cutS Gz.cut
  rfl
section
variable {X : Cx}
theorem sl_ok : SlR X (tSli (wx X)) := by
  intro pins s σ H x v vl vu lo hi sl Q I rx hs pl pu h
  obtain ⟨g, S, dx, r, hr, hx, e, f⟩ := h
  unfold slEv at e
  rw [intO_map, intO_map] at e
  simp only at e
  cases dx with
  | tup l =>
    obtain ⟨p, xs, rfl, sx, ix⟩ := hx.tup hr
    cases e
    refine sl_tupA pins s σ H _ v vl vu lo hi sl Q I rx hs pl pu ⟨p, xs, rfl, sx, fun z => ?_, fun _ t nt => Fin.tup hr f (ix.cut lo hi) t nt⟩
    have e1 : Gz.cut l lo hi = l := by
      unfold Gz.cut
      rw [← ix.length, z.1, z.2, List.drop_zero, Nat.sub_zero, ix.length, List.take_length]
    rw [e1] at f
    rcases hx with z | z
    · exact f.plain hr z
    · rcases z with ⟨⟨l, e, _⟩ | ⟨l, m, e, _⟩, _⟩ <;> cases e
  | lst l =>
    obtain ⟨p, xs, rfl, sx, ix⟩ := hx.lst hr
    cases e
    exact sl_list pins s σ H _ v vl vu lo hi sl Q I rx hs pl pu ⟨p, xs, rfl, SqL.of sx, fun t nt => Fin.lst hr f (ix.cut lo hi) t nt⟩
  | str z =>
    cases hx.str
    simp only at e
    split at e
    · rename_i hl
      cases e
      refine sl_str pins s σ H _ v vl vu lo hi sl Q I rx hs pl pu ⟨z, rfl, by rw [← lim_eq]; exact hl, ?_⟩
      rw [cutS_eq]
      exact f.plain hr (by unfold Is; rfl)
    · cases e
  | _ => cases e
end
/-! ### built-in functions -/
def Reps (W : Wx) (g : Gh) (H : Hp) : List D → List V → Prop
  | [], vs => vs = []
  | d :: ds, vs => ∃ v r, vs = v :: r ∧ Rep W g H d v ∧ Reps W g H ds r
def tBi (W : Wx) (b : Bi) : List V → Hp → VK → Prop := fun xs H Q => ∃ g S ds r, HRel W g H S ∧ Reps W g H ds xs ∧ b.ev ds = some r ∧ Fin W g H S r Q
theorem bools_eq : ∀ {l : List D} {bs : List Bool}, bools l = some bs → l = bs.map D.bl
  | [], bs, h => by cases h; rfl
  | d :: l, bs, h => by
    cases d with
    | bl b =>
      simp only [bools] at h
      cases e : bools l with
      | none => rw [e] at h; cases h
      | some cs =>
        rw [e] at h
        cases h
        rw [bools_eq e]
        rfl
    | _ => cases h
theorem intsOf_eq : ∀ {l : List D} {bs : List Int}, intsOf l = some bs → l = bs.map D.int
  | [], bs, h => by cases h; rfl
  | d :: l, bs, h => by
    cases d with
    | int b =>
      simp only [intsOf] at h
      cases e : intsOf l with
      | none => rw [e] at h; cases h
      | some cs =>
        rw [e] at h
        cases h
        rw [intsOf_eq e]
        rfl
    | _ => cases h
theorem strsOf_eq : ∀ {l : List D} {bs : List Str}, strsOf l = some bs → l = bs.map D.str
  | [], bs, h => by cases h; rfl
  | d :: l, bs, h => by
    cases d with
    | str b =>
      simp only [strsOf] at h
      cases e : strsOf l with
      | none => rw [e] at h; cases h
      | some cs =>
        rw [e] at h
        cases h
        rw [strsOf_eq e]
        rfl
    | _ => cases h
theorem minF_spec : ∀ (r : List Int) (x : Int), (r.foldl (fun m y => if y < m then y else m) x ∈ x :: r) ∧ ∀ y ∈ x :: r, r.foldl (fun m y => if y < m then y else m) x ≤ y
  | [], x => by simp
  | a :: r, x => by
    rw [List.foldl_cons]
    have ih := minF_spec r (if a < x then a else x)
    refine ⟨?_, fun y hy => ?_⟩
    · rcases List.mem_cons.mp ih.1 with e | e
      · rw [e]; split <;> simp
      · exact List.mem_cons_of_mem _ (List.mem_cons_of_mem _ e)
    · have h0 := ih.2 (if a < x then a else x) (List.mem_cons_self)
      rcases List.mem_cons.mp hy with e | e
      · subst e; split at h0 <;> split <;> omega
      · rcases List.mem_cons.mp e with e | e
        · subst e; split at h0 <;> split <;> omega
        · exact ih.2 y (List.mem_cons_of_mem _ e)
theorem maxF_spec : ∀ (r : List Int) (x : Int), (r.foldl (fun m y => if y > m then y else m) x ∈ x :: r) ∧ ∀ y ∈ x :: r, y ≤ r.foldl (fun m y => if y > m then y else m) x
  | [], x => by simp
  | a :: r, x => by
    rw [List.foldl_cons]
    have ih := maxF_spec r (if a > x then a else x)
    refine ⟨?_, fun y hy => ?_⟩
    · rcases List.mem_cons.mp ih.1 with e | e
      · rw [e]; split <;> simp
      · exact List.mem_cons_of_mem _ (List.mem_cons_of_mem _ e)
    · have h0 := ih.2 (if a > x then a else x) (List.mem_cons_self)
      rcases List.mem_cons.mp hy with e | e
      · subst e; split at h0 <;> split <;> omega
      · rcases List.mem_cons.mp e with e | e
        · subst e; split at h0 <;> split <;> omega
        · exact ih.2 y (List.mem_cons_of_mem _ e)
theorem Reps.one {W : Wx} {g : Gh} {H : Hp} {d : D} {xs : List V} (h : Reps W g H [d] xs) : ∃ v, xs = [v] ∧ Rep W g H d v := by
  unfold Reps at h
  obtain ⟨v, r, rfl, h1, h2⟩ := h
  unfold Reps at h2
  subst h2
  exact ⟨v, rfl, h1⟩
theorem Reps.two {W : Wx} {g : Gh} {H : Hp} {d e : D} {xs : List V} (h : Reps W g H [d, e] xs) : ∃ v u, xs = [v, u] ∧ Rep W g H d v ∧ Rep W g H e u := by
  unfold Reps at h
  obtain ⟨v, r, rfl, h1, h2⟩ := h
  obtain ⟨u, rfl, h3⟩ := h2.one
  exact ⟨v, u, rfl, h1, h3⟩
/-- the value that a built-in's name stands for -/
def Bi.val : Bi → Value
  | .len => .builtin "len"
  | .tuple => .type "tuple"
  | .list => .type "list"
  | .all => .builtin "all"
  | .any => .builtin "any"
  | .min => .builtin "min"
  | .max => .builtin "max"
  | .int => .type "int"
  | .str => .type "str"
  | .sum => .builtin "sum"
  | .sorted => .builtin "sorted"
  | .dict => .type "dict"
  | .lenSet => .builtin "len"
  | .srtSet => .builtin "sorted"
  | .lrange => .type "list"
section
variable {X : Cx}
theorem bi_ok (c : Cok X) (hc : X.calm = true) (b : Bi) : CallR X b.val (tBi (wx X) b) := by
  intro pins s σ H xs us Q I r h
  obtain ⟨g, S, ds, rv, hr, hx, e, f⟩ := h
  cases b with
  | len =>
    match ds, e with
    | [.tup l], e =>
      obtain ⟨v, rfl, h1⟩ := hx.one
      obtain ⟨p, ys, rfl, s1, i1⟩ := h1.tup hr
      cases e
      exact call_len_seq pins s σ H _ us Q I r ⟨p, ys, rfl, .inr s1, by rw [i1.length]; exact f.plain hr (by unfold Is; rfl)⟩
    | [.lst l], e =>
      obtain ⟨v, rfl, h1⟩ := hx.one
      obtain ⟨p, ys, rfl, s1, i1⟩ := h1.lst hr
      cases e
      exact call_len_seq pins s σ H _ us Q I r ⟨p, ys, rfl, .inl (SqL.of s1), by rw [i1.length]; exact f.plain hr (by unfold Is; rfl)⟩
    | [.scr l], e =>
      obtain ⟨v, rfl, h1⟩ := hx.one
      obtain ⟨p, rfl, s1⟩ := h1.scr hr
      cases e
      exact call_len_seq pins s σ H _ us Q I r ⟨p, _, rfl, .inl s1, by rw [List.length_map]; exact f.plain hr (by unfold Is; rfl)⟩
    | [.str z], e =>
      obtain ⟨v, rfl, h1⟩ := hx.one
      cases h1.str
      simp only [Bi.ev] at e
      split at e
      · rename_i hl
        cases e
        exact call_len pins s σ H _ us Q I r ⟨.str z, _, rfl, ⟨by rw [← lim_eq]; exact hl, rfl⟩, f.plain hr (by unfold Is; rfl)⟩
      · cases e
  | tuple =>
    match ds, e with
    | [.tup l], e =>
      obtain ⟨v, rfl, h1⟩ := hx.one
      obtain ⟨p, ys, rfl, s1, i1⟩ := h1.tup hr
      cases e
      refine call_tuple_of pins s σ H _ us Q I r ⟨p, ys, rfl, .inr ⟨s1, ?_⟩⟩
      rcases h1 with z | z
      · exact f.plain hr z
      · rcases z with ⟨⟨l, e, _⟩ | ⟨l, m, e, _⟩, _⟩ <;> cases e
    | [.lst l], e =>
      obtain ⟨v, rfl, h1⟩ := hx.one
      obtain ⟨p, ys, rfl, s1, i1⟩ := h1.lst hr
      cases e
      exact call_tuple_of pins s σ H _ us Q I r ⟨p, ys, rfl, .inl ⟨SqL.of s1, fun t nt => Fin.tup hr f i1 t nt⟩⟩
  | list =>
    match ds, e with
    | [.tup l], e =>
      obtain ⟨v, rfl, h1⟩ := hx.one
      obtain ⟨p, ys, rfl, s1, i1⟩ := h1.tup hr
      cases e
      exact call_list_of pins s σ H _ us Q I r ⟨p, ys, rfl, .inr s1, fun t nt => Fin.lst hr f i1 t nt⟩
    | [.lst l], e =>
      obtain ⟨v, rfl, h1⟩ := hx.one
      obtain ⟨p, ys, rfl, s1, i1⟩ := h1.lst hr
      cases e
      exact call_list_of pins s σ H _ us Q I r ⟨p, ys, rfl, .inl (SqL.of s1), fun t nt => Fin.lst hr f i1 t nt⟩
  | all =>
    match ds, e with
    | [.lst l], e =>
      obtain ⟨v, rfl, h1⟩ := hx.one
      obtain ⟨p, ys, rfl, s1, i1⟩ := h1.lst hr
      simp only [Bi.ev] at e
      cases eb : bools l with
      | none => rw [eb] at e; cases e
      | some bs =>
        rw [eb] at e
        cases e
        rw [bools_eq eb] at i1
        rw [i1.bls] at s1
        exact cr_all hc pins s σ H _ us Q I r ⟨p, bs, rfl, SqL.of s1, f.plain hr (by unfold Is; rfl)⟩
  | any =>
    match ds, e with
    | [.lst l], e =>
      obtain ⟨v, rfl, h1⟩ := hx.one
      obtain ⟨p, ys, rfl, s1, i1⟩ := h1.lst hr
      simp only [Bi.ev] at e
      cases eb : bools l with
      | none => rw [eb] at e; cases e
      | some bs =>
        rw [eb] at e
        cases e
        rw [bools_eq eb] at i1
        rw [i1.bls] at s1
        exact cr_any hc pins s σ H _ us Q I r ⟨p, bs, rfl, SqL.of s1, f.plain hr (by unfold Is; rfl)⟩
  | min =>
    match ds, e with
    | [.int i, .int j], e =>
      obtain ⟨v, u, rfl, h1, h2⟩ := hx.two
      cases h1.int; cases h2.int; cases e
      exact call_min2 hc pins s σ H _ us Q I r ⟨i, j, rfl, f.plain hr (by unfold Is; rfl)⟩
    | [.lst l], e =>
      obtain ⟨v, rfl, h1⟩ := hx.one
      obtain ⟨p, ys, rfl, s1, i1⟩ := h1.lst hr
      simp only [Bi.ev] at e
      cases eb : intsOf l with
      | none => rw [eb] at e; cases e
      | some bs =>
        rw [eb] at e
        rw [intsOf_eq eb] at i1
        rw [i1.ints] at s1
        cases bs with
        | nil => cases e
        | cons a t =>
          cases e
          refine cr_min hc pins s σ H _ us Q I r ⟨p, a :: t, rfl, SqL.of s1, by simp, fun m h1 h2 => ?_⟩
          have z := minF_spec t a
          have e1 : m = t.foldl (fun m y => if y < m then y else m) a := Int.le_antisymm (h2 _ z.1) (z.2 m h1)
          rw [e1]
          exact f.plain hr (by unfold Is; rfl)
  | max =>
    match ds, e with
    | [.int i, .int j], e =>
      obtain ⟨v, u, rfl, h1, h2⟩ := hx.two
      cases h1.int; cases h2.int; cases e
      exact call_max2 hc pins s σ H _ us Q I r ⟨i, j, rfl, f.plain hr (by unfold Is; rfl)⟩
    | [.lst l], e =>
      obtain ⟨v, rfl, h1⟩ := hx.one
      obtain ⟨p, ys, rfl, s1, i1⟩ := h1.lst hr
      simp only [Bi.ev] at e
      cases eb : intsOf l with
      | none => rw [eb] at e; cases e
      | some bs =>
        rw [eb] at e
        rw [intsOf_eq eb] at i1
        rw [i1.ints] at s1
        cases bs with
        | nil => cases e
        | cons a t =>
          cases e
          refine cr_max hc pins s σ H _ us Q I r ⟨p, a :: t, rfl, SqL.of s1, by simp, fun m h1 h2 => ?_⟩
          have z := maxF_spec t a
          have e1 : m = t.foldl (fun m y => if y > m then y else m) a := Int.le_antisymm (z.2 m h1) (h2 _ z.1)
          rw [e1]
          exact f.plain hr (by unfold Is; rfl)
    | [.tup l], e =>
      obtain ⟨v, rfl, h1⟩ := hx.one
      obtain ⟨p, ys, rfl, s1, i1⟩ := h1.tup hr
      simp only [Bi.ev] at e
      cases eb : intsOf l with
      | none => rw [eb] at e; cases e
      | some bs =>
        rw [eb] at e
        rw [intsOf_eq eb] at i1
        rw [i1.ints] at s1
        cases bs with
        | nil => cases e
        | cons a t =>
          cases e
          refine cr_maxT hc pins s σ H _ us Q I r ⟨p, a :: t, rfl, s1, by simp, fun m h1 h2 => ?_⟩
          have z := maxF_spec t a
          have e1 : m = t.foldl (fun m y => if y > m then y else m) a := Int.le_antisymm (z.2 m h1) (h2 _ z.1)
          rw [e1]
          exact f.plain hr (by unfold Is; rfl)
  | int =>
    match ds, e with
    | [.int i], e =>
      obtain ⟨v, rfl, h1⟩ := hx.one
      cases h1.int; cases e
      exact call_int1 pins s σ H _ us Q I r (.inl ⟨i, rfl, f.plain hr (by unfold Is; rfl)⟩)
    | [.bl b], e =>
      obtain ⟨v, rfl, h1⟩ := hx.one
      cases h1.bl; cases e
      exact call_int1 pins s σ H _ us Q I r (.inr ⟨b, rfl, f.plain hr (by unfold Is; rfl)⟩)
  | str =>
    match ds, e with
    | [.int i], e =>
      obtain ⟨v, rfl, h1⟩ := hx.one
      cases h1.int
      simp only [Bi.ev] at e
      split at e
      · rename_i hl
        cases e
        exact call_str_int pins s σ H _ us Q I r ⟨i, rfl, hl, f.plain hr (by unfold Is; rfl)⟩
      · cases e
  | sum =>
    match ds, e with
    | [.lst l], e =>
      obtain ⟨v, rfl, h1⟩ := hx.one
      obtain ⟨p, ys, rfl, s1, i1⟩ := h1.lst hr
      simp only [Bi.ev] at e
      cases eb : intsOf l with
      | none => rw [eb] at e; cases e
      | some bs =>
        rw [eb] at e
        cases e
        rw [intsOf_eq eb] at i1
        rw [i1.ints] at s1
        exact cr_sum hc pins s σ H _ us Q I r ⟨p, bs, rfl, SqL.of s1, f.plain hr (by unfold Is; rfl)⟩
  | sorted =>
    match ds, e with
    | [.tup l], e =>
      obtain ⟨v, rfl, h1⟩ := hx.one
      obtain ⟨p, ys, rfl, s1, i1⟩ := h1.tup hr
      simp only [Bi.ev] at e
      split at e
      · rename_i hl
        rw [Bool.and_eq_true] at hl
        cases e
        rw [Vals.ref1 r]
        exact cr_srt c I hr (.inr s1) i1 hl.1 hl.2 f
      · cases e
    | [.lst l], e =>
      obtain ⟨v, rfl, h1⟩ := hx.one
      obtain ⟨p, ys, rfl, s1, i1⟩ := h1.lst hr
      simp only [Bi.ev] at e
      split at e
      · rename_i hl
        rw [Bool.and_eq_true] at hl
        cases e
        rw [Vals.ref1 r]
        exact cr_srt c I hr (.inl (SqL.of s1)) i1 hl.1 hl.2 f
      · cases e
  | dict => cases e
  | lenSet => cases e
  | srtSet => cases e
  | lrange => cases e
end
/-! ### isinstance -/
def Ty.nm : Ty → String
  | .int => "int"
  | .bool => "bool"
  | .tuple => "tuple"
  | .str => "str"
  | .list => "list"
  | .exc _ => ""
def tIsi (W : Wx) (t : Ty) : List V → Hp → VK → Prop := fun xs H Q => ∃ g S d x b, HRel W g H S ∧ xs = [x, .ty t.nm] ∧ Rep W g H d x ∧ t.ev d = some b ∧ Q (.bl b) H
theorem tyx_tup {K : PySem.W.Frag} {H : Hp} {a : Addr} {xs : List V} (h : SqT K H a xs) : TyX K H (.ref a) (.type "tuple") := by
  rcases h with (h | ⟨o, h⟩) | ⟨o, its, n, h1, h2, _⟩
  · exact .base (.tup h)
  · exact .fTuple h
  · exact .kTuple h1 h2
section
variable {X : Cx}
theorem isi_ok (t : Ty) : CallR X (.builtin "isinstance") (tIsi (wx X) t) := by
  intro pins s σ H xs us Q I r h
  obtain ⟨g, S, d, x, b, hr, rfl, hx, e, f⟩ := h
  have go : ∀ T : String, TyX X.K H x (.type T) → kitB T t.nm = some b → wpAny (model X.prog X.w) X.A (call (.builtin "isinstance") us) (EP X pins σ Q) X.xe s := fun T ty k =>
    call_isi pins s σ H _ us Q I r ⟨x, .ty t.nm, .type T, .type t.nm, b, rfl, .ty _, ty, kit_ty k, f⟩
  cases d with
  | non =>
    cases hx.non
    cases t <;> cases e <;> exact go "NoneType" (.base .non) (by decide +kernel)
  | bl k =>
    cases hx.bl
    cases t <;> cases e <;> exact go "bool" (.base (.bl k)) (by decide +kernel)
  | int k =>
    cases hx.int
    cases t <;> cases e <;> exact go "int" (.base (.int k)) (by decide +kernel)
  | str k =>
    cases hx.str
    cases t <;> cases e <;> exact go "str" (.base (.str k)) (by decide +kernel)
  | tup l =>
    obtain ⟨p, ys, rfl, s1, i1⟩ := hx.tup hr
    cases t <;> cases e <;> exact go "tuple" (tyx_tup s1) (by decide +kernel)
  | lst l =>
    obtain ⟨p, ys, rfl, s1, i1⟩ := hx.lst hr
    cases t <;> cases e <;> exact go "list" (.base (.lst s1)) (by decide +kernel)
  | _ => cases t <;> cases e
end
/-! ### truth -/
theorem rep_truth {W : Wx} {g : Gh} {H : Hp} {S : Store} {d : D} {x : V} {b : Bool} (hr : HRel W g H S) (h : Rep W g H d x) (e : d.truth = some b) : TruV W.K x H b := by
  cases d with
  | non => cases e; rw [h.non]; rfl
  | bl k => cases e; rw [h.bl]; rfl
  | int k => cases e; rw [h.int]; rfl
  | str k =>
    simp only [D.truth] at e
    split at e
    · rename_i hl
      cases e
      rw [h.str]
      exact ⟨by rw [← lim_eq]; exact hl, rfl⟩
    · cases e
  | tup l =>
    cases e
    obtain ⟨p, ys, rfl, s1, i1⟩ := h.tup hr
    refine .inr (.inl ⟨ys, s1, ?_⟩)
    have := i1.length
    cases ys <;> cases l <;> first | rfl | cases this
  | lst l =>
    cases e
    obtain ⟨p, ys, rfl, s1, i1⟩ := h.lst hr
    refine .inl ⟨ys, SqL.of s1, ?_⟩
    have := i1.length
    cases ys <;> cases l <;> first | rfl | cases this
  | scr l =>
    cases e
    obtain ⟨p, rfl, s1⟩ := h.scr hr
    refine .inl ⟨_, s1, ?_⟩
    cases l <;> rfl
  | dct ks vs =>
    cases e
    obtain ⟨p, ys, rfl, s1, _, i1, i2⟩ := h.dct hr
    refine .inr (.inr ⟨_, s1, ?_⟩)
    cases ys <;> cases ks <;> first | rfl | cases i2
  | _ => cases e
/-! ### methods -/
def tMt (W : Wx) (m : Mt) : V → List V → Hp → VK → Prop := fun x xs H Q => ∃ g S d ds r, HRel W g H S ∧ Rep W g H d x ∧ Reps W g H ds xs ∧ m.ev d ds = some r ∧ Fin W g H S r Q
section
variable {X : Cx}
theorem join_ok : MtR X "str.join" (tMt (wx X) .join) := by
  intro pins s σ H x xs v us Q I rx rxs h
  obtain ⟨g, S, d, ds, r, hr, hx, hxs, e, f⟩ := h
  match d, ds, e with
  | .str z, [.lst l], e =>
    cases hx.str
    obtain ⟨w, rfl, h1⟩ := hxs.one
    obtain ⟨p, ys, rfl, s1, i1⟩ := h1.lst hr
    simp only [Mt.ev] at e
    cases eb : strsOf l with
    | none => rw [eb] at e; cases e
    | some bs =>
      rw [eb] at e
      simp only [Option.bind_some] at e
      split at e
      · rename_i hl
        cases e
        rw [strsOf_eq eb] at i1
        rw [i1.strs] at s1
        exact mt_join pins s σ H _ _ v us Q I rx rxs ⟨z, p, bs, rfl, rfl, .inl (SqL.of s1), of_decide_eq_true hl, f.plain hr (by unfold Is; rfl)⟩
      · cases e
theorem pys_get : ∀ (l : List D) (j : Nat), (D.pys l)[j]? = l[j]?.map D.py := fun l j => by rw [D.pys_map, List.getElem?_map]
theorem lindex_ok (c : Cok X) : MtR X "list.index" (tMt (wx X) .index) := by
  intro pins s σ H x xs v us Q I rx rxs h
  have hu := c.un
  obtain ⟨g, S, d, ds, r, hr, hx, hxs, e, f⟩ := h
  match d, ds, e with
  | .lst l, [a], e =>
    obtain ⟨w, rfl, h1⟩ := hxs.one
    simp only [Mt.ev] at e
    split at e
    · rename_i q
      rw [Bool.and_eq_true] at q
      cases ej : l.findIdx? (fun z => z.eqb a) with
      | none => rw [ej] at e; cases e
      | some j =>
        rw [ej] at e
        cases e
        obtain ⟨p, ys, rfl, s1, i1⟩ := hx.lst hr
        obtain ⟨hj, hja, hjb⟩ := List.findIdx?_eq_some_iff_getElem.mp ej
        have ok1 : ∀ (m : Nat) (hm : m < l.length), PyData.eqv l[m].py a.py = l[m].eqb a := fun m hm => by
          have hmem : ∀ (n : Nat) (l : List D), D.oks n l = true → ∀ x ∈ l, x.okq n = true := fun n l => by
            induction l with
            | nil => intro _ x hx; cases hx
            | cons y l ih =>
              intro hq x hx
              have hq' : y.okq n = true ∧ D.oks n l = true := by simpa [D.oks] using hq
              rcases List.mem_cons.mp hx with rfl | hx
              · exact hq'.1
              · exact ih hq'.2 x hx
          exact eqv_py 60 60 _ _ (hmem 60 l q.2 _ (List.getElem_mem hm)) q.1
        refine mt_indexD (by omega) pins s σ H _ _ v us Q I rx rxs ⟨p, w, a.py, D.pys l, j, l[j].py, rfl, rfl, .lst (SqL.of s1) (Is.dps hr.fh 60 l ys q.2 i1), h1.dp hr q.1, oks_shapedL q.2, okq_shaped q.1, ?_, ?_, ?_, f.plain hr (by unfold Is; rfl)⟩
        · rw [pys_get, List.getElem?_eq_getElem hj]; rfl
        · rw [ok1 j hj]; exact hja
        · intro m z' hm hz
          have hml : m < l.length := by omega
          rw [pys_get, List.getElem?_eq_getElem hml] at hz
          cases hz
          rw [ok1 m hml]
          have := hjb m hm
          simpa using this
    · cases e
end
end Gz
end -- GzE
section -- GzF
/-! GzF: the look at the text, and what a reading is. -/
namespace Gz
open PySem PySem.Spec PyProof.Rows L2
/-! ### the look -/
def visB (sc : Scope) (x : Str) : Bool := match sc.names.lookup x with
  | some .local => true
  | some .cell => true
  | some .free => true
  | _ => false
def locB (sc : Scope) (x : Str) : Bool := match sc.names.lookup x with
  | some .local => true
  | some .cell => true
  | _ => false
def localB (sc : Scope) (x : Str) : Bool := match sc.names.lookup x with
  | some .local => true
  | _ => false
def glB (sc : Scope) (x : Str) : Bool := match sc.names.lookup x with
  | some .globalImplicit => true
  | _ => false
def nameB (x : Str) : Bool := !(x == ("__debug__" : Str)) && !(x == ("__classdict__" : Str)) && !(x == ("__name__" : Str))
def notStar : Expr → Bool
  | .Starred _ _ => false
  | _ => true
def plainB : Expr → Bool
  | .Slice _ _ _ _ => false
  | _ => true
def Bi.nm : Bi → Str
  | .len => "len"
  | .tuple => "tuple"
  | .list => "list"
  | .all => "all"
  | .any => "any"
  | .min => "min"
  | .max => "max"
  | .int => "int"
  | .str => "str"
  | .sum => "sum"
  | .sorted => "sorted"
  | .dict => "dict"
  | .lenSet => "len"
  | .srtSet => "sorted"
  | .lrange => "list"
/-- the built-ins' names that no name of the module hides -/
def free : List Str := ["len", "tuple", "list", "all", "any", "min", "max", "int", "str", "sum", "sorted", "dict", "isinstance", "bool", "range", "zip", "enumerate", "set", "ValueError"]
def tgB (N : List Str) (sc : Scope) (fn : Str → Bool) : Tg → Expr → Bool
  | .one i, .Name x _ => decide (N[i]? = some x) && locB sc x && (fn x || localB sc x)
  | .many is, .Tuple es _ _ => decide (is.length = es.length) && (is.zip es).all fun p => match p.2 with
    | .Name x _ => decide (N[p.1]? = some x) && locB sc x && (fn x || localB sc x)
    | _ => false
  | _, _ => false
/-- the target's slots are the block's own -/
def tgIn (vs : List Nat) : Tg → Bool
  | .one i => vs.contains i
  | .many l => l.all fun i => vs.contains i
def cellB (scope : Scope) (x : Str) : Bool := scope.names.lookup x == some .cell
def oB : Expr → Bool
  | .Constant _ _ _ => true
  | .Name _ _ => true
  | .ListComp _ _ _ _ => true
  | _ => false
section
variable (P : Prog) (N : List Str)
mutual
/-- t: as a test -/
def chkE (sc : Scope) (t : Bool) : E → Expr → Bool
  | .var i, x => match x with
    | .Name x _ => decide (N[i]? = some x) && visB sc x && nameB x
    | _ => false
  | .int n, x => match x with
    | .Constant (.int m) _ _ => !t && decide (n = m)
    | .UnaryOp .USub (.Constant (.int m) _ _) _ => !t && decide (n = -m)
    | _ => false
  | .bl b, x => match x with
    | .Constant (.bool c) _ _ => !t && b == c
    | _ => false
  | .non, x => match x with
    | .Constant .none _ _ => !t
    | _ => false
  | .str s, x => match x with
    | .Constant (.str u) _ _ => !t && decide (s = u)
    | _ => false
  | .glob y, x => match x with
    | .Name x _ => !t && decide (y = x) && glB sc x && nameB x
    | _ => false
  | .fnv y, x => match x with
    | .Name x _ => !t && decide (y = x) && glB sc x && nameB x && (P.defs.lookup x).isSome && !P.hot
    | _ => false
  | .gix y a, x => match x with
    | .Subscript (.Name x _) b _ => decide (y = x) && glB sc x && nameB x && (P.tabs.lookup y).isSome && plainB b && chkE sc false a b
    | _ => false
  | .bin o a b, x => match x with
    | .BinOp l op r _ => !t && decide (op = o.op) && chkE sc false a l && chkE sc false b r
    | _ => false
  | .cmp o a b, x => match x with
    | .Compare l [op] [r] _ => decide (op = o.op) && !behindInMarks op r && chkE sc false a l && chkE sc false b r
    | _ => false
  | .chain o o' a b c, x => match x with
    | .Compare l [op, op'] [r, q] _ => decide (op = o.op) && decide (op' = o'.op) && !lastMarks [op, op'] [r, q] && chkE sc false a l && chkE sc false b r && chkE sc false c q
    | _ => false
  | .not a, x => match x with
    | .UnaryOp .Not y _ => chkE sc t a y
    | _ => false
  | .and a b, x => match x with
    | .BoolOp .And (l :: r :: rest) pos => chkE sc t a l && (match rest with
      | [] => chkE sc t b r
      | _ :: _ => chkE sc t b (.BoolOp .And (r :: rest) pos))
    | _ => false
  | .or a b, x => match x with
    | .BoolOp .Or (l :: r :: rest) pos => chkE sc t a l && (match rest with
      | [] => chkE sc t b r
      | _ :: _ => chkE sc t b (.BoolOp .Or (r :: rest) pos))
    | _ => false
  | .ite c a b, x => match x with
    | .IfExp y l r _ => !t && chkE sc true c y && chkE sc false a l && chkE sc false b r
    | _ => false
  | .tup es, x => match x with
    | .Tuple xs _ _ => !t && decide (xs.length ≤ 1000) && chkEs sc es xs
    | _ => false
  | .lst es, x => match x with
    | .List xs _ => !t && decide (xs.length ≤ 1000) && chkEs sc es xs
    | _ => false
  | .dct _ _, _ => false
  | .idx a i, x => match x with
    | .Subscript l r _ => plainB r && chkE sc false a l && chkE sc false i r
    | _ => false
  | .slL a i, x => match x with
    | .Subscript l (.Slice (some r) none none _) _ => chkE sc false a l && chkE sc false i r
    | _ => false
  | .slU a i, x => match x with
    | .Subscript l (.Slice none (some r) none _) _ => chkE sc false a l && chkE sc false i r
    | _ => false
  | .slB a i j, x => match x with
    | .Subscript l (.Slice (some r) (some q) none _) _ => chkE sc false a l && chkE sc false i r && chkE sc false j q
    | _ => false
  | .rev a, x => match x with
    | .Subscript l (.Slice none none (some (.UnaryOp .USub (.Constant (.int m) _ _) _)) _) _ => decide (m = 1) && chkE sc false a l
    | _ => false
  | .lenS a, x => match x with
    | .Call (.Name y _) [.Call (.Name z _) [l] [] _] [] _ => decide (("len" : Str) = y) && glB sc y && decide (("set" : Str) = z) && glB sc z && notStar l && chkE sc false a l && !P.hot
    | _ => false
  | .call f es, x => match x with
    | .Call (.Name y _) xs [] _ => decide (f = y) && glB sc y && nameB y && (P.defs.lookup f).isSome && chkEs sc es xs && (!P.hot || (decide (f ∈ P.hots) && !xs.isEmpty))
    | _ => false
  | .callv i es, x => match x with
    | .Call (.Name y _) xs [] _ => decide (N[i]? = some y) && visB sc y && nameB y && !xs.isEmpty && chkEs sc es xs && !P.hot
    | _ => false
  | .calle a es, x => match x with
    | .Call (.Subscript l r p) xs [] _ => !xs.isEmpty && chkE sc false a (.Subscript l r p) && chkEs sc es xs && !P.hot
    | _ => false
  | .bi b es, x => match x with
    | .Call (.Name y _) xs [] _ => decide (b.nm = y) && glB sc y && !xs.isEmpty && chkEs sc es xs && !P.hot
    | _ => false
  | .isi u a, x => match x with
    | .Call (.Name y _) [l, .Name z _] [] _ => decide (("isinstance" : Str) = y) && glB sc y && (match u with
      | .exc _ => false
      | _ => true) && decide ((Str.ofString u.nm) = z) && glB sc z && notStar l && chkE sc false a l
    | _ => false
  | .isx T a, x => match x with
    | .Call (.Name y _) [l, .Name z _] [] _ => decide (("isinstance" : Str) = y) && glB sc y && decide (T = z) && glB sc z && nameB z && (decide (T ∈ P.excs) || decide (T = ("ValueError" : Str))) && notStar l && chkE sc false a l
    | _ => false
  | .mt m o es, x => match x with
    | .Call (.Attribute l y ap) [r] [] cp => (match m with
      | .join => decide (("join" : Str) = y)
      | .index => decide (("index" : Str) = y)
      | .count => decide (("count" : Str) = y)
      | _ => false) && (ap.endLine == cp.line) && oB l && chkE sc false o l && chkEs sc es [r]
    | _ => false
  | .lc vs tg k it cs elt, x => match x with
    | .ListComp el [⟨y, i, ifs, 0⟩] scope _ => !t && blkC N sc scope vs && tgB N (relS scope sc) (cellB scope) tg y && tgIn (vs.map (·.2)) tg && (match k, y with
        | .zip, .Tuple _ _ _ => true
        | .zip, _ => false
        | .enum, .Tuple _ _ _ => true
        | .enum, _ => false
        | _, _ => true) && chkI sc k it i && chkTs (relS scope sc) cs ifs && chkE (relS scope sc) false elt el && !P.hot
    | _ => false
def chkEs (sc : Scope) : Es → List Expr → Bool
  | .nil, [] => true
  | .cons e es, x :: xs => notStar x && chkE sc false e x && chkEs sc es xs
  | _, _ => false
def chkTs (sc : Scope) : Es → List Expr → Bool
  | .nil, [] => true
  | .cons e es, [x] => (match es with
    | .nil => true
    | _ => false) && chkE sc true e x
  | _, _ => false
/-- what is walked -/
def chkI (sc : Scope) (k : Ik) : Es → Expr → Bool
  | .nil, _ => false
  | .cons e es, x => match k with
    | .seq => (match es with
      | .nil => true
      | _ => false) && (match x with
      | .Set _ _ _ => false
      | _ => true) && chkE sc false e x
    | .rng => (match x with
      | .Call (.Name y _) (l :: xs) [] _ => decide (("range" : Str) = y) && glB sc y && (decide (xs.length = 0) || decide (xs.length = 1)) && notStar l && chkE sc false e l && chkEs sc es xs
      | _ => false)
    | .zip => (match x with
      | .Call (.Name y _) (l :: xs) [] _ => decide (("zip" : Str) = y) && glB sc y && decide (xs.length = 1) && notStar l && chkE sc false e l && chkEs sc es xs
      | _ => false)
    | .enum => (match x with
      | .Call (.Name y _) (l :: xs) [] _ => decide (("enumerate" : Str) = y) && glB sc y && decide (xs.length = 0) && notStar l && chkE sc false e l && chkEs sc es xs
      | _ => false)
end
end
end Gz
end -- GzF
section -- GzHo
set_option maxHeartbeats 1000000
/-! GzHo: defs that are called where an error is in hand; isinstance of it. -/
namespace Gz
open PySem PySem.Spec PyProof.Rows L2 L2H
/-- what a def promises where p's object is the error in hand -/
structure FnH1 (P : Program) (w : World) (K : PySem.W.Frag) (mg : Str → Option Value) (base : Heap) (CX : CXT) (k : Nat) (f : Addr) (fd : FuncData) (ps : List Str) (p : Addr × Obj) (sp : Sp) : Prop where
  len : ∀ vs H Q E, sp vs H Q E → vs.length = ps.length
  run : ∀ (A : Around) (outer : List PySem.Env) (s : Shared) (H : Hp) (args : Args) (us : List Value) (vs : List V) (Q : VK) (E : XK), RoomH k A → PinOk outer H s p → Env0 P w K mg base A outer s H → BindsTo s fd args (ps.zip us) → Vals vs us → sp vs H Q E →
    codeAny (model P w) A (.call (.ref f) args) (CR CX outer P w H s Q E) s
theorem fn_ofH1 {CX : CXT} {P : Program} {w : World} {K : PySem.W.Frag} {mg : Str → Option Value} {base : Heap} {k : Nat} {f : Addr} {name qual : Str} {params : Arguments} {body : List Stmt} {scope : Scope} {dV kV doc pm cdv ct oc : Value} {an od : Option Addr}
    {osl : Array (Option Value)} {N ps : List Str} {p : Addr × Obj} {sp : Sp} (lk : K.lookup f = some ⟨oc, od, .func (PySem.W.fnOf name qual params body scope dV kV doc pm an cdv ct), osl⟩) (hcd : PySem.W.codeIn K cdv qual = true) (S : FnScope N ps scope)
    (len : ∀ vs H Q E, sp vs H Q E → vs.length = ps.length)
    (hbody : ∀ (A : Around) (outer : List PySem.Env) (s : Shared) (H : Hp) (vs : List V) (Q : VK) (E : XK), RoomH k (A.deeper (envOfC qual scope s.heap.objs.size f cdv)) → sp vs H Q E →
      ∃ t, PSs (cxH CX P w K mg base N qual scope f cdv A outer s H E p) body t ∧ t { nx := fun _ H' => Q .non H', rt := Q } (L2.start N vs) H) :
    FnH1 P w K mg base CX (k + 1) f (PySem.W.fnOf name qual params body scope dV kV doc pm an cdv ct) ps p sp := by
  refine ⟨len, fun A outer s H args us vs Q E hr hpin e0 hb r hsp => ?_⟩
  have hl := len _ _ _ _ hsp
  have KX : K.In s.heap := e0.mod.kin.keeps fun b o e => (e0.bs b o e).1
  have lim : s.heap.NoLimit := e0.mod.nolimit.keeps fun b o e => (e0.bs b o e).1
  have hkind : ∀ y ∈ ps.zip us, scope.names.lookup y.1 = some .local ∨ (scope.names.lookup y.1 = some .cell ∧ ((cellsFrom (s.heap.objs.size + 1) scope.names []).lookup y.1).isSome = true) := fun ⟨n, v⟩ hy => by
    rcases S.par n (List.of_mem_zip hy).1 with q | q
    · exact .inl q
    · exact .inr ⟨q, PySem.W.cellsFrom_some _ _ _ (.inl q)⟩
  refine codeAny_call_function hr.depth (KX _ _ lk) rfl S.co S.gen rfl (PySem.W.codeRec_of KX hcd) (hb _ _ _ _ ?_)
  refine wpAny_newFunctionEnv_cells S.kind hkind fun env he s1 x => ?_
  subst he
  refine ⟨lim.keeps x.toInCall.keep, codeAny_func ?_⟩
  obtain ⟨t, ht, hq⟩ := hbody A outer s H vs Q E (hr.deeper _) hsp
  have I : Inv (cxH CX P w K mg base N qual scope f cdv A outer s H E p) [] (L2.start N vs) H s1 := inv_startH S hpin e0 hl r x
  refine wpAny_mono (ht.run [] s1 (L2.start N vs) H _ I hq) (fun fl s' hs => ?_) fun e s' hs => hs
  have fin : ∀ {σ' : L2.St} {H' : Hp} {v : V} {u : Value}, Inv (cxH CX P w K mg base N qual scope f cdv A outer s H E p) [] σ' H' s' → RelV v u → Q v H' → CE outer P w H s Q u s' :=
    fun {σ' H' v u} J rv q => ⟨v, H', J.os, J.bare, J.base, J.hok, rv, q⟩
  cases fl with
  | ret u =>
    obtain ⟨v, σ', H', J, rv, q⟩ := hs
    exact fin J rv q
  | next =>
    obtain ⟨σ', H', J, q⟩ := hs
    exact fin (v := V.non) (u := Value.none) J rfl q
  | brk =>
    obtain ⟨_, _, _, q⟩ := hs
    exact False.elim q
  | cont =>
    obtain ⟨_, _, _, q⟩ := hs
    exact False.elim q
section
variable {X : Cx} {CX : CXT} {k : Nat} {f : Addr} {fd : FuncData} {ps : List Str} {sp : Sp} {E : L2.St → XK} {x : Str} {q pos : Pos} {e : Expr} {es : List Expr} {t : TA} {p : Addr × Obj}
theorem run_fnH1 {pins : List (Addr × Obj)} {σ : L2.St} {H : Hp} {s : Shared} {Q : VK} {us : List Value} {vs : List V} (F : FnH1 X.prog X.w X.K X.mg X.base CX k f fd ps p sp) (hr : RoomH k X.A) (hp : p ∈ X.pn) (hb : Binds X.K fd ps []) (hx : PassesAt CX X σ (E σ))
    (I : Inv X pins σ H s) (r : Vals vs us) (h : sp vs H Q (E σ)) : wpAny (model X.prog X.w) X.A (call (.ref f) us) (EP X pins σ Q) X.xe s := by
  have hl : us.length = ps.length := by rw [← r.length]; exact F.len _ _ _ _ h
  have b := hb s us I.kIn (by rw [List.append_nil]; exact hl)
  rw [List.append_nil] at b
  have P1 := I.pin p (List.mem_append_left _ hp)
  have hpin : PinOk X.stack H s p := ⟨P1.1, P1.2.1, fun hm => (List.mem_cons.mp (I.stkSub p.1 hm)).elim P1.2.2.1 P1.2.2.2.1, P1.2.2.2.2⟩
  refine wpAny_call (codeAny_mono (F.run X.A X.stack s H ⟨us, []⟩ us vs Q (E σ) hr hpin I.env0 b r h) fun r s' hq => ?_)
  cases r with
  | error e => exact hx pins H s e s' I hq
  | ok fl =>
    cases fl with
    | ret u => exact I.after hq
    | next => exact False.elim hq
    | brk => exact False.elim hq
    | cont => exact False.elim hq
theorem pe_callH1 (F : FnH1 X.prog X.w X.K X.mg X.base CX k f fd ps p sp) (hr : RoomH k X.A) (hp : p ∈ X.pn) (hg : Gl X x) (hm : X.mg x = some (.ref f)) (hk : PySem.W.keepIn X.K (.ref f) = true) (hb : Binds X.K fd ps []) (hx : ∀ σ, PassesAt CX X σ (E σ))
    (ha : PA X (e :: es) t) (hdb : (x == ("__debug__" : Str)) = false := by decide) (he : starEach (e :: es) X.env = (false, eval e X.env) :: starEach es X.env := by rfl) (hpl : (backTo pos (starEach es X.env)).any (·.1) = false := by rfl) :
    PE X (.Call (.Name x q) (e :: es) [] pos) (tCallS sp E t) := by
  refine ⟨fun pins s σ H Q I h => ?_⟩
  refine wpAny_Call_Name_kw (ld_glob I hg hm ?_ hdb)
  refine PySem.W.callWith_K (h₀ := X.base) I.ok.mod.kin hk (thn (ha.run pos pins s σ H _ I h) fun us s1 ⟨vs, H1, I1, r, q⟩ => ⟨I1.kIn, ?_⟩) he hpl
  exact run_fnH1 F hr hp hb (hx σ) I1 r q
end
/-- isinstance of the error in hand -/
theorem call_isE1 {X : Cx} {a D : Addr} {oe : Obj} (C : ExcC X.K D) (hp : (a, oe) ∈ X.pn) (hz : Zc (.ref D) none oe) (hf : ∃ vs, oe.data = .fields vs) : CallR X (.builtin "isinstance") (rIsE X.K D a) := by
  intro pins s σ H xs us Q I r h
  obtain ⟨c, cv, b, rfl, hcv, e, q⟩ := h
  cases r with
  | cons rx rr =>
    cases rr with
    | cons rt rr =>
      cases rr
      cases rx
      have ec := hcv _ rt
      subst ec
      obtain ⟨hget, _⟩ := I.pin (a, oe) (List.mem_append.mpr (.inl hp))
      obtain ⟨vs, hv⟩ := hf
      have J : PySem.W.InstAt s.heap a oe D none := by
        obtain ⟨oc, od, oda, osl⟩ := oe
        obtain ⟨h1, h2⟩ := hz
        dsimp only at h1 h2 hv
        subst h1 h2 hv
        exact ⟨hget, rfl, rfl, trivial⟩
      exact PySem.W.kia_one (PySem.W.handS_kitx_exc C.hg C.hk C.hs C.hd C.ha C.hn C.ht C.hm) I.kIn J e (fun z => nomatch z) fun tk => ⟨.bl b, H, I.kept (t' := tk) fun _ _ z => z, rfl, q⟩
/-- the classes above ValueError -/
def bmV : List Value := [.type "ValueError", .type "Exception", .type "BaseException", .type "object"]
/-- a class of errors -/
structure ExK (K : PySem.W.Frag) (mg : Str → Option Value) (excs : List Str) (x : Str) (C : Addr) : Prop where
  at_ : mg x = some (.ref C)
  kp : PySem.W.keepIn K (.ref C) = true
  inn : PySem.W.excIn K C bmV "ValueError.__new__" = true
  sub : PySem.W.subIn K (.ref C) (.type "BaseException") = some true
  ty : PySem.W.typeIn K (.ref C) = some (.type "type")
  cc : ExcC K C
  val : PySem.W.kitOne K (.ref C) (.type "ValueError") = some true
  own : ∀ T, T ∈ excs ∨ T = ("GlazeError" : Str) → ∃ D, mg T = some (.ref D) ∧ PySem.W.kitOne K (.ref C) (.ref D) = some (excSub x T) ∧ PySem.W.exmOne K (.ref C) (.ref D) = some (excSub x T)
end Gz
end -- GzHo
section -- GzG
/-! GzG: readings; what a context knows; the parts of the soundness. -/
namespace Gz
open PySem PySem.Spec PyProof.Rows L2
def Wpo {α : Type} (o : Out α) (ok : α → Store → Prop) (ex : Str → Store → Prop) : Prop := match o with
  | .ok a S => ok a S
  | .exc x S => ex x S
  | .no => False
section
variable {α β : Type} {o : Out α} {ok ok' : α → Store → Prop} {ex ex' : Str → Store → Prop}
theorem Wpo.mono (h : Wpo o ok ex) (h1 : ∀ a S, ok a S → ok' a S) (h2 : ∀ x S, ex x S → ex' x S) : Wpo o ok' ex' := by
  cases o with
  | ok a S => exact h1 a S h
  | exc x S => exact h2 x S h
  | no => exact h.elim
theorem Wpo.bind {k : α → Store → Out β} {okb : β → Store → Prop} (h : Wpo (o.bind k) okb ex) : Wpo o (fun a S => Wpo (k a S) okb ex) ex := by
  cases o with
  | ok a S => exact h
  | exc x S => exact h
  | no => exact h.elim
theorem Wpo.opt {u : Option α} {S : Store} (h : Wpo (ofOpt u S) ok ex) : ∃ a, u = some a ∧ ok a S := by
  cases u with
  | none => exact h.elim
  | some a => exact ⟨a, rfl, h⟩
end
/-- a raised error of an own class -/
def ExC (W : Wx) (x : Str) (c : Value) : Prop := ∃ C, c = .ref C ∧ W.mg x = some (.ref C)
def EEx (W : Wx) (We : WX) (σ : L2.St) (g : Gh) (H : Hp) : Str → Store → Prop := fun x S => ∀ c g' H', HRel W g' H' S → Ext g H g' H' → ExC W x c → We c none σ H'
theorem EEx.step {W : Wx} {We : WX} {σ : L2.St} {g g1 : Gh} {H H1 : Hp} {x : Str} {S : Store} (e : Ext g H g1 H1) (h : EEx W We σ g H x S) : EEx W We σ g1 H1 x S := fun c g' H' hr x' q => h c g' H' hr (e.trans x') q
section
variable (X : Cx) (We : WX) (cl : Calls) (P : Prog)
def tE (e : E) : TE := fun σ H Q => ∃ g env S, HRel (wx X) g H S ∧ SRel (wx X) g H σ env ∧
  Wpo (evE cl P e env S) (fun r S' => ∀ v g' H', HRel (wx X) g' H' S' → Ext g H g' H' → RvIs (wx X) H g' H' r v → Q v H') (EEx (wx X) We σ g H)
def tT (e : E) : TT := fun σ H Q => ∃ g env S, HRel (wx X) g H S ∧ SRel (wx X) g H σ env ∧
  Wpo ((evE cl P e env S).bind truthR) (fun b S' => ∀ g' H', HRel (wx X) g' H' S' → Ext g H g' H' → Q b H') (EEx (wx X) We σ g H)
def tEs (es : Es) : TA := fun σ H Q => ∃ g env S, HRel (wx X) g H S ∧ SRel (wx X) g H σ env ∧
  Wpo (evEs cl P es env S) (fun ds S' => ∀ vs g' H', HRel (wx X) g' H' S' → Ext g H g' H' → IsL (wx X) g' ds vs → Q vs H') (EEx (wx X) We σ g H)
def tXs (es : Es) : TA := fun σ H Q => ∃ g env S, HRel (wx X) g H S ∧ SRel (wx X) g H σ env ∧
  Wpo (evXs cl P es env S) (fun ds S' => ∀ vs g' H', HRel (wx X) g' H' S' → Ext g H g' H' → Reps (wx X) g' H' ds vs → Q vs H') (EEx (wx X) We σ g H)
/-- what a def promises -/
def spD (W : Wx) (cl : Calls) (f : Str) : Sp := fun vs H Q E => ∃ g S ds, HRel W g H S ∧ IsL W g ds vs ∧
  Wpo (cl f ds S) (fun r S' => ∀ v g' H', HRel W g' H' S' → Ext g H g' H' → RvIs W H g' H' r v → Q v H') (fun x S' => ∀ c g' H', HRel W g' H' S' → Ext g H g' H' → ExC W x c → E c none H')
/-- what is known of a context -/
structure Kn : Prop where
  cok : Cok X
  calm : P.hot = false → X.calm = true
  nd : X.N.Nodup
  tk : Takes X We
  calls : P.hot = false → ∀ f fn, P.defs.lookup f = some fn → ∃ fa fd ps k, X.mg f = some (.ref fa) ∧ PySem.W.keepIn X.K (.ref fa) = true ∧ FnOk X.prog X.w X.K X.mg X.base (L2.CX X.prog X.w) k fa fd ps (spD (wx X) cl f) ∧ Room k X.A ∧ Binds X.K fd ps []
  callsH : P.hot = true → ∀ f fn, P.defs.lookup f = some fn → f ∈ P.hots → ∃ fa fd ps k p, X.mg f = some (.ref fa) ∧ PySem.W.keepIn X.K (.ref fa) = true ∧ FnH1 X.prog X.w X.K X.mg X.base (L2.CX X.prog X.w) k fa fd ps p (spD (wx X) cl f) ∧ L2H.RoomH k X.A ∧ Binds X.K fd ps [] ∧ p ∈ X.pn
  hotsC : P.hot = false → ∀ f fn, P.defs.lookup f = some fn → f ∈ P.hots → ∃ fa fd ps k, X.mg f = some (.ref fa) ∧ PySem.W.keepIn X.K (.ref fa) = true ∧ (∀ (a C : Addr) (oe : Obj), Zc (.ref C) none oe → (∃ vs, oe.data = .fields vs) → FnH1 X.prog X.w X.K X.mg X.base (L2.CX X.prog X.w) k fa fd ps (a, oe) (spD ⟨X.K, X.mg, some (a, C)⟩ cl f)) ∧ Room k X.A ∧ Binds X.K fd ps []
  excs : ∀ x, x ∈ P.excs → ∃ C, ExK X.K X.mg P.excs x C
  exc : ∀ a C, exO X.calm X.pn = some (a, C) → ∃ oe, (a, oe) ∈ X.pn ∧ Zc (.ref C) none oe ∧ ∃ vs, oe.data = .fields vs
  nodef : ∀ f ds S, P.defs.lookup f = none → cl f ds S = .no
  cons : ∀ x d, P.cons.lookup x = some d → ∃ u v, X.mg x = some u ∧ RelV v u ∧ ∀ g, Is (wx X) g d v
  tabs : ∀ x t, P.tabs.lookup x = some t → ∃ a, X.mg x = some (.ref a) ∧ ∀ k f, t.lookup k = some f → ∃ fa, X.mg f = some (.ref fa) ∧ KDct X.K X.w a k (.ref fa)
  free : ∀ b ∈ Gz.free, X.mg b = none
end
section
variable {X : Cx}
theorem PE.imp {e : Expr} {t t' : TE} (h : PE X e t) (i : ∀ σ H Q, t' σ H Q → t σ H Q) : PE X e t' := ⟨fun pins s σ H Q I q => h.run pins s σ H Q I (i σ H Q q)⟩
theorem PT.imp {e : Expr} {t t' : TT} (h : PT X e t) (i : ∀ σ H Q, t' σ H Q → t σ H Q) : PT X e t' := ⟨fun pins s σ H Q I q => h.run pins s σ H Q I (i σ H Q q)⟩
theorem PW.imp {e : Expr} {t t' : TT} (h : PW X e t) (i : ∀ σ H Q, t' σ H Q → t σ H Q) : PW X e t' := ⟨fun wh pins s σ H Q I q => h.run wh pins s σ H Q I (i σ H Q q)⟩
theorem PA.imp {e : List Expr} {t t' : TA} (h : PA X e t) (i : ∀ σ H Q, t' σ H Q → t σ H Q) : PA X e t' := ⟨fun ps pins s σ H Q I q => h.run ps pins s σ H Q I (i σ H Q q)⟩
theorem PI.imp {tg e : Expr} {t t' : TI} (h : PI X tg e t) (i : ∀ σ H Q, t' σ H Q → t σ H Q) : PI X tg e t' := ⟨fun pins s σ H Q I q => h.run pins s σ H Q I (i σ H Q q)⟩
theorem star1 {x : Expr} {xs : List Expr} (h : notStar x = true) (env : PySem.Env) : starEach (x :: xs) env = (false, eval x env) :: starEach xs env := by
  cases x <;> first | rfl | cases h
theorem star_all : ∀ {xs : List Expr} (env : PySem.Env), (xs.all notStar) = true → (starEach xs env).any (·.1) = false
  | [], _, _ => rfl
  | x :: xs, env, h => by
    rw [List.all_cons, Bool.and_eq_true] at h
    rw [star1 h.1, List.any_cons, star_all env h.2]
    rfl
theorem back_any {pos : Pos} : ∀ l : List (Bool × Sem Value), (backTo pos l).any (·.1) = l.any (·.1)
  | [] => rfl
  | (b, t) :: l => by
    show (b || (backTo pos l).any (·.1)) = (b || l.any (·.1))
    rw [back_any l]
end
/-! ### one after another -/
section
variable {X : Cx} {We : WX} {cl : Calls} {P : Prog} {σ : L2.St} {g : Gh} {H : Hp} {env : Env} {S : Store}
/-- an expression, then what follows -/
theorem useE {β : Type} {e : E} {k : Rv → Store → Out β} {ok : β → Store → Prop} {R : VK} (hr : HRel (wx X) g H S) (hs : SRel (wx X) g H σ env) (h : Wpo ((evE cl P e env S).bind k) ok (EEx (wx X) We σ g H))
    (n : ∀ r S1 v g1 H1, HRel (wx X) g1 H1 S1 → Ext g H g1 H1 → SRel (wx X) g1 H1 σ env → RvIs (wx X) H g1 H1 r v → Wpo (k r S1) ok (EEx (wx X) We σ g1 H1) → R v H1) : tE X We cl P e σ H R :=
  ⟨g, env, S, hr, hs, h.bind.mono (fun r S1 q v g1 H1 hr1 x1 rv => n r S1 v g1 H1 hr1 x1 (hs.ext x1) rv (q.mono (fun _ _ z => z) fun _ _ z => z.step x1)) fun _ _ z => z⟩
theorem useT {β : Type} {e : E} {k : Rv → Store → Out β} {kk : Bool → Store → Out β} {ok : β → Store → Prop} {R : Bool → Hp → Prop} (hk : ∀ r S, k r S = (truthR r S).bind kk) (hr : HRel (wx X) g H S) (hs : SRel (wx X) g H σ env) (h : Wpo ((evE cl P e env S).bind k) ok (EEx (wx X) We σ g H))
    (n : ∀ b S1 g1 H1, HRel (wx X) g1 H1 S1 → Ext g H g1 H1 → SRel (wx X) g1 H1 σ env → Wpo (kk b S1) ok (EEx (wx X) We σ g1 H1) → R b H1) : tT X We cl P e σ H R := by
  refine ⟨g, env, S, hr, hs, ?_⟩
  have h' := h.bind
  cases e1 : evE cl P e env S with
  | no => rw [e1] at h'; exact h'.elim
  | exc x S1 => rw [e1] at h'; exact h'
  | ok r S1 =>
    rw [e1] at h'
    have h2 : Wpo (k r S1) ok (EEx (wx X) We σ g H) := h'
    rw [hk] at h2
    have h3 := h2.bind
    show Wpo (truthR r S1) _ _
    exact h3.mono (fun b S2 q g1 H1 hr1 x1 => n b S2 g1 H1 hr1 x1 (hs.ext x1) (q.mono (fun _ _ z => z) fun _ _ z => z.step x1)) fun _ _ z => z
theorem useEs {β : Type} {es : Es} {k : List D → Store → Out β} {ok : β → Store → Prop} {R : List V → Hp → Prop} (hr : HRel (wx X) g H S) (hs : SRel (wx X) g H σ env) (h : Wpo ((evEs cl P es env S).bind k) ok (EEx (wx X) We σ g H))
    (n : ∀ ds S1 vs g1 H1, HRel (wx X) g1 H1 S1 → Ext g H g1 H1 → SRel (wx X) g1 H1 σ env → IsL (wx X) g1 ds vs → Wpo (k ds S1) ok (EEx (wx X) We σ g1 H1) → R vs H1) : tEs X We cl P es σ H R :=
  ⟨g, env, S, hr, hs, h.bind.mono (fun r S1 q v g1 H1 hr1 x1 rv => n r S1 v g1 H1 hr1 x1 (hs.ext x1) rv (q.mono (fun _ _ z => z) fun _ _ z => z.step x1)) fun _ _ z => z⟩
theorem useXs {β : Type} {es : Es} {k : List D → Store → Out β} {ok : β → Store → Prop} {R : List V → Hp → Prop} (hr : HRel (wx X) g H S) (hs : SRel (wx X) g H σ env) (h : Wpo ((evXs cl P es env S).bind k) ok (EEx (wx X) We σ g H))
    (n : ∀ ds S1 vs g1 H1, HRel (wx X) g1 H1 S1 → Ext g H g1 H1 → SRel (wx X) g1 H1 σ env → Reps (wx X) g1 H1 ds vs → Wpo (k ds S1) ok (EEx (wx X) We σ g1 H1) → R vs H1) : tXs X We cl P es σ H R :=
  ⟨g, env, S, hr, hs, h.bind.mono (fun r S1 q v g1 H1 hr1 x1 rv => n r S1 v g1 H1 hr1 x1 (hs.ext x1) rv (q.mono (fun _ _ z => z) fun _ _ z => z.step x1)) fun _ _ z => z⟩
/-- an answer behind some steps -/
theorem finE {Q : VK} {g1 : Gh} {H1 : Hp} {S1 : Store} {r : Rv} (x1 : Ext g H g1 H1) (f : ∀ v g' H', HRel (wx X) g' H' S1 → Ext g H g' H' → RvIs (wx X) H g' H' r v → Q v H') : Fin (wx X) g1 H1 S1 r Q := fun v g' H' hr' x' rv' => f v g' H' hr' (x1.trans x') (rv'.back x1.hs)
/-- a value that is held: a fresh list is frozen -/
theorem holdE {r : Rv} {v : V} {d : D} {H0 : Hp} {g0 : Gh} {g1 : Gh} {H1 : Hp} {S1 : Store} (hr : HRel (wx X) g1 H1 S1) (x : Ext g0 H0 g1 H1) (rv : RvIs (wx X) H0 g1 H1 r v) (h : r.hold = some d) : ∃ g2, HRel (wx X) g2 H1 S1 ∧ Ext g0 H0 g2 H1 ∧ Is (wx X) g2 d v := by
  unfold RvIs at rv
  unfold Rv.hold at h
  cases e : r.k with
  | bor => rw [e] at h; cases h
  | fr =>
    rw [e] at h rv
    cases h
    exact ⟨g1, hr, x, rv⟩
  | own =>
    rw [e] at h rv
    cases h
    obtain ⟨⟨q, nb⟩, fr⟩ := rv
    rcases q with ⟨l, ed, a, xs, rfl, ea, nf, il⟩ | ⟨ks, vs, ed, a, xs, rfl, ea, nf, nd, il, hz⟩
    · obtain ⟨h1, h2⟩ := hr.freeze x ea (fr a rfl) (nb a rfl)
      refine ⟨_, h1, h2, ?_⟩
      rw [ed]
      unfold Is
      refine ⟨a, xs, rfl, upd_same, il.mono (Gh.put_le nf)⟩
    · obtain ⟨h1, h2⟩ := hr.freeze x ea (fr a rfl) (nb a rfl)
      refine ⟨_, h1, h2, ?_⟩
      rw [ed]
      unfold Is
      refine ⟨a, xs, rfl, upd_same, nd, il.mono (Gh.put_le nf), hz⟩
end
/-! ### names, constants -/
theorem bi_boot (b : Bi) : bootBuiltins b.nm = some b.val := by cases b <;> decide +kernel
theorem bi_free (b : Bi) : b.nm ∈ Gz.free := by cases b <;> decide +kernel
theorem bi_nm (b : Bi) : b.nm ≠ ("__name__" : Str) ∧ (b.nm == ("__debug__" : Str)) = false := by cases b <;> exact ⟨by decide +kernel, by decide +kernel⟩
theorem visB_ok {sc : Scope} {x : Str} (h : visB sc x = true) : Vis sc x := by
  unfold visB at h
  split at h
  · exact .inl (by assumption)
  · exact .inr (.inl (by assumption))
  · exact .inr (.inr (by assumption))
  · cases h
theorem locB_ok {sc : Scope} {x : Str} (h : locB sc x = true) : Loc sc x := by
  unfold locB at h
  split at h
  · exact .inl (by assumption)
  · exact .inr (by assumption)
  · cases h
theorem localB_ok {sc : Scope} {x : Str} (h : localB sc x = true) : sc.names.lookup x = some .local := by
  unfold localB at h
  split at h
  · assumption
  · cases h
theorem glB_ok {X : Cx} {x : Str} (h : glB X.env.scope x = true) : Gl X x := by
  unfold glB at h
  split at h
  · assumption
  · cases h
theorem nameB_ok {x : Str} (h : nameB x = true) : (x == ("__debug__" : Str)) = false ∧ (x == ("__classdict__" : Str)) = false ∧ x ≠ ("__name__" : Str) := by
  unfold nameB at h
  simp only [Bool.and_eq_true, Bool.not_eq_true'] at h
  exact ⟨h.1.1, h.1.2, beq_eq_false_iff_ne.mp h.2⟩
/-- the slot's answer -/
theorem SRel.var {W : Wx} {g : Gh} {H H0 : Hp} {σ : L2.St} {env : Env} (s : SRel W g H σ env) (i : Nat) (r : Rv) (h : slotRv env[i]? = some r) : ∃ v, σ[i]? = some (some v) ∧ RvIs W H0 g H r v := by
  cases e : env[i]? with
  | none => rw [e] at h; cases h
  | some c =>
    obtain ⟨o, e1, hc, nb⟩ := s.at_ i c e
    rw [e] at h
    cases c with
    | un => cases h
    | fr d =>
      cases h
      obtain ⟨v, rfl, hv⟩ := hc
      exact ⟨v, e1, hv⟩
    | own l =>
      cases h
      obtain ⟨v, rfl, hv⟩ := hc
      exact ⟨v, e1, .inl ⟨l, rfl, hv⟩, fun a ea => nb rfl a (by rw [ea])⟩
    | owd ks vs =>
      cases h
      obtain ⟨v, rfl, hv⟩ := hc
      exact ⟨v, e1, .inr ⟨ks, vs, rfl, hv⟩, fun a ea => nb rfl a (by rw [ea])⟩
end Gz
end -- GzG
section -- GzHe
/-! GzHe: enumerate of a tuple. -/
namespace PySem
open Sem (wp)
open AutoSeq1 (wpAny_loadPart')
theorem enum_newT (l : Addr) (items : Array Value) (n : Nat) (dct : Option Addr) (sl : Array (Option Value)) :
    Meets (Builtin.«enumerate.__new__» ⟨[.type "enumerate", .ref l], []⟩) (fun _ R s => s.heap.get? l = some { cls := .type "tuple", dict := dct, data := .seq items n, slots := sl } ∧
      R (.ok (.ret (.ref (s.heap.push { cls := .type "tuple_iterator", data := .fields #[.ref l, .int 0 0] }).objs.size)))
        { s with heap := (s.heap.push { cls := .type "tuple_iterator", data := .fields #[.ref l, .int 0 0] }).push { cls := .type "enumerate", data := .fields #[.none, .bool false, .ref s.heap.objs.size, rawInt 0, .none, .none] } }) :=
  .of_wp fun prog w A R s h => by
    obtain ⟨hp, g, d, tk, os⟩ := s; obtain ⟨hl, h⟩ := h
    have hsub := sub_enumerate
    have hL : Heap.IsTuple (Shared.heap ⟨hp, g, d, tk, os⟩) l items := ⟨_, hl, rfl, n, rfl⟩
    wp_walk using wpAny_loadPart' hl
    refine wpAny_stack_any fun st => wpAny_pure ?_
    split
    · rename_i c _ _ _ _ _
      cases (c == Value.type "enumerate")
      · wp_walk using wpAny_loadPart' hl, wpAny_pyIter_tuple hL
        exact ⟨_, rfl, h⟩
      · wp_walk using wpAny_loadPart' hl, wpAny_pyIter_tuple hL
        exact ⟨_, rfl, h⟩
    · wp_walk using wpAny_loadPart' hl, wpAny_pyIter_tuple hL
      exact ⟨_, rfl, h⟩
section
variable {prog : Program} {w : World} {A : Around} {E : Value → Shared → Prop} {s : Shared}
theorem call_enumT {l : Addr} {items : Array Value} {Q : Value → Shared → Prop} (hL : s.heap.IsTuple l items)
    (h : ∀ h', IsEnum h' (s.heap.objs.size + 1) s.heap.objs.size 0 .none → h'.IsTupleIter s.heap.objs.size l 0 → h'.objs.size = s.heap.objs.size + 2 →
      (∀ b o, s.heap.get? b = some o → h'.get? b = some o) → Q (.ref (s.heap.objs.size + 1)) { s with heap := h' }) :
    wpAny (model prog w) A (call (.type "enumerate") [.ref l]) Q E s := by
  obtain ⟨⟨c, dct, dt, sl⟩, hl, hc, n, hd⟩ := hL
  replace hc : c = .type "tuple" := hc
  replace hd : dt = .seq items n := hd
  subst hc hd
  refine callType_new F.called_enumerate (by decide) (F.typeCall_enumerate_1 _) (F.newCall_enumerate_1 _) (fun obj => F.args_object_init_2 obj _) F.entry_enumerate_new
    (enum_newT l items n dct sl) ⟨hl, ?_⟩
  have hz : (s.heap.push { cls := .type "tuple_iterator", data := .fields #[.ref l, .int 0 0] }).objs.size = s.heap.objs.size + 1 := Heap.size_push ..
  show _ ∧ _
  rw [hz]
  have he : IsEnum ((s.heap.push { cls := .type "tuple_iterator", data := .fields #[.ref l, .int 0 0] }).push
      { cls := .type "enumerate", data := .fields #[.none, .bool false, .ref s.heap.objs.size, rawInt 0, .none, .none] }) (s.heap.objs.size + 1) s.heap.objs.size 0 .none := by
    have := Heap.get?_push_size (s.heap.push { cls := .type "tuple_iterator", data := .fields #[.ref l, .int 0 0] })
      (o := { cls := .type "enumerate", data := .fields #[.none, .bool false, .ref s.heap.objs.size, rawInt 0, .none, .none] }) rfl
    rw [hz] at this; exact this
  refine ⟨⟨_, he, rfl⟩, h _ he ⟨_, Heap.get?_push_of_some _ (Heap.get?_push_size _ rfl), rfl, rfl⟩ (by rw [Heap.size_push, hz]) fun b o x => Heap.get?_push_of_some _ (Heap.get?_push_of_some _ x)⟩
theorem enumT_end {e it l : Addr} {i : Nat} {items : Array Value} {old : Value} {Q : Option Value → Shared → Prop} (hh : A.handled = none)
    (he : IsEnum s.heap e it i old) (hit : s.heap.IsTupleIter it l i) (hl : s.heap.IsTuple l items) (hx : items[i]? = none)
    (hQ : ∀ h', Heap.ExtBut it s.heap h' → Q none { s with heap := h' }) : wpAny (model prog w) A (pyNext (.ref e)) Q E s := by
  have hT : s.TypeIs (.ref e) "enumerate" := ⟨_, he, rfl⟩
  unfold pyNext
  refine wpAny_bind (wpAny_attempt (wpAny_callSpecial?_slot (name := Str.ofString "__next__") hT F.slot_enumerate_next
    (wpAny_call_entry F.slot_enumerate_next hT F.entry_enumerate_next ?_ (F.args_enumerate_next_1 _))))
  show wpAny _ _ (field (.ref e) 2 >>= _) _ _ _
  refine wpAny_bind (wpAny_field he rfl (x := .ref it) rfl ?_)
  refine wpAny_bind (wpAny_nextOf_tuple_end hh hit hl hx fun h' x he' hx' => ?_)
  obtain ⟨o, ho, hc⟩ := hx'
  refine wpAny_bind (wpAny_isInstance (T := "StopIteration") (b := true) ⟨o, ho, hc⟩ isSubtype_stop ?_)
  exact wpAny_pure (hQ _ he')
end
end PySem
namespace L2
open PySem PySem.Spec PyProof.Rows
/-- the tuple at a, each item in a new pair -/
def IteT (K : PySem.W.Frag) (a : Addr) : It :=
  ⟨fun i H => ∃ (xs : List V) (x : V), SqT K H a xs ∧ xs[i]? = some x, fun i H v H' => ∃ T x, v = .ref T ∧ H T = none ∧ H' = upd H T (.tup [.int (i : Nat), x]) ∧ ∀ xs, SqT K H a xs → xs[i]? = some x, fun i H => ∃ xs : List V, SqT K H a xs ∧ xs.length ≤ i⟩
theorem turn_enumT {P : Program} {w : World} {K : PySem.W.Frag} {elts : List Expr} {kk : Nat} {tpos : Pos} (a e it : Addr) :
    Turn P w K (.Tuple elts kk tpos) (IteT K a) [e, it] e (fun i h => (∃ old, IsEnum h e it ((i : Nat) : Int) old) ∧ h.IsTupleIter it a i ∧ e ≠ it ∧ e ≠ a ∧ it ≠ a) where
  mem := by simp
  obj := fun i h st b hb => by
    obtain ⟨⟨old, he⟩, ⟨o, ho, hc, hd⟩, _⟩ := st
    have e' : b = e ∨ b = it := by simpa using hb
    rcases e' with z | z
    · rw [z]; exact ⟨_, he, fun v q => nomatch q⟩
    · rw [z]; exact ⟨o, ho, fun v q => by rw [hd] at q; cases q⟩
  keep := fun i h h' st k => let ⟨⟨old, he⟩, hi, hne⟩ := st; ⟨⟨old, k e (by simp) _ he⟩, hi.at fun o q => k it (by simp) o q, hne⟩
  item := by
    intro X hP hw hK hc i pins s σ H E I hf st hg
    subst hP hw hK
    obtain ⟨⟨old, he⟩, hit, hne, hea, hia⟩ := st
    obtain ⟨xs, x, hq, hx⟩ := hg
    obtain ⟨its, rv, p, hz⟩ := I.tuple hq
    obtain ⟨u, hu, ru⟩ := rv.get hx
    have hel : e < s.heap.objs.size := Heap.lt_size he
    have hil : it < s.heap.objs.size := by obtain ⟨_, q, _⟩ := hit; exact Heap.lt_size q
    have hlt : i < its.toArray.size := by
      obtain ⟨h, _⟩ := List.getElem?_eq_some_iff.mp hu
      simpa using h
    refine wpAny_pyNext_enum_itemD (Draws.tuple (prog := X.prog) (w := X.w) (A := X.A.in1) (I.ok.hd hc) it a (Ne.symm hia) its.toArray) he ⟨hit, p⟩ hlt hne (by simp [hne, hea]) fun x' h' tk hx' ho st' hT hsz hk => ?_
    have ex : x' = u := by
      rw [List.getElem?_toArray] at hx'
      rw [hu] at hx'
      exact (Option.some.inj hx').symm
    subst ex
    obtain ⟨hit', _⟩ := st'
    refine ⟨_, rfl, wpAny_letOwnedTupleGo_enum (s := { s with heap := h', toks := tk + 1 }) ho fun h'' he' sb => ?_⟩
    have hT2 : h''.get? s.heap.objs.size = some { cls := .type "tuple", data := .seq #[.int i tk, x'] } := (sb.2 _ (Nat.ne_of_gt hel)).trans hT
    have new : ObjOk X.prog X.w (upd H s.heap.objs.size (.tup [.int (i : Nat), x])) h'' s.heap.objs.size (.tup [.int (i : Nat), x]) :=
      ⟨by show 2 ≤ sizeLine; decide, [.int i tk, x'], .cons ⟨_, rfl⟩ (.cons ru .nil), ⟨_, hT2, rfl, _, rfl⟩⟩
    have I1 : Inv X pins σ (upd H s.heap.objs.size (.tup [.int (i : Nat), x])) { s with heap := h'', toks := tk + 1 } :=
      I.turnedNew (ch := [e, it]) (fun b ob hb q => (sb.2 b (fun z => hb (by simp [z]))).trans (hk b ob (fun z => hb (by simp [z])) (fun z => hb (by simp [z])) q)) hf (Nat.le_refl _) new
    refine ⟨.ref s.heap.objs.size, _, I1, rfl, ⟨_, x, rfl, I.hok.fresh (Nat.le_refl _), rfl, fun ys hy => by rw [I.tuple_inj hy hq]; exact hx⟩, ⟨⟨x', ?_⟩, hit'.at fun o q => (sb.2 it (Ne.symm hne)).trans q, hne, hea, hia⟩, fun b hb => ?_⟩
    · have e1 : ((i + 1 : Nat) : Int) = (i : Int) + 1 := by omega
      rw [e1]; exact he'
    · have hb' : b < s.heap.objs.size := by
        have e' : b = e ∨ b = it := by simpa using hb
        rcases e' with z | z
        · rw [z]; exact hel
        · rw [z]; exact hil
      rw [upd_ne (Nat.ne_of_lt hb')]
      exact (hf b hb).1
  done := by
    intro X hP hw hK hc i pins s σ H E I hf st hg
    subst hP hw hK
    obtain ⟨⟨old, he⟩, hit, hne, hea, hia⟩ := st
    obtain ⟨xs, hq, hx⟩ := hg
    obtain ⟨its, rv, p, hz⟩ := I.tuple hq
    obtain ⟨f0, f1, f2, f3, f4, f5⟩ := hf it (by simp)
    have hl := rv.length
    exact enumT_end (I.ok.hd hc) he hit p (by simp; omega) fun h' eb => ⟨rfl, I.turned (t' := s.toks) (fun b o hb q => eb b o hb q) f0 f1 f3 f4 f5⟩
  self := fun A i s Q E st h => let ⟨⟨_, he⟩, _⟩ := st; wpAny_pyIter_enum he h
def iEnumT (K : PySem.W.Frag) (ta : TA) : TI := fun σ H R => ta σ H fun vs H1 => ∃ a xs, vs = [.ref a] ∧ ((SqL K H1 a xs ∧ R (Ite K a) H1) ∨ (SqT K H1 a xs ∧ R (IteT K a) H1))
theorem pi_enumT {X : Cx} {e : Expr} {ta : TA} {p pos tpos : Pos} {elts : List Expr} {kk : Nat} (hg : Gl X "enumerate") (hm : X.mg "enumerate" = none) (ha : PA X [e] ta) (hs : starEach [e] X.env = [(false, eval e X.env)] := by rfl) :
    PI X (.Tuple elts kk tpos) (.Call (.Name "enumerate" p) [e] [] pos) (iEnumT X.K ta) := by
  refine ⟨fun pins s σ H R I h => ?_⟩
  refine Call_ (ld_blt I hg hm boot_enumerate (PyProof.Rows.callWith_type1 (thn (ha.run pos pins s σ H _ I h) fun us s1 ⟨vs, H1, I1, r1, q1⟩ => ?_) hs rfl))
  obtain ⟨a, xs, ex, hq⟩ := q1
  subst ex
  cases r1 with
  | cons r rr =>
    cases rr
    cases r
    have fp : ∀ b ∈ [s1.heap.objs.size + 1, s1.heap.objs.size], s1.heap.objs.size ≤ b := fun b hb => by
      have e' : b = s1.heap.objs.size + 1 ∨ b = s1.heap.objs.size := by simpa using hb
      rcases e' with z | z
      · rw [z]; exact Nat.le_add_right _ _
      · rw [z]; exact Nat.le_refl _
    rcases hq with ⟨hq, q⟩ | ⟨hq, q⟩
    · obtain ⟨its, rv, p', hz⟩ := I1.list hq
      refine call_enumerate_list p'.isList fun h' he hit hsz hk => wpAny_pyIter_enum he ?_
      have I2 : Inv X pins σ H1 { s1 with heap := h' } := I1.kept (t' := s1.toks) hk
      exact ⟨s1.heap.objs.size + 1, [s1.heap.objs.size + 1, s1.heap.objs.size], _, _, H1, rfl, I2, turn_enum a (s1.heap.objs.size + 1) s1.heap.objs.size, ⟨⟨.none, he⟩, hit, Nat.succ_ne_self _⟩, fun b hb => I1.fpOk (fp b hb) (I1.hok.fresh (fp b hb)), q⟩
    · obtain ⟨its, rv, p', hz⟩ := I1.tuple hq
      have hal : a < s1.heap.objs.size := by obtain ⟨_, e1, _⟩ := p'; exact Heap.lt_size e1
      refine call_enumT p' fun h' he hit hsz hk => wpAny_pyIter_enum he ?_
      have I2 : Inv X pins σ H1 { s1 with heap := h' } := I1.kept (t' := s1.toks) hk
      exact ⟨s1.heap.objs.size + 1, [s1.heap.objs.size + 1, s1.heap.objs.size], _, _, H1, rfl, I2, turn_enumT a (s1.heap.objs.size + 1) s1.heap.objs.size, ⟨⟨.none, he⟩, hit, Nat.succ_ne_self _, Nat.ne_of_gt (Nat.lt_succ_of_lt hal), Nat.ne_of_gt hal⟩, fun b hb => I1.fpOk (fp b hb) (I1.hok.fresh (fp b hb)), q⟩
theorem walk_enumT {K : PySem.W.Frag} {a : Addr} {xs : List V} : Walk (IteT K a) xs.length (fun H => SqT K H a xs) (YPair (fun i => some (.int (i : Nat))) (fun i => xs[i]?)) := by
  refine ⟨fun i _ hi q => ⟨xs, xs[i], q, by simp [hi]⟩, fun _ q => ⟨xs, q, Nat.le_refl _⟩, fun i H v H' _ q y => ?_⟩
  obtain ⟨T, x, h1, h2, h3, h4⟩ := y
  exact ⟨T, .int (i : Nat), x, h1, h2, h3, rfl, h4 xs q⟩
end L2
end -- GzHe
section -- GzH
/-! GzH: what is walked; targets; comprehensions. -/
namespace Gz
open PySem PySem.Spec PyProof.Rows L2 RZ
/-- a later state: with fz all that is frozen stands; without, all that the frame has stands -/
def Lt (fz : Bool) (g : Gh) (H : Hp) (g2 : Gh) (H2 : Hp) : Prop := GLe g g2 ∧ (fz = false → Ext g H g2 H2)
/-- how the items ds come: at any state behind (g, H) -/
structure Yld (fz : Bool) (W : Wx) (g : Gh) (H : Hp) (J : It) (ds : List D) : Prop where
  ex : ∃ (G : Hp → Prop) (Y : Nat → Hp → V → Hp → Prop), Walk J ds.length G Y ∧ (∀ g2 H2 S2, HRel W g2 H2 S2 → Lt fz g H g2 H2 → G H2) ∧
    ∀ i H2 x H3 g2 S2, HRel W g2 H2 S2 → Lt fz g H g2 H2 → i < ds.length → Y i H2 x H3 → ∃ g3 d, HRel W g3 H3 S2 ∧ Ext g2 H2 g3 H3 ∧ ds[i]? = some d ∧ Is W g3 d x
theorem yld_plain {fz : Bool} {W : Wx} {g : Gh} {H : Hp} {J : It} {ds : List D} {G : Hp → Prop} {Y : Nat → Hp → V → Hp → Prop} (w : Walk J ds.length G Y) (hG : ∀ g2 H2 S2, HRel W g2 H2 S2 → Lt fz g H g2 H2 → G H2)
    (h : ∀ i H2 x H3, i < ds.length → Y i H2 x H3 → H3 = H2 ∧ ∃ d, ds[i]? = some d ∧ Is W g d x) : Yld fz W g H J ds :=
  ⟨G, Y, w, hG, fun i H2 x H3 g2 S2 hr x2 hi y => by
    obtain ⟨rfl, d, e1, h1⟩ := h i H2 x H3 hi y
    exact ⟨g2, d, hr, Ext.refl _ _, e1, h1.mono x2.1⟩⟩
theorem Is.two {W : Wx} {g : Gh} {d e : D} {x y : V} {T : Addr} (h : g.F T = some (.tup [x, y])) (h1 : Is W g d x) (h2 : Is W g e y) : Is W g (.tup [d, e]) (.ref T) := by
  unfold Is
  exact ⟨T, [x, y], rfl, SqT.of h, .cons h1 (.cons h2 .nil)⟩
theorem yld_pair {fz : Bool} {W : Wx} {g : Gh} {H : Hp} {J : It} {ds : List D} {G : Hp → Prop} {xs ys : Nat → Option V} (w : Walk J ds.length G (YPair xs ys)) (hG : ∀ g2 H2 S2, HRel W g2 H2 S2 → Lt fz g H g2 H2 → G H2)
    (h : ∀ i x y, i < ds.length → xs i = some x → ys i = some y → ∃ d e, ds[i]? = some (.tup [d, e]) ∧ Is W g d x ∧ Is W g e y) : Yld fz W g H J ds :=
  ⟨G, _, w, hG, fun i H2 v H3 g2 S2 hr x2 hi y => by
    obtain ⟨T, x, z, rfl, nT, rfl, e1, e2⟩ := y
    obtain ⟨d, e, e3, h1, h2⟩ := h i x z hi e1 e2
    obtain ⟨hr3, x3⟩ := hr.put (o := .tup [x, z]) nT
    exact ⟨_, _, hr3, x3, e3, Is.two (show upd g2.F T _ T = _ from upd_same) ((h1.mono x2.1).mono x3.le) ((h2.mono x2.1).mono x3.le)⟩⟩
/-- a value that is looked at, or held -/
def RepZ (fz : Bool) (W : Wx) (g : Gh) (H : Hp) (d : D) (v : V) : Prop := if fz = true then Is W g d v else Rep W g H d v
theorem RepZ.rep {fz : Bool} {W : Wx} {g : Gh} {H : Hp} {d : D} {v : V} (h : RepZ fz W g H d v) : Rep W g H d v := by
  unfold RepZ at h
  split at h
  · exact .inl h
  · exact h
theorem RepZ.is {W : Wx} {g : Gh} {H : Hp} {d : D} {v : V} (h : RepZ true W g H d v) : Is W g d v := h
def RepsZ (fz : Bool) (W : Wx) (g : Gh) (H : Hp) (ds : List D) (vs : List V) : Prop := if fz = true then IsL W g ds vs else Reps W g H ds vs
theorem RepsZ.nil {fz : Bool} {W : Wx} {g : Gh} {H : Hp} {vs : List V} (h : RepsZ fz W g H [] vs) : vs = [] := by
  unfold RepsZ at h
  split at h
  · unfold IsL at h; exact h
  · unfold Reps at h; exact h
theorem RepsZ.cons {fz : Bool} {W : Wx} {g : Gh} {H : Hp} {d : D} {ds : List D} {vs : List V} (h : RepsZ fz W g H (d :: ds) vs) : ∃ v r, vs = v :: r ∧ RepZ fz W g H d v ∧ RepsZ fz W g H ds r := by
  cases fz with
  | true =>
    have h' : IsL W g (d :: ds) vs := h
    unfold IsL at h'
    exact h'
  | false =>
    have h' : Reps W g H (d :: ds) vs := h
    unfold Reps at h'
    exact h'
theorem RepsZ.one {fz : Bool} {W : Wx} {g : Gh} {H : Hp} {d : D} {vs : List V} (h : RepsZ fz W g H [d] vs) : ∃ v, vs = [v] ∧ RepZ fz W g H d v := by
  obtain ⟨v, r, rfl, h1, h2⟩ := h.cons
  have := h2.nil
  subst this
  exact ⟨v, rfl, h1⟩
theorem RepsZ.two {fz : Bool} {W : Wx} {g : Gh} {H : Hp} {d e : D} {vs : List V} (h : RepsZ fz W g H [d, e] vs) : ∃ v u, vs = [v, u] ∧ RepZ fz W g H d v ∧ RepZ fz W g H e u := by
  obtain ⟨v, r, rfl, h1, h2⟩ := h.cons
  obtain ⟨u, rfl, h3⟩ := h2.one
  exact ⟨v, u, rfl, h1, h3⟩
theorem walk_zipT {K : PySem.W.Frag} {a b : Addr} {xs ys : List V} {n : Nat} (hn : n = min xs.length ys.length) : Walk (ItzT K a b) n (fun H => SqT K H a xs ∧ SqT K H b ys) (YPair (fun i => xs[i]?) (fun i => ys[i]?)) := by
  subst hn
  refine ⟨fun i _ hi q => ?_, fun _ q => ⟨xs, ys, q.1, q.2, by omega⟩, fun i H v H' _ q y => ?_⟩
  · have h1 : i < xs.length := by omega
    have h2 : i < ys.length := by omega
    exact ⟨xs, ys, xs[i], ys[i], q.1, q.2, by simp [h1], by simp [h2]⟩
  · obtain ⟨T, x, z, h1, h2, h3, h4, h5⟩ := y
    exact ⟨T, x, z, h1, h2, h3, h4 xs q.1, h5 ys q.2⟩
theorem zip_items {W : Wx} {g : Gh} {a b : List D} {xs ys : List V} (ha : IsL W g a xs) (hb : IsL W g b ys) (i : Nat) (x y : V) (hx : xs[i]? = some x) (hy : ys[i]? = some y) :
    ∃ d e, ((a.zip b).map fun p => D.tup [p.1, p.2])[i]? = some (.tup [d, e]) ∧ Is W g d x ∧ Is W g e y := by
  have la := ha.length
  have lb := hb.length
  obtain ⟨hi, _⟩ := List.getElem?_eq_some_iff.mp hx
  obtain ⟨hj, _⟩ := List.getElem?_eq_some_iff.mp hy
  have h1 : i < a.length := by omega
  have h2 : i < b.length := by omega
  obtain ⟨x', e1, q1⟩ := ha.get (i := i) (List.getElem?_eq_getElem h1)
  obtain ⟨y', e2, q2⟩ := hb.get (i := i) (List.getElem?_eq_getElem h2)
  rw [hx] at e1; cases e1
  rw [hy] at e2; cases e2
  refine ⟨a[i], b[i], ?_, q1, q2⟩
  rw [List.getElem?_map, List.getElem?_zip_eq_some (z := (a[i], b[i])) |>.mpr ⟨List.getElem?_eq_getElem h1, List.getElem?_eq_getElem h2⟩]
  rfl
section
variable (X : Cx) (We : WX) (cl : Calls) (P : Prog)
def evA (fz : Bool) (es : Es) (env : Env) (S : Store) : Out (List D) := if fz = true then evEs cl P es env S else evXs cl P es env S
def tI (fz : Bool) (k : Ik) (es : Es) : TI := fun σ H R => ∃ g env S, HRel (wx X) g H S ∧ SRel (wx X) g H σ env ∧
  Wpo ((evA cl P fz es env S).bind fun xs S => ofOpt (itEv k xs) S) (fun ds S' => ∀ J g' H', HRel (wx X) g' H' S' → Ext g H g' H' → Yld fz (wx X) g' H' J ds → R J H') (EEx (wx X) We σ g H)
def tAz (fz : Bool) (es : Es) : TA := if fz = true then tEs X We cl P es else tXs X We cl P es
end
theorem PI.or {X : Cx} {tg e : Expr} {t t' : TI} (h : PI X tg e t) (h' : PI X tg e t') : PI X tg e (fun σ H R => t σ H R ∨ t' σ H R) :=
  ⟨fun pins s σ H R I q => q.elim (h.run pins s σ H R I) (h'.run pins s σ H R I)⟩
section
variable {X : Cx} {We : WX} {cl : Calls} {P : Prog} {fz : Bool}
theorem useZ {σ : L2.St} {g : Gh} {H : Hp} {env : Env} {S : Store} {β : Type} {es : Es} {k : List D → Store → Out β} {ok : β → Store → Prop} {R : List V → Hp → Prop} (hr : HRel (wx X) g H S) (hs : SRel (wx X) g H σ env) (h : Wpo ((evA cl P fz es env S).bind k) ok (EEx (wx X) We σ g H))
    (n : ∀ ds S1 vs g1 H1, HRel (wx X) g1 H1 S1 → Ext g H g1 H1 → SRel (wx X) g1 H1 σ env → RepsZ fz (wx X) g1 H1 ds vs → Wpo (k ds S1) ok (EEx (wx X) We σ g1 H1) → R vs H1) : tAz X We cl P fz es σ H R := by
  cases fz with
  | true => exact useEs hr hs h n
  | false => exact useXs hr hs h n
theorem range_yld {W : Wx} {g : Gh} {H : Hp} {lo : Int} {n : Nat} {ds : List D} (e : ds = (List.range n).map fun (i : Nat) => D.int (lo + (i : Int))) : Yld fz W g H (Itr lo n) ds := by
  have hl : ds.length = n := by rw [e]; simp
  refine yld_plain (by rw [hl]; exact walk_range) (fun _ _ _ _ _ => trivial) fun i H2 x H3 hi y => ?_
  obtain ⟨e1, rfl⟩ := y
  refine ⟨e1, .int (lo + (i : Int)), ?_, by unfold Is; rfl⟩
  rw [e, List.getElem?_map, List.getElem?_range (by omega)]
  rfl
/-- a list that is looked at stands as it is -/
theorem RepZ.sql {K : PySem.W.Frag} {mg : Str → Option Value} {mex : Option (Addr × Addr)} {g : Gh} {H : Hp} {S : Store} {l : List D} {a : Addr} {xs : List V} (hr : HRel ⟨K, mg, mex⟩ g H S) (h : RepZ fz ⟨K, mg, mex⟩ g H (.lst l) (.ref a)) (s1 : H a = some (.lst xs)) :
    ∀ g2 H2 S2, HRel ⟨K, mg, mex⟩ g2 H2 S2 → Lt fz g H g2 H2 → SqL K H2 a xs := fun g2 H2 S2 hr2 x2 => by
  have fr : ∀ (z : Is ⟨K, mg, mex⟩ g (.lst l) (.ref a)), SqL K H2 a xs := fun z => by
    unfold Is at z
    obtain ⟨a', ys, e, e2, _⟩ := z
    cases e
    have q := hr.fh _ _ e2
    rw [s1] at q; cases q
    exact SqL.of (hr2.fh _ _ (x2.1.F _ _ e2))
  cases fz with
  | true => exact fr h
  | false =>
    rcases (h : Rep _ _ _ _ _) with z | z
    · exact fr z
    · exact SqL.of ((x2.2 rfl).h a _ s1 (z.2 a rfl))
theorem seq_yldL {K : PySem.W.Frag} {mg : Str → Option Value} {mex : Option (Addr × Addr)} {g : Gh} {H : Hp} {S : Store} {l : List D} {x : V} (hr : HRel ⟨K, mg, mex⟩ g H S) (h : RepZ fz ⟨K, mg, mex⟩ g H (.lst l) x) : ∃ a xs, x = .ref a ∧ SqL K H a xs ∧ Yld fz ⟨K, mg, mex⟩ g H (Itl K a) l := by
  obtain ⟨a, xs, rfl, s1, i1⟩ := h.rep.lst hr
  refine ⟨a, xs, rfl, SqL.of s1, ?_⟩
  have hl := i1.length
  refine yld_plain (by rw [← hl]; exact walk_list (K := K) (a := a) (xs := xs)) (h.sql hr s1) fun i H2 v H3 hi y => ?_
  obtain ⟨e1, e2⟩ := y
  refine ⟨e1, l[i], List.getElem?_eq_getElem hi, ?_⟩
  obtain ⟨w, e3, h3⟩ := i1.get (i := i) (List.getElem?_eq_getElem hi)
  rw [e2] at e3; cases e3
  exact h3
theorem Rep.tupF {W : Wx} {g : Gh} {H : Hp} {v : V} {l : List D} (h : Rep W g H (.tup l) v) : ∃ a xs, v = .ref a ∧ SqT W.K g.F a xs ∧ IsL W g l xs := by
  rcases h with h | ⟨⟨l, e, _⟩ | ⟨ks, vs, e, _⟩, _⟩
  · unfold Is at h; exact h
  · cases e
  · cases e
theorem Rep.scrF {W : Wx} {g : Gh} {H : Hp} {v : V} {l : List Int} (h : Rep W g H (.scr l) v) : ∃ a, v = .ref a ∧ SqL W.K g.F a (l.map V.int) := by
  rcases h with h | ⟨⟨l, e, _⟩ | ⟨ks, vs, e, _⟩, _⟩
  · unfold Is at h; exact h
  · cases e
  · cases e
theorem SqT.later {K : PySem.W.Frag} {mg : Str → Option Value} {mex : Option (Addr × Addr)} {g g2 : Gh} {H H2 : Hp} {S2 : Store} {a : Addr} {xs : List V} (hr2 : HRel ⟨K, mg, mex⟩ g2 H2 S2) (x2 : Lt fz g H g2 H2) (h : SqT K g.F a xs) : SqT K H2 a xs := SqT.mono hr2.fh (SqT.mono x2.1.F h)
theorem SqL.later {K : PySem.W.Frag} {mg : Str → Option Value} {mex : Option (Addr × Addr)} {g g2 : Gh} {H H2 : Hp} {S2 : Store} {a : Addr} {xs : List V} (hr2 : HRel ⟨K, mg, mex⟩ g2 H2 S2) (x2 : Lt fz g H g2 H2) (h : SqL K g.F a xs) : SqL K H2 a xs := Same.seq hr2.fh (Same.seq x2.1.F h)
theorem seq_yldT {K : PySem.W.Frag} {mg : Str → Option Value} {mex : Option (Addr × Addr)} {g : Gh} {H : Hp} {S : Store} {l : List D} {x : V} (hr : HRel ⟨K, mg, mex⟩ g H S) (h : RepZ fz ⟨K, mg, mex⟩ g H (.tup l) x) : ∃ a xs, x = .ref a ∧ SqT K H a xs ∧ Yld fz ⟨K, mg, mex⟩ g H (Itt K a) l := by
  obtain ⟨a, xs, rfl, s1, i1⟩ := h.rep.tupF
  refine ⟨a, xs, rfl, SqT.mono hr.fh s1, ?_⟩
  have hl := i1.length
  refine yld_plain (by rw [← hl]; exact walk_tup (K := K) (a := a) (xs := xs)) (fun g2 H2 S2 hr2 x2 => SqT.later hr2 x2 s1) fun i H2 v H3 hi y => ?_
  obtain ⟨e1, e2⟩ := y
  refine ⟨e1, l[i], List.getElem?_eq_getElem hi, ?_⟩
  obtain ⟨w, e3, h3⟩ := i1.get (i := i) (List.getElem?_eq_getElem hi)
  rw [e2] at e3; cases e3
  exact h3
theorem scr_yld {K : PySem.W.Frag} {mg : Str → Option Value} {mex : Option (Addr × Addr)} {g : Gh} {H : Hp} {S : Store} {l : List Int} {x : V} (hr : HRel ⟨K, mg, mex⟩ g H S) (h : RepZ fz ⟨K, mg, mex⟩ g H (.scr l) x) : ∃ a xs, x = .ref a ∧ SqL K H a xs ∧ Yld fz ⟨K, mg, mex⟩ g H (Itl K a) (l.map D.int) := by
  obtain ⟨a, rfl, s1⟩ := h.rep.scrF
  refine ⟨a, _, rfl, Same.seq hr.fh s1, ?_⟩
  refine yld_plain (by rw [List.length_map, ← List.length_map (f := V.int)]; exact walk_list (K := K) (a := a) (xs := l.map V.int)) (fun g2 H2 S2 hr2 x2 => SqL.later hr2 x2 s1) fun i H2 v H3 hi y => ?_
  obtain ⟨e1, e2⟩ := y
  have hi' : i < l.length := by simpa using hi
  refine ⟨e1, .int l[i], by rw [List.getElem?_map, List.getElem?_eq_getElem hi']; rfl, ?_⟩
  rw [List.getElem?_map, List.getElem?_eq_getElem hi'] at e2
  cases e2
  unfold Is
  rfl
theorem str_yld {W : Wx} {g : Gh} {H : Hp} {z : Str} : Yld fz W g H (Its z) (z.cps.toList.map fun c => D.str ⟨#[c]⟩) := by
  refine yld_plain (by rw [List.length_map, Array.length_toList]; exact walk_str) (fun _ _ _ _ _ => trivial) fun i H2 v H3 hi y => ?_
  obtain ⟨e1, c, e2, rfl⟩ := y
  refine ⟨e1, .str ⟨#[c]⟩, ?_, by unfold Is; rfl⟩
  rw [List.getElem?_map, Array.getElem?_toList, e2]
  rfl
theorem zip_yldT {K : PySem.W.Frag} {mg : Str → Option Value} {mex : Option (Addr × Addr)} {g : Gh} {H : Hp} {S : Store} {l m : List D} {x y : V} (hr : HRel ⟨K, mg, mex⟩ g H S) (h : RepZ fz ⟨K, mg, mex⟩ g H (.tup l) x) (h' : RepZ fz ⟨K, mg, mex⟩ g H (.tup m) y) :
    ∃ a b xs ys, x = .ref a ∧ y = .ref b ∧ SqT K H a xs ∧ SqT K H b ys ∧ Yld fz ⟨K, mg, mex⟩ g H (ItzT K a b) ((l.zip m).map fun p => D.tup [p.1, p.2]) := by
  obtain ⟨a, xs, rfl, s1, i1⟩ := h.rep.tupF
  obtain ⟨b, ys, rfl, s2, i2⟩ := h'.rep.tupF
  refine ⟨a, b, xs, ys, rfl, rfl, SqT.mono hr.fh s1, SqT.mono hr.fh s2, ?_⟩
  have l1 := i1.length
  have l2 := i2.length
  exact yld_pair (walk_zipT (by rw [List.length_map, List.length_zip, l1, l2])) (fun g2 H2 S2 hr2 x2 => ⟨SqT.later hr2 x2 s1, SqT.later hr2 x2 s2⟩) fun i u v hi e1 e2 => zip_items i1 i2 i u v e1 e2
theorem zip_yldL {K : PySem.W.Frag} {mg : Str → Option Value} {mex : Option (Addr × Addr)} {g : Gh} {H : Hp} {S : Store} {l m : List D} {x y : V} (hr : HRel ⟨K, mg, mex⟩ g H S) (h : RepZ fz ⟨K, mg, mex⟩ g H (.lst l) x) (h' : RepZ fz ⟨K, mg, mex⟩ g H (.lst m) y) :
    ∃ a b xs ys, x = .ref a ∧ y = .ref b ∧ SqL K H a xs ∧ SqL K H b ys ∧ Yld fz ⟨K, mg, mex⟩ g H (Itz K a b) ((l.zip m).map fun p => D.tup [p.1, p.2]) := by
  obtain ⟨a, xs, rfl, s1, i1⟩ := h.rep.lst hr
  obtain ⟨b, ys, rfl, s2, i2⟩ := h'.rep.lst hr
  refine ⟨a, b, xs, ys, rfl, rfl, SqL.of s1, SqL.of s2, ?_⟩
  have l1 := i1.length
  have l2 := i2.length
  exact yld_pair (walk_zip (by rw [List.length_map, List.length_zip, l1, l2])) (fun g2 H2 S2 hr2 x2 => ⟨h.sql hr s1 g2 H2 S2 hr2 x2, h'.sql hr s2 g2 H2 S2 hr2 x2⟩) fun i u v hi e1 e2 => zip_items i1 i2 i u v e1 e2
theorem enum_yldL {K : PySem.W.Frag} {mg : Str → Option Value} {mex : Option (Addr × Addr)} {g : Gh} {H : Hp} {S : Store} {l : List D} {x : V} (hr : HRel ⟨K, mg, mex⟩ g H S) (h : RepZ fz ⟨K, mg, mex⟩ g H (.lst l) x) :
    ∃ a xs, x = .ref a ∧ SqL K H a xs ∧ Yld fz ⟨K, mg, mex⟩ g H (Ite K a) (l.zipIdx.map fun p => D.tup [.int (p.2 : Nat), p.1]) := by
  obtain ⟨a, xs, rfl, s1, i1⟩ := h.rep.lst hr
  refine ⟨a, xs, rfl, SqL.of s1, ?_⟩
  have hl := i1.length
  have hz : (l.zipIdx.map fun p => D.tup [.int (p.2 : Nat), p.1]).length = xs.length := by simp [hl]
  refine yld_pair (by rw [hz]; exact walk_enum (K := K) (a := a) (xs := xs)) (h.sql hr s1) fun i u v hi e1 e2 => ?_
  rw [hz] at hi
  have hi' : i < l.length := by omega
  cases e1
  obtain ⟨w, e3, h3⟩ := i1.get (i := i) (List.getElem?_eq_getElem hi')
  rw [e2] at e3; cases e3
  refine ⟨.int (i : Nat), l[i], ?_, by unfold Is; rfl, h3⟩
  rw [List.getElem?_map, List.getElem?_zipIdx, List.getElem?_eq_getElem hi']
  simp
theorem enum_yldT {K : PySem.W.Frag} {mg : Str → Option Value} {mex : Option (Addr × Addr)} {g : Gh} {H : Hp} {S : Store} {l : List D} {x : V} (hr : HRel ⟨K, mg, mex⟩ g H S) (h : RepZ fz ⟨K, mg, mex⟩ g H (.tup l) x) :
    ∃ a xs, x = .ref a ∧ SqT K H a xs ∧ Yld fz ⟨K, mg, mex⟩ g H (IteT K a) (l.zipIdx.map fun p => D.tup [.int (p.2 : Nat), p.1]) := by
  obtain ⟨a, xs, rfl, s1, i1⟩ := h.rep.tupF
  refine ⟨a, xs, rfl, SqT.mono hr.fh s1, ?_⟩
  have hl := i1.length
  have hz : (l.zipIdx.map fun p => D.tup [.int (p.2 : Nat), p.1]).length = xs.length := by simp [hl]
  refine yld_pair (by rw [hz]; exact walk_enumT (K := K) (a := a) (xs := xs)) (fun g2 H2 S2 hr2 x2 => SqT.later hr2 x2 s1) fun i u v hi e1 e2 => ?_
  rw [hz] at hi
  have hi' : i < l.length := by omega
  cases e1
  obtain ⟨w, e3, h3⟩ := i1.get (i := i) (List.getElem?_eq_getElem hi')
  rw [e2] at e3; cases e3
  refine ⟨.int (i : Nat), l[i], ?_, by unfold Is; rfl, h3⟩
  rw [List.getElem?_map, List.getElem?_zipIdx, List.getElem?_eq_getElem hi']
  simp
/-- one expression, looked at or held -/
theorem evA_one {e : E} {env : Env} {S : Store} {β : Type} {k : List D → Store → Out β} {ok : β → Store → Prop} {ex : Str → Store → Prop} (h : Wpo ((evA cl P fz (.cons e .nil) env S).bind k) ok ex) :
    Wpo (evE cl P e env S) (fun r S1 => (fz = true → r.hold = some r.d) ∧ Wpo (k [r.d] S1) ok ex) ex := by
  cases fz with
  | false =>
    have h : Wpo ((evXs cl P (.cons e .nil) env S).bind k) ok ex := h
    have q1 := h.bind
    unfold evXs at q1
    have q2 := q1.bind
    refine q2.mono (fun r S1 q => ⟨fun z => (by cases z), ?_⟩) fun _ _ z => z
    simp only [Wpo, Out.bind, evXs] at q ⊢
    exact q
  | true =>
    have h : Wpo ((evEs cl P (.cons e .nil) env S).bind k) ok ex := h
    have q1 := h.bind
    unfold evEs at q1
    have q2 := q1.bind
    refine q2.mono (fun r S1 q => ?_) fun _ _ z => z
    have q3 := q.bind
    obtain ⟨d, e1, q4⟩ := q3.opt
    have e2 : d = r.d := by
      unfold Rv.hold at e1
      cases hk : r.k with
      | bor => rw [hk] at e1; cases e1
      | fr => rw [hk] at e1; cases e1; rfl
      | own => rw [hk] at e1; cases e1; rfl
    subst e2
    refine ⟨fun _ => e1, ?_⟩
    simp only [Wpo, Out.bind, evEs] at q4 ⊢
    exact q4
/-- .. then its value stands -/
theorem holdZ {r : Rv} {v : V} {H0 : Hp} {g0 : Gh} {g1 : Gh} {H1 : Hp} {S1 : Store} (hr : HRel (wx X) g1 H1 S1) (x : Ext g0 H0 g1 H1) (rv : RvIs (wx X) H0 g1 H1 r v) (h : fz = true → r.hold = some r.d) : ∃ g2, HRel (wx X) g2 H1 S1 ∧ Ext g0 H0 g2 H1 ∧ RepZ fz (wx X) g2 H1 r.d v := by
  cases fz with
  | true => exact holdE hr x rv (h rfl)
  | false => exact ⟨g1, hr, x, rv.rep⟩
/-- a sequence walked -/
theorem pi_seq {tg x : Expr} {e : E} (h : PE X x (tE X We cl P e)) : PI X tg x (tI X We cl P fz .seq (.cons e .nil)) := by
  refine PI.imp (PI.or (PI.or (pi_list h) (pi_tup h)) (pi_str h)) fun σ H R q => ?_
  obtain ⟨g, env, S, hr, hs, q⟩ := q
  have q2 := evA_one q
  cases e1 : evE cl P e env S with
  | no => rw [e1] at q2; exact q2.elim
  | exc y S1 => rw [e1] at q2; exact .inl (.inl ⟨g, env, S, hr, hs, by rw [e1]; exact q2⟩)
  | ok r S1 =>
    rw [e1] at q2
    obtain ⟨hh, q2⟩ := q2
    obtain ⟨ds, e2, q4⟩ := Wpo.opt (u := itEv .seq [r.d]) q2
    cases ed : r.d with
    | lst l =>
      rw [ed] at e2; cases e2
      refine .inl (.inl ⟨g, env, S, hr, hs, ?_⟩)
      rw [e1]
      intro v g1 H1 hr1 x1 rv
      obtain ⟨g2, hr2, x2, rp⟩ := holdZ hr1 x1 rv hh
      rw [ed] at rp
      obtain ⟨a, xs, rfl, sq, y⟩ := seq_yldL hr2 rp
      exact ⟨a, rfl, ⟨xs, sq⟩, q4 _ g2 H1 hr2 x2 y⟩
    | tup l =>
      rw [ed] at e2; cases e2
      refine .inl (.inr ⟨g, env, S, hr, hs, ?_⟩)
      rw [e1]
      intro v g1 H1 hr1 x1 rv
      obtain ⟨g2, hr2, x2, rp⟩ := holdZ hr1 x1 rv hh
      rw [ed] at rp
      obtain ⟨a, xs, rfl, sq, y⟩ := seq_yldT hr2 rp
      exact ⟨a, rfl, ⟨xs, sq⟩, q4 _ g2 H1 hr2 x2 y⟩
    | scr l =>
      rw [ed] at e2; cases e2
      refine .inl (.inl ⟨g, env, S, hr, hs, ?_⟩)
      rw [e1]
      intro v g1 H1 hr1 x1 rv
      obtain ⟨g2, hr2, x2, rp⟩ := holdZ hr1 x1 rv hh
      rw [ed] at rp
      obtain ⟨a, xs, rfl, sq, y⟩ := scr_yld hr2 rp
      exact ⟨a, rfl, ⟨xs, sq⟩, q4 _ g2 H1 hr2 x2 y⟩
    | str z =>
      rw [ed] at e2; cases e2
      refine .inr ⟨g, env, S, hr, hs, ?_⟩
      rw [e1]
      intro v g1 H1 hr1 x1 rv
      have rp := rv.rep
      rw [ed] at rp
      exact ⟨z, rp.str, q4 _ g1 H1 hr1 x1 str_yld⟩
    | _ => rw [ed] at e2; cases e2
def Es.len : Es → Nat
  | .nil => 0
  | .cons _ es => es.len + 1
theorem Out.bind_ok {α β : Type} {o : Out α} {f : α → Store → Out β} {b : β} {S : Store} (h : o.bind f = .ok b S) : ∃ a S1, o = .ok a S1 ∧ f a S1 = .ok b S := by
  cases o with
  | ok a S1 => exact ⟨a, S1, rfl, h⟩
  | exc x S1 => cases h
  | no => cases h
theorem evEs_len : ∀ (es : Es) (env : Env) (S : Store) (ds : List D) (S' : Store), evEs cl P es env S = .ok ds S' → ds.length = es.len
  | .nil, env, S, ds, S', h => by unfold evEs at h; cases h; rfl
  | .cons e es, env, S, ds, S', h => by
    unfold evEs at h
    obtain ⟨x, S1, h1, h⟩ := Out.bind_ok h
    obtain ⟨d, S2, h2, h⟩ := Out.bind_ok h
    obtain ⟨r, S3, h3, h⟩ := Out.bind_ok h
    cases h
    have := evEs_len es env _ _ _ h3
    simp [Es.len, this]
theorem evXs_len : ∀ (es : Es) (env : Env) (S : Store) (ds : List D) (S' : Store), evXs cl P es env S = .ok ds S' → ds.length = es.len
  | .nil, env, S, ds, S', h => by unfold evXs at h; cases h; rfl
  | .cons e es, env, S, ds, S', h => by
    unfold evXs at h
    obtain ⟨x, S1, h1, h⟩ := Out.bind_ok h
    obtain ⟨r, S3, h3, h⟩ := Out.bind_ok h
    cases h
    have := evXs_len es env _ _ _ h3
    simp [Es.len, this]
theorem evA_len {es : Es} {env : Env} {S : Store} {ds : List D} {S' : Store} (h : evA cl P fz es env S = .ok ds S') : ds.length = es.len := by
  cases fz with
  | true => exact evEs_len es env S ds S' h
  | false => exact evXs_len es env S ds S' h
/-- .. with the number of them -/
theorem useZn {σ : L2.St} {g : Gh} {H : Hp} {env : Env} {S : Store} {β : Type} {es : Es} {k : List D → Store → Out β} {ok : β → Store → Prop} {R : List V → Hp → Prop} (hr : HRel (wx X) g H S) (hs : SRel (wx X) g H σ env) (h : Wpo ((evA cl P fz es env S).bind k) ok (EEx (wx X) We σ g H))
    (n : ∀ ds S1 vs g1 H1, ds.length = es.len → HRel (wx X) g1 H1 S1 → Ext g H g1 H1 → SRel (wx X) g1 H1 σ env → RepsZ fz (wx X) g1 H1 ds vs → Wpo (k ds S1) ok (EEx (wx X) We σ g1 H1) → R vs H1) : tAz X We cl P fz es σ H R := by
  have h' : Wpo ((evA cl P fz es env S).bind fun ds S1 => if ds.length = es.len then k ds S1 else .no) ok (EEx (wx X) We σ g H) := by
    cases e : evA cl P fz es env S with
    | no => rw [e] at h; exact h
    | exc x S1 => rw [e] at h; exact h
    | ok ds S1 =>
      rw [e] at h
      show Wpo (if ds.length = es.len then k ds S1 else .no) ok _
      rw [if_pos (evA_len e)]
      exact h
  refine useZ hr hs h' fun ds S1 vs g1 H1 hr1 x1 hs1 rs q => ?_
  by_cases hl : ds.length = es.len
  · rw [if_pos hl] at q
    exact n ds S1 vs g1 H1 hl hr1 x1 hs1 rs q
  · rw [if_neg hl] at q
    exact q.elim
theorem itEv_rng1 {d : D} {ds : List D} (h : itEv .rng [d] = some ds) : ∃ n : Int, d = .int n ∧ n < 16777216 ∧ -16777216 < n ∧ ds = (List.range n.toNat).map fun (i : Nat) => D.int (0 + (i : Int)) := by
  cases d <;> first | (simp [itEv] at h; done) | skip
  rename_i n
  unfold itEv at h
  simp only at h
  split at h
  · rename_i q
    simp only [Bool.and_eq_true, decide_eq_true_eq] at q
    cases h
    refine ⟨n, rfl, q.1, q.2, ?_⟩
    congr 1
    funext i
    simp
  · cases h
theorem itEv_rng2 {d e : D} {ds : List D} (h : itEv .rng [d, e] = some ds) : ∃ a n : Int, d = .int a ∧ e = .int n ∧ n < 16777216 ∧ -16777216 < n ∧ a < 16777216 ∧ -16777216 < a ∧ ds = (List.range (n - a).toNat).map fun (i : Nat) => D.int (a + (i : Int)) := by
  cases d <;> cases e <;> first | (simp [itEv] at h; done) | skip
  rename_i a n
  unfold itEv at h
  simp only at h
  split at h
  · rename_i q
    simp only [Bool.and_eq_true, decide_eq_true_eq] at q
    cases h
    exact ⟨a, n, rfl, rfl, q.1.1.1, q.1.1.2, q.1.2, q.2, rfl⟩
  · cases h
theorem len1 {α : Type} {l : List α} (h : l.length = 1) : ∃ a, l = [a] := by
  match l, h with
  | [a], _ => exact ⟨a, rfl⟩
theorem len2 {α : Type} {l : List α} (h : l.length = 2) : ∃ a b, l = [a, b] := by
  match l, h with
  | [a, b], _ => exact ⟨a, b, rfl⟩
theorem RepZ.int {W : Wx} {g : Gh} {H : Hp} {n : Int} {v : V} (h : RepZ fz W g H (.int n) v) : v = .int n := h.rep.int
theorem pi_rng1 {tg a : Expr} {p pos : Pos} {e : E} (hg : Gl X "range") (hm : X.mg "range" = none) (ha : PA X [a] (tAz X We cl P fz (.cons e .nil))) (hs : notStar a = true) : PI X tg (.Call (.Name "range" p) [a] [] pos) (tI X We cl P fz .rng (.cons e .nil)) := by
  refine PI.imp (pi_range1 hg hm ha (star1 hs _)) fun σ H R q => ?_
  obtain ⟨g, env, S, hr, hss, q⟩ := q
  refine useZn hr hss q fun ds S1 vs g1 H1 hl hr1 x1 hs1 rs q1 => ?_
  obtain ⟨items, e, q2⟩ := q1.opt
  obtain ⟨d, rfl⟩ := len1 hl
  obtain ⟨n, rfl, n1, n2, e2⟩ := itEv_rng1 e
  obtain ⟨v, rfl, hv⟩ := rs.one
  have hv := hv.int
  subst hv
  exact ⟨n, rfl, by omega, by omega, q2 _ g1 H1 hr1 x1 (range_yld e2)⟩
theorem pi_rng2 {tg a b : Expr} {p pos : Pos} {e e' : E} (hg : Gl X "range") (hm : X.mg "range" = none) (ha : PA X [a, b] (tAz X We cl P fz (.cons e (.cons e' .nil)))) (hs : notStar a = true) (hs2 : notStar b = true) : PI X tg (.Call (.Name "range" p) [a, b] [] pos) (tI X We cl P fz .rng (.cons e (.cons e' .nil))) := by
  refine PI.imp (pi_range2 hg hm ha (by rw [star1 hs, star1 hs2]; rfl) (star1 hs2 _)) fun σ H R q => ?_
  obtain ⟨g, env, S, hr, hss, q⟩ := q
  refine useZn hr hss q fun ds S1 vs g1 H1 hl hr1 x1 hs1 rs q1 => ?_
  obtain ⟨items, e, q2⟩ := q1.opt
  obtain ⟨d, d', rfl⟩ := len2 hl
  obtain ⟨a, n, rfl, rfl, n1, n2, n3, n4, e2⟩ := itEv_rng2 e
  obtain ⟨v, u, rfl, hv, hu⟩ := rs.two
  have hv := hv.int
  have hu := hu.int
  subst hv hu
  exact ⟨a, n, rfl, ⟨by omega, by omega, by omega, by omega⟩, q2 _ g1 H1 hr1 x1 (range_yld e2)⟩
theorem pi_zip {a b : Expr} {p pos tpos : Pos} {elts : List Expr} {kk : Nat} {e e' : E} (hg : Gl X "zip") (hm : X.mg "zip" = none) (ha : PA X [a, b] (tAz X We cl P fz (.cons e (.cons e' .nil)))) (hs : notStar a = true) (hs2 : notStar b = true) :
    PI X (.Tuple elts kk tpos) (.Call (.Name "zip" p) [a, b] [] pos) (tI X We cl P fz .zip (.cons e (.cons e' .nil))) := by
  refine PI.imp (pi_zipA hg hm ha (star1 hs _) (by rw [star1 hs2]; rfl)) fun σ H R q => ?_
  obtain ⟨g, env, S, hr, hss, q⟩ := q
  refine useZn hr hss q fun ds S1 vs g1 H1 hl hr1 x1 hs1 rs q1 => ?_
  obtain ⟨items, e, q2⟩ := q1.opt
  obtain ⟨d, d', rfl⟩ := len2 hl
  obtain ⟨v, u, rfl, hv, hu⟩ := rs.two
  cases d <;> cases d' <;> first | (simp [itEv] at e; done) | skip
  · cases e
    obtain ⟨a, b, xs, ys, rfl, rfl, s1, s2, y⟩ := zip_yldT hr1 hv hu
    exact ⟨a, b, xs, ys, rfl, .inr ⟨s1, s2, q2 _ g1 H1 hr1 x1 y⟩⟩
  · cases e
    obtain ⟨a, b, xs, ys, rfl, rfl, s1, s2, y⟩ := zip_yldL hr1 hv hu
    exact ⟨a, b, xs, ys, rfl, .inl ⟨s1, s2, q2 _ g1 H1 hr1 x1 y⟩⟩
theorem pi_en {a : Expr} {p pos tpos : Pos} {elts : List Expr} {kk : Nat} {e : E} (hg : Gl X "enumerate") (hm : X.mg "enumerate" = none) (ha : PA X [a] (tAz X We cl P fz (.cons e .nil))) (hs : notStar a = true) :
    PI X (.Tuple elts kk tpos) (.Call (.Name "enumerate" p) [a] [] pos) (tI X We cl P fz .enum (.cons e .nil)) := by
  refine PI.imp (pi_enumT hg hm ha (star1 hs _)) fun σ H R q => ?_
  obtain ⟨g, env, S, hr, hss, q⟩ := q
  refine useZn hr hss q fun ds S1 vs g1 H1 hl hr1 x1 hs1 rs q1 => ?_
  obtain ⟨items, e, q2⟩ := q1.opt
  obtain ⟨d, rfl⟩ := len1 hl
  obtain ⟨v, rfl, hv⟩ := rs.one
  cases d <;> first | (simp [itEv] at e; done) | skip
  · cases e
    obtain ⟨a, xs, rfl, s1, y⟩ := enum_yldT hr1 hv
    exact ⟨a, xs, rfl, .inr ⟨s1, q2 _ g1 H1 hr1 x1 y⟩⟩
  · cases e
    obtain ⟨a, xs, rfl, s1, y⟩ := enum_yldL hr1 hv
    exact ⟨a, xs, rfl, .inl ⟨s1, q2 _ g1 H1 hr1 x1 y⟩⟩
end
end Gz
end -- GzH
section -- GzI
/-! GzI: targets; comprehensions. -/
namespace Gz
open PySem PySem.Spec PyProof.Rows L2 RZ
/-! ### slots that are set, wiped -/
theorem wipe_get (σ : L2.St) : ∀ (vs : List Nat) (j : Nat), (wipe σ vs)[j]? = if j ∈ vs ∧ j < σ.length then some none else σ[j]?
  | [], j => by simp [wipe]
  | v :: vs, j => by
    unfold wipe
    rw [List.getElem?_set, wipe_get σ vs j, wipe_length]
    by_cases h : v = j
    · subst h
      by_cases hl : v < σ.length
      · simp [hl]
      · simp [hl]
    · have : j ∈ v :: vs ↔ j ∈ vs := by simp [Ne.symm h]
      simp [h, this]
theorem wipe_set {σ : L2.St} {i : Nat} {x : Option V} {vs : List Nat} (h : i ∈ vs) : wipe (σ.set i x) vs = wipe σ vs := by
  apply List.ext_getElem?
  intro j
  rw [wipe_get, wipe_get, List.length_set, List.getElem?_set]
  by_cases hj : j ∈ vs ∧ j < σ.length
  · rw [if_pos hj, if_pos hj]
  · rw [if_neg hj, if_neg hj]
    by_cases e : i = j
    · subst e
      have : ¬ i < σ.length := fun q => hj ⟨h, q⟩
      simp [this]
    · rw [if_neg e]
theorem wipe_wipe {σ : L2.St} {vs : List Nat} : wipe (wipe σ vs) vs = wipe σ vs := by
  apply List.ext_getElem?
  intro j
  rw [wipe_get, wipe_get, wipe_length]
  by_cases hj : j ∈ vs ∧ j < σ.length
  · rw [if_pos hj, if_pos hj]
  · rw [if_neg hj]
theorem wipeE_length (env : Env) : ∀ vs : List Nat, (wipeE env vs).length = env.length
  | [] => rfl
  | v :: vs => by unfold wipeE setE; rw [List.length_set, wipeE_length env vs]
theorem wipeE_get (env : Env) : ∀ (vs : List Nat) (j : Nat), (wipeE env vs)[j]? = if j ∈ vs ∧ j < env.length then some .un else env[j]?
  | [], j => by simp [wipeE]
  | v :: vs, j => by
    unfold wipeE setE
    rw [List.getElem?_set, wipeE_get env vs j, wipeE_length]
    by_cases h : v = j
    · subst h
      by_cases hl : v < env.length
      · simp [hl]
      · simp [hl]
    · have : j ∈ v :: vs ↔ j ∈ vs := by simp [Ne.symm h]
      simp [h, this]
section
variable {W : Wx} {g : Gh} {H : Hp} {σ : L2.St} {env : Env}
theorem SRel.wiped (s : SRel W g H σ env) (vs : List Nat) : SRel W g H (wipe σ vs) (wipeE env vs) where
  len := by rw [wipe_length, wipeE_length]; exact s.len
  at_ := fun i c e => by
    rw [wipeE_get] at e
    rw [wipe_get, s.len]
    split at e
    · rename_i q
      cases e
      rw [if_pos q]
      exact ⟨none, rfl, trivial, fun q => by cases q⟩
    · rename_i q
      rw [if_neg q]
      exact s.at_ i c e
  dis := fun i j c c' a e1 e2 q1 q2 h1 h2 => by
    rw [wipeE_get] at e1 e2
    rw [wipe_get, s.len] at h1 h2
    split at e1
    · cases e1; cases q1
    · rename_i z1
      rw [if_neg z1] at h1
      split at e2
      · cases e2; cases q2
      · rename_i z2
        rw [if_neg z2] at h2
        exact s.dis i j c c' a e1 e2 q1 q2 h1 h2
/-- a slot gets a value -/
theorem SRel.put (s : SRel W g H σ env) (i : Nat) {d : D} {v : V} (h : Is W g d v) : SRel W g H (σ.set i (some v)) (setE env i (.fr d)) where
  len := by unfold setE; rw [List.length_set, List.length_set]; exact s.len
  at_ := fun j c e => by
    unfold setE at e
    rw [List.getElem?_set] at e
    rw [List.getElem?_set, s.len]
    split at e
    · rename_i q
      subst q
      rw [if_pos rfl]
      split at e
      · rename_i q
        cases e
        rw [if_pos q]
        exact ⟨_, rfl, ⟨v, rfl, h⟩, fun q => by cases q⟩
      · cases e
    · rename_i q
      rw [if_neg q]
      exact s.at_ j c e
  dis := fun j k c c' a e1 e2 q1 q2 h1 h2 => by
    unfold setE at e1 e2
    rw [List.getElem?_set] at e1 e2 h1 h2
    rw [s.len] at h1 h2
    split at e1
    · rename_i q
      split at e1
      · cases e1; cases q1
      · cases e1
    · rename_i q
      rw [if_neg q] at h1
      split at e2
      · rename_i q'
        split at e2
        · cases e2; cases q2
        · cases e2
      · rename_i q'
        rw [if_neg q'] at h2
        exact s.dis j k c c' a e1 e2 q1 q2 h1 h2
end
/-! ### targets -/
/-- what is a slot's own stays -/
def Keep (env : Env) (σ : L2.St) (env' : Env) (σ' : L2.St) : Prop := ∀ (i : Nat) c, env'[i]? = some c → c.isOwn = true → env[i]? = some c ∧ σ'[i]? = σ[i]?
theorem Keep.refl (env : Env) (σ : L2.St) : Keep env σ env σ := fun _ _ h _ => ⟨h, rfl⟩
theorem Keep.trans {e e1 e2 : Env} {s s1 s2 : L2.St} (a : Keep e s e1 s1) (b : Keep e1 s1 e2 s2) : Keep e s e2 s2 := fun i c h q => by
  obtain ⟨h1, h2⟩ := b i c h q
  obtain ⟨h3, h4⟩ := a i c h1 q
  exact ⟨h3, h2.trans h4⟩
theorem Keep.put {env : Env} {σ : L2.St} {i : Nat} {d : D} {o : Option V} : Keep env σ (setE env i (.fr d)) (σ.set i o) := fun j c h q => by
  unfold setE at h
  by_cases e : i = j
  · subst e
    rw [List.getElem?_set] at h
    simp only [if_true] at h
    split at h
    · cases h; cases q
    · cases h
  · rw [List.getElem?_set_ne e] at h ⊢
    exact ⟨h, rfl⟩
section
variable (X : Cx)
def tG (t : Tg) : TG := fun v σ H Q => ∃ g env S d env', HRel (wx X) g H S ∧ SRel (wx X) g H σ env ∧ Is (wx X) g d v ∧ t.bind env d = some env' ∧
  ∀ σ', SRel (wx X) g H σ' env' → (∀ vs, tgIn vs t = true → wipe σ' vs = wipe σ vs) → Keep env σ env' σ' → Q σ' H
def tGs (is : List Nat) : TGs := fun vs σ H Q => ∃ g env ds env', SRel (wx X) g H σ env ∧ IsL (wx X) g ds vs ∧ bindL env is ds = some env' ∧
  ∀ σ', SRel (wx X) g H σ' env' → (∀ ws, (is.all fun i => ws.contains i) = true → wipe σ' ws = wipe σ ws) → Keep env σ env' σ' → Q σ' H
end
section
variable {X : Cx}
theorem PG_imp {tg : Expr} {t t' : TG} (h : PG X tg t) (i : ∀ v σ H Q, t' v σ H Q → t v σ H Q) : PG X tg t' := ⟨fun pins s σ H v u Q I r q => h.run pins s σ H v u Q I r (i v σ H Q q)⟩
theorem PGs_imp {tg : List Expr} {t t' : TGs} (h : PGs X tg t) (i : ∀ v σ H Q, t' v σ H Q → t v σ H Q) : PGs X tg t' := ⟨fun pins s σ H v u Q I r q => h.run pins s σ H v u Q I r (i v σ H Q q)⟩
def tg1B (N : List Str) (sc : Scope) (fn : Str → Bool) (i : Nat) : Expr → Bool
  | .Name x _ => decide (N[i]? = some x) && locB sc x && (fn x || localB sc x)
  | _ => false
theorem pg_one {i : Nat} {x : Expr} (hN : X.N.Nodup) (h : tg1B X.N X.env.scope X.fn i x = true) : PG X x (gName i) := by
  unfold tg1B at h
  split at h
  · simp only [Bool.and_eq_true, Bool.or_eq_true, decide_eq_true_eq] at h
    exact pg_name hN h.1.1 (locB_ok h.1.2) (h.2.imp id localB_ok)
  · cases h
theorem pgs_names (hN : X.N.Nodup) : ∀ (is : List Nat) (es : List Expr), is.length = es.length → ((is.zip es).all fun p => tg1B X.N X.env.scope X.fn p.1 p.2) = true → PGs X es (tGs X is) ∧ (assignEach es X.env).length = is.length ∧ (assignEach es X.env).findIdx? (·.1) = none
  | [], [], _, _ => ⟨PGs_imp pgs_nil fun v σ H Q q => by
      obtain ⟨g, env, ds, env', hs, il, e, f⟩ := q
      cases ds with
      | cons d ds => cases e
      | nil =>
        cases e
        unfold IsL at il
        exact ⟨il, f σ hs (fun _ _ => rfl) (Keep.refl _ _)⟩, rfl, rfl⟩
  | [], _ :: _, h, _ => by simp at h
  | _ :: _, [], h, _ => by simp at h
  | i :: is, x :: es, hl, h => by
    rw [List.zip_cons_cons, List.all_cons, Bool.and_eq_true] at h
    obtain ⟨ih, h2, h3⟩ := pgs_names hN is es (by simpa using hl) h.2
    have hx := h.1
    have e1 : assignEach (x :: es) X.env = (false, assign x X.env) :: assignEach es X.env := by
      cases x <;> first | rfl | (simp [tg1B] at hx; done)
    refine ⟨PGs_imp (pgs_cons (pg_one hN h.1) ih (by rw [e1]; rfl)) fun v σ H Q q => ?_, ?_, ?_⟩
    · obtain ⟨g, env, ds, env', hs, il, e, f⟩ := q
      cases ds with
      | nil => cases e
      | cons d ds =>
        unfold IsL at il
        obtain ⟨u, r, rfl, hd, il⟩ := il
        refine ⟨u, r, rfl, g, _, ds, env', hs.put i hd, il, e, fun σ' hs' hw kp => f σ' hs' (fun ws q => ?_) (Keep.put.trans kp)⟩
        rw [List.all_cons, Bool.and_eq_true] at q
        rw [hw ws q.2]
        exact wipe_set (by simpa using q.1)
    · rw [e1, List.length_cons, h2]; rfl
    · rw [e1, List.findIdx?_cons]; simp only [h3]; rfl
theorem tgB_ok (hc : X.calm = true) (hN : X.N.Nodup) {t : Tg} {x : Expr} (h : tgB X.N X.env.scope X.fn t x = true) : PG X x (tG X t) := by
  cases t with
  | one i =>
    have h1 : tg1B X.N X.env.scope X.fn i x = true := by
      unfold tgB at h
      split at h
      · rename_i e
        cases e
        exact h
      · rename_i e
        cases e
      · cases h
    refine PG_imp (pg_one hN h1) fun v σ H Q q => ?_
    obtain ⟨g, env, S, d, env', hr, hs, hd, e, f⟩ := q
    cases e
    exact f _ (hs.put i hd) (fun vs q => wipe_set (by simpa [tgIn] using q)) Keep.put
  | many is =>
    unfold tgB at h
    split at h
    · rename_i e; cases e
    · rename_i es k p e
      cases e
      rw [Bool.and_eq_true, decide_eq_true_eq] at h
      have h2 : ((is.zip es).all fun p => tg1B X.N X.env.scope X.fn p.1 p.2) = true := by
        rw [List.all_eq_true] at h ⊢
        intro p hp
        have := h.2 p hp
        unfold tg1B
        exact this
      obtain ⟨h3, h4, h5⟩ := pgs_names hN is es h.1 h2
      refine PG_imp (pg_tup hc h3 h4 h5) fun v σ H Q q => ?_
      obtain ⟨g, env, S, d, env', hr, hs, hd, e, f⟩ := q
      unfold Tg.bind at e
      simp only at e
      split at e
      · rename_i ds
        unfold Is at hd
        obtain ⟨a, xs, rfl, s1, il⟩ := hd
        have hlen : ∀ (is : List Nat) (ds : List D) (env env' : Env), bindL env is ds = some env' → ds.length = is.length := by
          intro is
          induction is with
          | nil => intro ds env env' e; cases ds with
            | nil => rfl
            | cons d ds => cases e
          | cons i is ih => intro ds env env' e; cases ds with
            | nil => cases e
            | cons d ds => simp [ih ds _ _ e]
        refine ⟨a, xs, rfl, SqT.mono hr.fh s1, by rw [il.length, hlen is ds _ _ e], g, env, ds, env', hs, il, e, f⟩
      · cases e
    · cases h
end
end Gz
end -- GzI
section -- GzJ
/-! GzJ: comprehensions. -/
namespace Gz
open PySem PySem.Spec PyProof.Rows L2 RZ
/-- what is not frozen, outside the zone, is written -/
theorem HRel.wr {W : Wx} {g : Gh} {H : Hp} {S : Store} (h : HRel W g H S) {p : Addr} {o : HO} (nF : g.F p = none) (nB : ¬ g.B p) : HRel W g (upd H p o) S := by
  refine ⟨fun a u e => ?_, h.fb, fun a q => ?_, h.obs.keep (GLe.refl _) rfl rfl (fun a u e q => ?_) h.fb⟩
  · rw [upd_ne (fun z => by subst z; rw [nF] at e; cases e)]; exact h.fh a u e
  · obtain ⟨u, e⟩ := h.bh a q
    exact ⟨u, by rw [upd_ne (fun (z : a = p) => nB (by rw [← z]; exact q))]; exact e⟩
  · rw [upd_ne (fun (z : a = p) => nB (by rw [← z]; exact q))]; exact e
theorem Ext.wr {g1 g2 : Gh} {H1 H2 : Hp} (x : Ext g1 H1 g2 H2) {p : Addr} {o : HO} (n1 : H1 p = none) : Ext g1 H1 g2 (upd H2 p o) :=
  ⟨x.le, fun a u e => by rw [upd_ne (ne_of_none e n1)]; exact x.hs a u e, fun a u e n => by rw [upd_ne (ne_of_none e n1)]; exact x.h a u e n, x.b, x.bn, x.fn⟩
theorem Out.bind_assoc {α β γ : Type} (o : Out α) (f : α → Store → Out β) (k : β → Store → Out γ) : (o.bind f).bind k = o.bind fun a S => (f a S).bind k := by cases o <;> rfl
theorem Wpo.calm {α β γ : Type} {o : Out α} {f : α → Store → Out β} {k : β → Store → Out γ} {ok : γ → Store → Prop} {ex : Str → Store → Prop} (h : Wpo (((o.bind f).calm).bind k) ok ex) :
    Wpo o (fun a S => Wpo (((f a S).calm).bind k) ok ex) (fun _ _ => False) := by
  cases o with
  | ok a S => exact h
  | exc x S => exact h
  | no => exact h
abbrev noWe : WX := fun _ _ _ _ => False
section
variable (X : Cx) (We : WX) (cl : Calls) (P : Prog)
def tTs (es : Es) : TT := fun σ H Q => ∃ g env S, HRel (wx X) g H S ∧ SRel (wx X) g H σ env ∧
  Wpo (evT cl P es env S) (fun b S' => ∀ g' H', HRel (wx X) g' H' S' → Ext g H g' H' → Q b H') (EEx (wx X) We σ g H)
def lcF (vs : List (Str × Nat)) (tg : Tg) (cs : Es) (elt : E) (env : Env) : D → Store → Out (Option D) := fun d S => match tg.bind (wipeE env (vs.map (·.2))) d with
  | none => .no
  | some env' => (evT cl P cs env' S).bind fun t S => match t with
    | false => .ok none S
    | true => (evE cl P elt env' S).bind fun y S => ofOpt (y.hold.map some) S
end
theorem PTs_imp {X : Cx} {e : List Expr} {t t' : TT} (h : PTs X e t) (i : ∀ σ H Q, t' σ H Q → t σ H Q) : PTs X e t' := ⟨fun pins s σ H Q I q => h.run pins s σ H Q I (i σ H Q q)⟩
section
variable {X : Cx} {We : WX} {cl : Calls} {P : Prog}
theorem evE_lc {vs : List (Str × Nat)} {tg : Tg} {k : Ik} {it cs : Es} {elt : E} {env : Env} {S : Store} : evE cl P (.lc vs tg k it cs elt) env S =
    ((evXs cl P it env S).bind fun xs S => ofOpt (itEv k xs) S).bind fun ds S => if ds.length ≤ lim then ((lcLoop (lcF cl P vs tg cs elt env) ds [] S).calm).bind fun ys S => .ok ⟨.lst ys, .own⟩ S else .no := by
  unfold evE
  rw [Out.bind_assoc]
  rfl
theorem lc_imp {vs : List (Str × Nat)} {t : Tg} {k : Ik} {it cs : Es} {el : E} (hv : tgIn (vs.map (·.2)) t = true) {σ : L2.St} {H : Hp} {Q : VK} (q : tE X We cl P (.lc vs t k it cs el) σ H Q) :
    tLc (tI X We cl P false k it) (tG X t) (tTs X noWe cl P cs) (tE X noWe cl P el) (vs.map (·.2)) σ H Q := by
  obtain ⟨g, env, S, hr, hs, q⟩ := q
  rw [evE_lc] at q
  have q0 := q.bind
  refine ⟨g, env, S, hr, hs, q0.mono (fun ds S1 q1 J g1 H1 hr1 x1 y D nD => ?_) fun _ _ z => z⟩
  by_cases hlim : ds.length ≤ lim
  · rw [if_pos hlim] at q1
    obtain ⟨G, Y, w, hG, hY⟩ := y.ex
    have nF : g1.F D = none := by
      cases e : g1.F D with
      | none => rfl
      | some u => have := hr1.fh D u e; rw [nD] at this; cases this
    have nB : ¬ g1.B D := fun z => by obtain ⟨u, e⟩ := hr1.bh D z; rw [nD] at e; cases e
    obtain ⟨hrN, xN⟩ := hr1.new (o := .lst []) nD
    refine lc_it w (fun i H2 => ∃ g2 S2 acc ws, HRel (wx X) g2 H2 S2 ∧ Ext g1 H1 g2 H2 ∧ H2 D = some (.lst ws) ∧ IsL (wx X) g2 acc ws ∧ g2.F D = none ∧ ¬ g2.B D ∧ acc.length ≤ i ∧
      Wpo (((lcLoop (lcF cl P vs t cs el env) (ds.drop i) acc S2).calm).bind fun ys S => .ok ⟨.lst ys, .own⟩ S) (fun r S' => ∀ v g' H', HRel (wx X) g' H' S' → Ext g H g' H' → RvIs (wx X) H g' H' r v → Q v H') (EEx (wx X) We σ g H)) ?_ ?_ ?_ ?_
    · exact ⟨g1, S1, [], [], hrN, xN, upd_same, .nil, nF, nB, Nat.le_refl _, q1⟩
    · rintro i H2 _ ⟨g2, S2, acc, ws, hr2, x2, _⟩
      exact hG g2 H2 S2 hr2 ⟨x2.le, fun _ => x2⟩
    · rintro i x H2 H3 hi ⟨g2, S2, acc, ws, hr2, x2, e2, il, nF2, nB2, la, q2⟩ y2
      obtain ⟨g3, d, hr3, x3, ed, hd⟩ := hY i H2 x H3 g2 S2 hr2 ⟨x2.le, fun _ => x2⟩ hi y2
      have hdrop : ds.drop i = d :: ds.drop (i + 1) := by
        rw [List.drop_eq_getElem_cons hi]
        rw [List.getElem?_eq_getElem hi] at ed
        cases ed
        rfl
      rw [hdrop] at q2
      unfold lcLoop at q2
      have q3 := q2.calm
      unfold lcF at q3
      cases eb : t.bind (wipeE env (vs.map (·.2))) d with
      | none => rw [eb] at q3; exact q3.elim
      | some env' =>
        rw [eb] at q3
        have q4 := q3.bind
        refine ⟨g3, wipeE env (vs.map (·.2)), S2, d, env', hr3, (hs.ext ((x1.trans x2).trans x3)).wiped _, hd, eb, fun σ' hs' hw _ => ⟨(hw _ hv).trans wipe_wipe, g3, env', S2, hr3, hs', q4.mono (fun b S4 q5 g4 H4 hr4 x4 => ?_) fun _ _ z => z.elim⟩⟩
        have e3 : H3 D = some (.lst ws) := x3.h D _ e2 nB2
        have nF3 := x3.unf e2 nF2
        have nB3 := x3.unb e2 nB2
        have e4 : H4 D = some (.lst ws) := x4.h D _ e3 nB3
        have nF4 := x4.unf e3 nF3
        have nB4 := x4.unb e3 nB3
        have x14 := (x2.trans x3).trans x4
        cases b with
        | false =>
          simp only [Bool.false_eq_true, if_false]
          exact ⟨g4, S4, acc, ws, hr4, x14, e4, (il.mono x3.le).mono x4.le, nF4, nB4, Nat.le_succ_of_le la, q5⟩
        | true =>
          simp only [if_true]
          have q6 := Wpo.bind (o := evE cl P el env' S4) (k := fun (y : Rv) S => ofOpt (y.hold.map some) S) q5
          refine ⟨g4, env', S4, hr4, hs'.ext x4, q6.mono (fun r S5 q7 v g5 H5 hr5 x5 rv => ?_) fun _ _ z => z.elim⟩
          obtain ⟨o, eo, q8⟩ := q7.opt
          cases eh : r.hold with
          | none => rw [eh] at eo; cases eo
          | some dd =>
            rw [eh] at eo
            cases eo
            obtain ⟨g6, hr6, x6, hdd⟩ := holdE hr5 x5 rv eh
            have e6 : H5 D = some (.lst ws) := x6.h D _ e4 nB4
            have nF6 := x6.unf e4 nF4
            have nB6 := x6.unb e4 nB4
            have il6 : IsL (wx X) g6 acc ws := ((il.mono x3.le).mono x4.le).mono x6.le
            refine ⟨ws, e6, ?_, g6, S5, acc ++ [dd], ws ++ [v], hr6.wr nF6 nB6, (x14.trans x6).wr nD, upd_same, il6.append (.cons hdd .nil), nF6, nB6, by simp; omega, q8⟩
            have := il6.length
            rw [this, ← lim_eq]
            omega
    · rintro H2 ⟨g2, S2, acc, ws, hr2, x2, e2, il, nF2, nB2, la, q2⟩
      rw [List.drop_eq_nil_of_le (Nat.le_refl _)] at q2
      refine q2 _ g2 H2 hr2 (x1.trans x2) ⟨⟨.inl ⟨acc, rfl, D, ws, rfl, e2, nF2, il⟩, fun a ea => by cases ea; exact nB2⟩, fun a ea => ?_⟩
      cases ea
      cases e : H D with
      | none => rfl
      | some u => obtain ⟨u', e'⟩ := x1.hs D u e; rw [nD] at e'; cases e'
  · rw [if_neg hlim] at q1
    exact q1.elim
theorem pe_lcG {elt tg iter : Expr} {ifs : List Expr} {scope : Scope} {pos : Pos} {vs : List (Str × Nat)} {t : Tg} {k : Ik} {it cs : Es} {el : E} (hc : X.calm = true) (hN : X.N.Nodup) (hi : PI X tg iter (tI X We cl P false k it)) (ok : BlkOk X.N X.env.scope scope vs)
    (hv : tgIn (vs.map (·.2)) t = true)
    (hg : ∀ (s : Shared) (H : Hp) (C : Addr) (c : List (Str × Addr)) (fp : List Addr), PG (X.blk s H scope (compEnvC scope c C X.env) fp) tg (tG X t)) (ht : ∀ (s : Shared) (H : Hp) (C : Addr) (c : List (Str × Addr)) (fp : List Addr), PTs (X.blk s H scope (compEnvC scope c C X.env) fp) ifs (tTs X noWe cl P cs))
    (he : ∀ (s : Shared) (H : Hp) (C : Addr) (c : List (Str × Addr)) (fp : List Addr), PE (X.blk s H scope (compEnvC scope c C X.env) fp) elt (tE X noWe cl P el)) (hs : ∀ x, foldedSetIterable iter X.env x = pure x) :
    PE X (.ListComp elt [⟨tg, iter, ifs, 0⟩] scope pos) (tE X We cl P (.lc vs t k it cs el)) := PE.imp (pe_lc hc hN hi ok hg ht he hs) fun σ H Q q => lc_imp hv q
theorem PS_imp {X : Cx} {st : Stmt} {t t' : TS} (h : PS X st t) (i : ∀ D σ H, t' D σ H → t D σ H) : PS X st t' := ⟨fun pins s σ H D I q => h.run pins s σ H D I (i D σ H q)⟩
theorem PSs_imp {X : Cx} {st : List Stmt} {t t' : TS} (h : PSs X st t) (i : ∀ D σ H, t' D σ H → t D σ H) : PSs X st t' := ⟨fun pins s σ H D I q => h.run pins s σ H D I (i D σ H q)⟩
theorem ps_lcG {i : Nat} {y : Str} {py spos : Pos} {elt tg iter : Expr} {ifs : List Expr} {scope : Scope} {pos : Pos} {vs : List (Str × Nat)} {t : Tg} {k : Ik} {it cs : Es} {el : E} (hc : X.calm = true) (hN : X.N.Nodup) (hy : X.N[i]? = some y) (hyl : X.env.scope.names.lookup y = some .local)
    (hsw : swapsWith (.ListComp elt [⟨tg, iter, ifs, 0⟩] scope pos) (some (.Name y py)) spos.line X.env = pure true) (hi : PI X tg iter (tI X We cl P false k it)) (ok : BlkOk X.N X.env.scope scope vs)
    (hv : tgIn (vs.map (·.2)) t = true)
    (hg : ∀ (s : Shared) (H : Hp) (C : Addr) (c : List (Str × Addr)) (fp : List Addr), PG (X.blk s H scope (compEnvC scope c C X.env) fp) tg (tG X t)) (ht : ∀ (s : Shared) (H : Hp) (C : Addr) (c : List (Str × Addr)) (fp : List Addr), PTs (X.blk s H scope (compEnvC scope c C X.env) fp) ifs (tTs X noWe cl P cs))
    (he : ∀ (s : Shared) (H : Hp) (C : Addr) (c : List (Str × Addr)) (fp : List Addr), PE (X.blk s H scope (compEnvC scope c C X.env) fp) elt (tE X noWe cl P el)) (hs : ∀ x, foldedSetIterable iter X.env x = pure x) :
    PS X (.Assign [.Name y py] (.ListComp elt [⟨tg, iter, ifs, 0⟩] scope pos) spos) (tAsg (tE X We cl P (.lc vs t k it cs el)) (gName i)) := PS_imp (ps_setLc hc hN hy hyl hsw hi ok hg ht he hs) fun D σ H q => lc_imp hv q
end
end Gz
end -- GzJ
section -- GzK
/-! GzK: each form of an expression. -/
namespace Gz
open PySem PySem.Spec PyProof.Rows L2 RZ
theorem PE_no {X : Cx} {e : Expr} {t : TE} (h : ∀ σ H Q, ¬ t σ H Q) : PE X e t := ⟨fun _ _ σ H Q _ q => (h σ H Q q).elim⟩
theorem PE.ex {X : Cx} {α : Type} {e : Expr} {t : α → TE} (h : ∀ a, PE X e (t a)) : PE X e (fun σ H Q => ∃ a, t a σ H Q) := ⟨fun pins s σ H Q I ⟨a, q⟩ => (h a).run pins s σ H Q I q⟩
section
variable {X : Cx} {We : WX} {cl : Calls} {P : Prog}
/-- a plain test -/
theorem pt_plain {x : Expr} {e : E} (h : PE X x (tE X We cl P e)) (he : ∀ whole, isTrue x X.env whole = (do let v ← whole; standAt x.pos; holding [v] (truthy v))) : PT X x (tT X We cl P e) := by
  refine PT.imp (pt_truth h he) fun σ H Q q => ?_
  obtain ⟨g, env, S, hr, hs, q⟩ := q
  refine ⟨g, env, S, hr, hs, q.bind.mono (fun r S1 q1 v g1 H1 hr1 x1 rv => ?_) fun _ _ z => z⟩
  unfold truthR at q1
  obtain ⟨b, e, q2⟩ := q1.opt
  exact ⟨b, rep_truth hr1 rv.rep e, q2 g1 H1 hr1 x1⟩
theorem e_var {i : Nat} {x : Str} {pos : Pos} (hN : X.N[i]? = some x) (hv : visB X.env.scope x = true) (hn : nameB x = true) : PE X (.Name x pos) (tE X We cl P (.var i)) := by
  obtain ⟨n1, n2, _⟩ := nameB_ok hn
  refine PE.imp (pe_var hN (visB_ok hv) n1 n2) fun σ H Q q => ?_
  obtain ⟨g, env, S, hr, hs, q⟩ := q
  unfold evE at q
  obtain ⟨r, e, q⟩ := q.opt
  obtain ⟨v, ev, rv⟩ := hs.var i r e
  exact ⟨v, ev, q v g H hr (Ext.refl _ _) rv⟩
theorem e_const {e : E} {d : D} {v : V} {x : Expr} (h : PE X x (L2.tC v)) (he : ∀ env S, evE cl P e env S = .ok (.fr d) S) (hi : ∀ g, Is (wx X) g d v) : PE X x (tE X We cl P e) := by
  refine PE.imp h fun σ H Q q => ?_
  obtain ⟨g, env, S, hr, hs, q⟩ := q
  rw [he] at q
  exact q v g H hr (Ext.refl _ _) (hi g)
theorem e_glob (kn : Kn X We cl P) {x : Str} {pos : Pos} (hg : glB X.env.scope x = true) (hn : nameB x = true) : PE X (.Name x pos) (tE X We cl P (.glob x)) := by
  cases e : P.cons.lookup x with
  | none =>
    refine PE_no fun σ H Q q => ?_
    obtain ⟨g, env, S, hr, hs, q⟩ := q
    unfold evE at q
    rw [e] at q
    exact q.elim
  | some d =>
    obtain ⟨u, v, h1, h2, h3⟩ := kn.cons x d e
    exact e_const (pe_glob (glB_ok hg) h1 h2 (nameB_ok hn).1) (fun env S => by unfold evE; rw [e]; rfl) h3
theorem e_fnv (kn : Kn X We cl P) (hh : P.hot = false) {x : Str} {pos : Pos} (hg : glB X.env.scope x = true) (hn : nameB x = true) (hf : (P.defs.lookup x).isSome = true) : PE X (.Name x pos) (tE X We cl P (.fnv x)) := by
  obtain ⟨fn, e⟩ := Option.isSome_iff_exists.mp hf
  obtain ⟨fa, fd, ps, k, h1, _⟩ := kn.calls hh x fn e
  exact e_const (v := .ref fa) (pe_glob (glB_ok hg) h1 rfl (nameB_ok hn).1) (fun env S => by unfold evE; rfl) fun g => by unfold Is; exact ⟨fa, rfl, h1⟩
theorem plainB_ok {b : Expr} (h : plainB b = true) : PlainIx b := by
  intro o i
  cases b <;> first | rfl | (simp [plainB] at h; done)
theorem e_gix (kn : Kn X We cl P) {y : Str} {a : E} {b : Expr} {p pos : Pos} (hg : glB X.env.scope y = true) (hn : nameB y = true) (ht : (P.tabs.lookup y).isSome = true) (hb : plainB b = true) (h : PE X b (tE X We cl P a)) : PE X (.Subscript (.Name y p) b pos) (tE X We cl P (.gix y a)) := by
  obtain ⟨t, e⟩ := Option.isSome_iff_exists.mp ht
  obtain ⟨a', h1, h2⟩ := kn.tabs y t e
  refine PE.imp (pe_ix ix_kdict (pe_glob (v := .ref a') (glB_ok hg) h1 rfl (nameB_ok hn).1) h (plainB_ok hb)) fun σ H Q q => ?_
  obtain ⟨g, env, S, hr, hs, q⟩ := q
  unfold evE at q
  refine useE hr hs q fun r S1 v g1 H1 hr1 x1 hs1 rv q1 => ?_
  obtain ⟨r2, e2, q2⟩ := q1.opt
  unfold gixEv at e2
  split at e2
  · rename_i k ek
    rw [e] at e2
    simp only [Option.bind_some] at e2
    cases ef : t.lookup k with
    | none => rw [ef] at e2; cases e2
    | some f =>
      rw [ef] at e2
      cases e2
      obtain ⟨fa, hf, hk⟩ := h2 k f ef
      have rp := rv.rep
      rw [ek] at rp
      have ev := rp.str
      exact ⟨a', k, .ref fa, rfl, ev, hk, q2 _ g1 H1 hr1 x1 (show Is _ _ _ _ from by unfold Is; exact ⟨fa, rfl, hf⟩)⟩
  · cases e2
theorem e_bin (kn : Kn X We cl P) {o : Op2} {a b : E} {l r : Expr} {pos : Pos} (ha : PE X l (tE X We cl P a)) (hb : PE X r (tE X We cl P b)) : PE X (.BinOp l o.op r pos) (tE X We cl P (.bin o a b)) := by
  refine PE.imp (pe_op (op2_ok kn.cok o) ha hb) fun σ H Q q => ?_
  obtain ⟨g, env, S, hr, hs, q⟩ := q
  unfold evE at q
  refine useE hr hs q fun r1 S1 v1 g1 H1 hr1 x1 hs1 rv1 q1 => useE hr1 hs1 q1 fun r2 S2 v2 g2 H2 hr2 x2 hs2 rv2 q2 => ?_
  obtain ⟨r, e, q3⟩ := q2.opt
  exact ⟨g2, S2, r1.d, r2.d, r, hr2, rv1.rep.ext x2, rv2.rep, e, finE (x1.trans x2) q3⟩
theorem e_cmp (kn : Kn X We cl P) {o : Cm} {a b : E} {l r : Expr} {pos : Pos} (ha : PE X l (tE X We cl P a)) (hb : PE X r (tE X We cl P b)) (hm : behindInMarks o.op r = false) : PE X (.Compare l [o.op] [r] pos) (tE X We cl P (.cmp o a b)) := by
  refine PE.imp (pe_cmpR (cm_ok kn.cok o) ha hb hm) fun σ H Q q => ?_
  obtain ⟨g, env, S, hr, hs, q⟩ := q
  unfold evE at q
  refine useE hr hs q fun r1 S1 v1 g1 H1 hr1 x1 hs1 rv1 q1 => useE hr1 hs1 q1 fun r2 S2 v2 g2 H2 hr2 x2 hs2 rv2 q2 => ?_
  obtain ⟨r, e, q3⟩ := q2.opt
  cases ec : o.ev r1.d r2.d with
  | none => rw [ec] at e; cases e
  | some b =>
    rw [ec] at e; cases e
    exact ⟨g2, S2, r1.d, r2.d, b, hr2, rv1.rep.ext x2, rv2.rep, ec, q3 _ g2 H2 hr2 (x1.trans x2) (show Is _ _ _ _ from by unfold Is; rfl)⟩
theorem t_cmp (kn : Kn X We cl P) {o : Cm} {a b : E} {l r : Expr} {pos : Pos} (ha : PE X l (tE X We cl P a)) (hb : PE X r (tE X We cl P b)) (hm : behindInMarks o.op r = false) : PT X (.Compare l [o.op] [r] pos) (tT X We cl P (.cmp o a b)) := by
  refine PT.imp (pt_cmpR (cm_ok kn.cok o) ha hb hm) fun σ H Q q => ?_
  obtain ⟨g, env, S, hr, hs, q⟩ := q
  unfold evE at q
  simp only [Out.bind_assoc] at q
  refine useE hr hs q fun r1 S1 v1 g1 H1 hr1 x1 hs1 rv1 q1 => useE hr1 hs1 q1 fun r2 S2 v2 g2 H2 hr2 x2 hs2 rv2 q2 => ?_
  cases ec : o.ev r1.d r2.d with
  | none => rw [ec] at q2; exact q2.elim
  | some b =>
    rw [ec] at q2
    exact ⟨g2, S2, r1.d, r2.d, b, hr2, rv1.rep.ext x2, rv2.rep, ec, b, rfl, q2 g2 H2 hr2 (x1.trans x2)⟩
theorem e_chain (kn : Kn X We cl P) {o o' : Cm} {a b c : E} {l r q' : Expr} {pos : Pos} (ha : PE X l (tE X We cl P a)) (hb : PE X r (tE X We cl P b)) (hc : PE X q' (tE X We cl P c)) (hm : lastMarks [o.op, o'.op] [r, q'] = false) :
    PE X (.Compare l [o.op, o'.op] [r, q'] pos) (tE X We cl P (.chain o o' a b c)) := by
  refine PE.imp (pe_chain (cm_ok kn.cok o) (cm_ok kn.cok o') ha hb hc hm) fun σ H Q q => ?_
  obtain ⟨g, env, S, hr, hs, q⟩ := q
  unfold evE at q
  refine useE hr hs q fun r1 S1 v1 g1 H1 hr1 x1 hs1 rv1 q1 => useE hr1 hs1 q1 fun r2 S2 v2 g2 H2 hr2 x2 hs2 rv2 q2 => ?_
  cases ec : o.ev r1.d r2.d with
  | none => rw [ec] at q2; exact q2.elim
  | some t =>
    rw [ec] at q2
    refine ⟨g2, S2, r1.d, r2.d, t, hr2, rv1.rep.ext x2, rv2.rep, ec, t, rfl, ?_⟩
    cases t with
    | false =>
      simp only [Bool.false_eq_true, if_false]
      exact q2 _ g2 H2 hr2 (x1.trans x2) (show Is _ _ _ _ from by unfold Is; rfl)
    | true =>
      simp only [if_true]
      have q2 : Wpo ((evE cl P c env S2).bind fun z S => ofOpt ((o'.ev r2.d z.d).map fun b => Rv.fr (.bl b)) S) _ _ := q2
      refine useE hr2 hs2 q2 fun r3 S3 v3 g3 H3 hr3 x3 hs3 rv3 q3 => ?_
      cases ec' : o'.ev r2.d r3.d with
      | none => rw [ec'] at q3; exact q3.elim
      | some t =>
        rw [ec'] at q3
        exact ⟨g3, S3, r2.d, r3.d, t, hr3, rv2.rep.ext x3, rv3.rep, ec', q3 _ g3 H3 hr3 ((x1.trans x2).trans x3) (show Is _ _ _ _ from by unfold Is; rfl)⟩
theorem t_chain (kn : Kn X We cl P) {o o' : Cm} {a b c : E} {l r q' : Expr} {pos : Pos} (ha : PE X l (tE X We cl P a)) (hb : PE X r (tE X We cl P b)) (hc : PE X q' (tE X We cl P c)) (hm : lastMarks [o.op, o'.op] [r, q'] = false) :
    PT X (.Compare l [o.op, o'.op] [r, q'] pos) (tT X We cl P (.chain o o' a b c)) := by
  refine PT.imp (pt_chain (cm_ok kn.cok o) (cm_ok kn.cok o') ha hb hc hm) fun σ H Q q => ?_
  obtain ⟨g, env, S, hr, hs, q⟩ := q
  unfold evE at q
  simp only [Out.bind_assoc] at q
  refine useE hr hs q fun r1 S1 v1 g1 H1 hr1 x1 hs1 rv1 q1 => useE hr1 hs1 q1 fun r2 S2 v2 g2 H2 hr2 x2 hs2 rv2 q2 => ?_
  cases ec : o.ev r1.d r2.d with
  | none => rw [ec] at q2; exact q2.elim
  | some t =>
    rw [ec] at q2
    refine ⟨g2, S2, r1.d, r2.d, t, hr2, rv1.rep.ext x2, rv2.rep, ec, t, rfl, ?_⟩
    cases t with
    | false =>
      simp only [Bool.false_eq_true, if_false]
      exact ⟨false, rfl, q2 g2 H2 hr2 (x1.trans x2)⟩
    | true =>
      simp only [if_true]
      have q2 : Wpo (((evE cl P c env S2).bind fun z S => ofOpt ((o'.ev r2.d z.d).map fun b => Rv.fr (.bl b)) S).bind truthR) _ _ := q2
      rw [Out.bind_assoc] at q2
      refine useE hr2 hs2 q2 fun r3 S3 v3 g3 H3 hr3 x3 hs3 rv3 q3 => ?_
      cases ec' : o'.ev r2.d r3.d with
      | none => rw [ec'] at q3; exact q3.elim
      | some t =>
        rw [ec'] at q3
        exact ⟨g3, S3, r2.d, r3.d, t, hr3, rv2.rep.ext x3, rv3.rep, ec', t, rfl, q3 g3 H3 hr3 ((x1.trans x2).trans x3)⟩
theorem e_not {a : E} {y : Expr} {pos : Pos} (h : PE X y (tE X We cl P a)) : PE X (.UnaryOp .Not y pos) (tE X We cl P (.not a)) := by
  refine PE.imp (pe_notT h) fun σ H Q q => ?_
  obtain ⟨g, env, S, hr, hs, q⟩ := q
  unfold evE at q
  refine useE hr hs q fun r1 S1 v1 g1 H1 hr1 x1 hs1 rv1 q1 => ?_
  obtain ⟨b, e, q2⟩ := q1.bind.opt
  exact ⟨b, rep_truth hr1 rv1.rep e, q2 _ g1 H1 hr1 x1 (show Is _ _ _ _ from by unfold Is; rfl)⟩
theorem t_not {a : E} {y : Expr} {pos : Pos} (h : PT X y (tT X We cl P a)) : PT X (.UnaryOp .Not y pos) (tT X We cl P (.not a)) := by
  refine PT.imp (pt_not h) fun σ H Q q => ?_
  obtain ⟨g, env, S, hr, hs, q⟩ := q
  unfold evE at q
  simp only [Out.bind_assoc] at q
  exact useT (kk := fun t S => (Out.ok (Rv.fr (.bl !t)) S).bind truthR) (fun r S => rfl) hr hs q fun b S1 g1 H1 hr1 x1 hs1 q1 => q1 g1 H1 hr1 x1
/-- the value of and, or -/
theorem e_and {a b : E} {l r : Expr} {rest : List Expr} {pos : Pos} (ha : PE X l (tE X We cl P a)) (hb : PE X (.BoolOp .And (r :: rest) pos) (tE X We cl P b)) : PE X (.BoolOp .And (l :: r :: rest) pos) (tE X We cl P (.and a b)) := by
  refine PE.imp (pe_andT ha hb) fun σ H Q q => ?_
  obtain ⟨g, env, S, hr, hs, q⟩ := q
  unfold evE at q
  refine useE hr hs q fun r1 S1 v1 g1 H1 hr1 x1 hs1 rv1 q1 => ?_
  obtain ⟨b, e, q2⟩ := q1.bind.opt
  refine ⟨b, rep_truth hr1 rv1.rep e, ?_⟩
  cases b with
  | true =>
    simp only [if_true]
    exact ⟨g1, env, S1, hr1, hs1, Wpo.mono q2 (fun r2 S2 q3 v2 g2 H2 hr2 x2 rv2 => q3 v2 g2 H2 hr2 (x1.trans x2) (rv2.back x1.hs)) fun _ _ z => z⟩
  | false =>
    simp only [Bool.false_eq_true, if_false]
    exact q2 v1 g1 H1 hr1 x1 rv1
theorem e_or {a b : E} {l r : Expr} {rest : List Expr} {pos : Pos} (ha : PE X l (tE X We cl P a)) (hb : PE X (.BoolOp .Or (r :: rest) pos) (tE X We cl P b)) : PE X (.BoolOp .Or (l :: r :: rest) pos) (tE X We cl P (.or a b)) := by
  refine PE.imp (pe_orT ha hb) fun σ H Q q => ?_
  obtain ⟨g, env, S, hr, hs, q⟩ := q
  unfold evE at q
  refine useE hr hs q fun r1 S1 v1 g1 H1 hr1 x1 hs1 rv1 q1 => ?_
  obtain ⟨b, e, q2⟩ := q1.bind.opt
  refine ⟨b, rep_truth hr1 rv1.rep e, ?_⟩
  cases b with
  | false =>
    simp only [Bool.false_eq_true, if_false]
    exact ⟨g1, env, S1, hr1, hs1, Wpo.mono q2 (fun r2 S2 q3 v2 g2 H2 hr2 x2 rv2 => q3 v2 g2 H2 hr2 (x1.trans x2) (rv2.back x1.hs)) fun _ _ z => z⟩
  | true =>
    simp only [if_true]
    exact q2 v1 g1 H1 hr1 x1 rv1
theorem pw_of {op : BoolOp} {l : List Expr} {pos : Pos} {t : TT} (h : PT X (.BoolOp op l pos) t) : PW X (.BoolOp op l pos) t := ⟨fun whole pins s σ H Q I q => by
  have := h.run pins s σ H Q I q
  rw [PySem.isTrue] at this ⊢
  exact this⟩
theorem t_and {a b : E} {l r : Expr} {rest : List Expr} {pos : Pos} (ha : PT X l (tT X We cl P a)) (hb : PW X (.BoolOp .And (r :: rest) pos) (tT X We cl P b)) : PT X (.BoolOp .And (l :: r :: rest) pos) (tT X We cl P (.and a b)) := by
  refine PT.imp (pw_and ha hb).pt fun σ H Q q => ?_
  obtain ⟨g, env, S, hr, hs, q⟩ := q
  unfold evE at q
  simp only [Out.bind_assoc] at q
  refine useT (kk := fun t S => match t with
    | true => (evE cl P b env S).bind truthR
    | false => .ok false S) (fun r S => ?_) hr hs q fun b S1 g1 H1 hr1 x1 hs1 q1 => ?_
  · unfold truthR
    cases h : r.d.truth with
    | none => rfl
    | some t =>
      cases t with
      | true => rfl
      | false => show ofOpt r.d.truth S = _; rw [h]; rfl
  · cases b with
    | true =>
      simp only [if_true]
      exact ⟨g1, env, S1, hr1, hs1, Wpo.mono q1 (fun r2 S2 q3 g2 H2 hr2 x2 => q3 g2 H2 hr2 (x1.trans x2)) fun _ _ z => z⟩
    | false =>
      simp only [Bool.false_eq_true, if_false]
      exact q1 g1 H1 hr1 x1
theorem t_or {a b : E} {l r : Expr} {rest : List Expr} {pos : Pos} (ha : PT X l (tT X We cl P a)) (hb : PW X (.BoolOp .Or (r :: rest) pos) (tT X We cl P b)) : PT X (.BoolOp .Or (l :: r :: rest) pos) (tT X We cl P (.or a b)) := by
  refine PT.imp (pw_or ha hb).pt fun σ H Q q => ?_
  obtain ⟨g, env, S, hr, hs, q⟩ := q
  unfold evE at q
  simp only [Out.bind_assoc] at q
  refine useT (kk := fun t S => match t with
    | true => .ok true S
    | false => (evE cl P b env S).bind truthR) (fun r S => ?_) hr hs q fun b S1 g1 H1 hr1 x1 hs1 q1 => ?_
  · unfold truthR
    cases h : r.d.truth with
    | none => rfl
    | some t =>
      cases t with
      | false => rfl
      | true => show ofOpt r.d.truth S = _; rw [h]; rfl
  · cases b with
    | false =>
      simp only [Bool.false_eq_true, if_false]
      exact ⟨g1, env, S1, hr1, hs1, Wpo.mono q1 (fun r2 S2 q3 g2 H2 hr2 x2 => q3 g2 H2 hr2 (x1.trans x2)) fun _ _ z => z⟩
    | true =>
      simp only [if_true]
      exact q1 g1 H1 hr1 x1
theorem e_ite {c a b : E} {y l r : Expr} {pos : Pos} (hc : PT X y (tT X We cl P c)) (ha : PE X l (tE X We cl P a)) (hb : PE X r (tE X We cl P b)) : PE X (.IfExp y l r pos) (tE X We cl P (.ite c a b)) := by
  refine PE.imp (pe_ifExp hc ha hb) fun σ H Q q => ?_
  obtain ⟨g, env, S, hr, hs, q⟩ := q
  unfold evE at q
  refine useT (fun r S => rfl) hr hs q fun b S1 g1 H1 hr1 x1 hs1 q1 => ?_
  cases b with
  | true =>
    simp only [if_true]
    exact ⟨g1, env, S1, hr1, hs1, Wpo.mono q1 (fun r2 S2 q3 v2 g2 H2 hr2 x2 rv2 => q3 v2 g2 H2 hr2 (x1.trans x2) (rv2.back x1.hs)) fun _ _ z => z⟩
  | false =>
    simp only [Bool.false_eq_true, if_false]
    exact ⟨g1, env, S1, hr1, hs1, Wpo.mono q1 (fun r2 S2 q3 v2 g2 H2 hr2 x2 rv2 => q3 v2 g2 H2 hr2 (x1.trans x2) (rv2.back x1.hs)) fun _ _ z => z⟩
end
end Gz
end -- GzK
section -- GzEr
set_option maxHeartbeats 4000000
/-! GzEr: [::-1] of a tuple, or of a list. -/
namespace HT
open PySem PySem.Spec PyProof.Rows
section
variable {prog : Program} {w : World} {A : Around} {E : Value → Shared → Prop} {s : Shared}
theorem adjust_rev (n : Nat) : Builtin.Slice.sliceAdjust none none (-1) (n : Int) = ((n : Int) - 1, -1) := rfl
theorem places_rev (n : Nat) : Builtin.Slice.slicePlaces ((n : Int) - 1) (-1) (-1) = n := by
  unfold Builtin.Slice.slicePlaces
  rw [if_neg (by decide)]
  split
  · have : ((n : Int) - 1 - -1 - 1) / (- -1) = (n : Int) - 1 := by
      rw [show (- -1 : Int) = 1 by decide, Int.ediv_one]
      omega
    rw [this]
    omega
  · omega
theorem pick_rev (xs : Array Value) : ((List.range xs.size).filterMap fun (m : Nat) => xs[(((xs.size : Int) - 1) + (m : Int) * (-1)).toNat]?) = xs.toList.reverse := by
  have e : (List.range xs.size).filterMap (fun (m : Nat) => xs[(((xs.size : Int) - 1) + (m : Int) * (-1)).toNat]?) = ((List.range xs.size).map fun k => xs.size - 1 - k).filterMap (xs[·]?) := by
    rw [List.filterMap_map]
    congr 1
    funext m
    have : (((xs.size : Int) - 1) + (m : Int) * (-1)).toNat = xs.size - 1 - m := by omega
    rw [this]
    rfl
  rw [e, PySem.W.krv_range, List.filterMap_reverse, PySem.W.krv_all]
theorem sliceApplied_rev {sl : Addr} {vs : Value} {n : Nat} {Q : Int × Int × Nat → Shared → Prop} (hs : s.heap.IsSliceOf sl .none .none vs) (ps : IsPart vs (some (-1)))
    (h : Q ((n : Int) - 1, -1, n) s) : wpAny (model prog w) A (Builtin.Slice.sliceApplied (.ref sl) (pure (n : Int))) Q E s := by
  obtain ⟨os, hos, hcs, hds⟩ := id hs
  unfold Builtin.Slice.sliceApplied Builtin.Slice.sliceFields
  refine wpAny_bind (wpAny_bind (wpAny_field hos hds (x := .none) rfl (wpAny_bind (wpAny_field hos hds (x := .none) rfl (wpAny_bind (wpAny_field hos hds (x := vs) rfl (wpAny_pure ?_)))))))
  refine wpAny_bind (slicePart_ ps ?_)
  show wpAny _ _ (if ((-1 : Int) == 0) = true then _ else _) _ _ s
  rw [if_neg (by decide)]
  refine wpAny_bind (slicePart_none (wpAny_bind (slicePart_none (wpAny_bind (wpAny_pure ?_)))))
  show wpAny _ _ (match Builtin.Slice.sliceAdjust none none (-1) (n : Int) with | (lo, hi) => pure (lo, (-1 : Int), Builtin.Slice.slicePlaces lo hi (-1))) _ _ s
  rw [adjust_rev n]
  show wpAny _ _ (pure ((n : Int) - 1, (-1 : Int), Builtin.Slice.slicePlaces ((n : Int) - 1) (-1) (-1))) _ _ s
  rw [places_rev]
  exact wpAny_pure h
theorem getItem_tuple_rev {t sl : Addr} {items : Array Value} {vs : Value} {Q : Value → Shared → Prop} (ht : IsTup s.heap t items) (hs : s.heap.IsSliceOf sl .none .none vs) (ps : IsPart vs (some (-1)))
    (h : Q (.ref s.heap.objs.size) { s with heap := s.heap.push { cls := .type "tuple", data := .seq items.toList.reverse.toArray } })
    (hsz : items.size ≤ sizeLine) : wpAny (model prog w) A (getItem (.ref t) (.ref sl)) Q E s := by
  have htake : sizeOk (.seq items.toList.reverse.toArray) := by
    show items.toList.reverse.toArray.size ≤ sizeLine
    rw [List.size_toArray, List.length_reverse, Array.length_toList]
    exact hsz
  obtain ⟨os, hos, hcs, hds⟩ := id hs
  have hTs : s.TypeIs (.ref sl) "slice" := ⟨os, hos, hcs⟩
  unfold getItem
  try with_reducible refine wpAny_holding ?_
  first | refine wpAny_bind (wpAny_pure ?_) | skip
  refine wpAny_bind (wpAny_sequenceKey ht.typeIs (by decide) ?_)
  refine wpAny_bind (wpAny_callSpecial?_slot (name := Str.ofString "__getitem__") ht.typeIs PyProof.Rows.slot_tuple_getitem
    (wpAny_call_entry PyProof.Rows.slot_tuple_getitem ht.typeIs entry_tuple_getitem ?_ (args_tuple_getitem _ _)))
  show wpAny _ _ (Builtin.Tuple.tupleItemsOf (.ref t) >>= _) _ _ s
  refine wpAny_bind (tupleItemsOf_ ht ?_)
  refine wpAny_bind (wpAny_typeOf hTs ?_)
  rw [if_pos (by decide)]
  refine wpAny_bind (sliceApplied_rev hs ps ?_)
  have hno : ¬ ((((items.size : Int) - 1) == 0 && (-1 : Int) == 1 && items.size == items.size) = true) := by
    rw [show ((-1 : Int) == 1) = false by decide, Bool.and_false, Bool.false_and]
    exact Bool.false_ne_true
  show wpAny _ _ (if ((((items.size : Int) - 1) == 0 && (-1 : Int) == 1 && items.size == items.size) = true) then _ else _) _ _ s
  rw [if_neg hno, pick_rev]
  first
    | exact wpAny_bind (m := Builtin.Tuple.tupleExact _) (wpAny_newObj_type (wpAny_pure ⟨_, rfl, wpAny_pure h⟩) htake)
    | exact wpAny_bind (m := Builtin.Tuple.tupleExact _) (wpAny_newObj_type (wpAny_bind (wpAny_pure (wpAny_pure ⟨_, rfl, wpAny_pure h⟩))) htake)
    | exact wpAny_bind (wpAny_bind (m := Builtin.Tuple.tupleExact _) (wpAny_newObj_type (wpAny_pure (wpAny_pure ⟨_, rfl, wpAny_pure h⟩)) htake))
    | exact wpAny_bind (wpAny_bind (m := Builtin.Tuple.tupleExact _) (wpAny_newObj_type (wpAny_pure ⟨_, rfl, wpAny_pure h⟩) htake))
end
end HT
namespace L2
open PySem PySem.Spec PyProof.Rows
section
variable {X : Cx}
def tRevA (K : PySem.W.Frag) (te : TE) : TE := fun σ H Q => te σ H fun x H1 => ∃ a xs, x = .ref a ∧ ((SqL K H1 a xs ∧ ∀ p, H1 p = none → Q (.ref p) (upd H1 p (.lst xs.reverse))) ∨ (SqT K H1 a xs ∧ ∀ p, H1 p = none → Q (.ref p) (upd H1 p (.tup xs.reverse))))
theorem pe_revA {e : Expr} {te : TE} {k : Nat} {p1 p2 p3 pos : Pos} (he : PE X e te) : PE X (.Subscript e (.Slice none none (some (.UnaryOp .USub (.Constant (.int 1) k p1) p2)) p3) pos) (tRevA X.K te) := by
  refine ⟨fun pins s σ H Q I h => ?_⟩
  refine Subscript_ (thn (he.run pins s σ H _ I h) fun v s1 ⟨x, H1, I1, r1, q1⟩ => ?_)
  obtain ⟨a, xs, ex, q0⟩ := q1
  subst ex
  cases r1
  have hst : PO X (some (.UnaryOp .USub (.Constant (.int 1) k p1) p2)) (tPart (tUn (rU fun i => .int (-i)) (tC (.int 1)))) := po_some (pe_un un_neg pe_int)
  refine wpAny_Slice (thn (po_none.run pins s1 σ H1 (fun o H2 => o = none ∧ H2 = H1) I1 ⟨rfl, rfl⟩) fun vl s2 ⟨l, H2, I2, pl, el, e2⟩ => ?_)
  subst el e2
  refine thn (po_none.run pins s2 σ H2 (fun o H3 => o = none ∧ H3 = H2) I2 ⟨rfl, rfl⟩) fun vu s3 ⟨u, H3, I3, pu, eu, e3⟩ => ?_
  subst eu e3
  refine thn (hst.run pins s3 σ H3 (fun o H4 => o = some (-1) ∧ H4 = H3) I3 ⟨1, rfl, -1, rfl, rfl, rfl⟩) fun vs s4 ⟨o, H4, I4, ps, eo, e4⟩ => ?_
  subst eo e4
  have I5 : Inv X pins σ H4 { s4 with heap := s4.heap.push { cls := .type "slice", data := .fields #[vl, vu, vs] } } := I4.kept (t' := s4.toks) fun b ob q => Heap.get?_push_of_some _ q
  show wpAny (model X.prog X.w) X.A (subscriptTail e (.Slice none none (some (.UnaryOp .USub (.Constant (.int 1) k p1) p2)) p3) (.ref a) (.ref s4.heap.objs.size)) (EP X pins σ Q) X.xe { s4 with heap := s4.heap.push { cls := .type "slice", data := .fields #[vl, vu, vs] } }
  rcases q0 with ⟨hx, q⟩ | ⟨hx, q⟩
  · obtain ⟨its, r, ht, hz⟩ := I5.list hx
    have hlen := r.length
    refine tail_any (ops := [.ref a, .ref s4.heap.objs.size]) ht.isList.typeIs (PySem.slot_list_getitem.lookup) ?_ (by with_unfolding_all rfl)
    refine wpAny_getItem_list_slice ht.isList (Heap.IsSliceOf.new _ vl vu vs) pl pu ps (by decide) ?_ (by rw [List.size_toArray]; omega)
    rw [PySem.W.krv_pick]
    refine ⟨.ref _, _, I5.laid (t' := s4.toks) (o := .lst xs.reverse) (fun b ob q => Heap.get?_push_of_some _ q) (Nat.le_refl _) ?_, rfl, q _ (I5.hok.fresh (Nat.le_refl _))⟩
    exact ⟨by rw [List.length_reverse]; exact hz, _, 0, r.reverse, Heap.get?_push_size _ rfl⟩
  · obtain ⟨its, r, ht, hz⟩ := I5.tuple hx
    have hlen := r.length
    cases pl
    cases pu
    refine tail_any (ops := [.ref a, .ref s4.heap.objs.size]) ht.typeIs (PyProof.Rows.slot_tuple_getitem.lookup) ?_ (by with_unfolding_all rfl)
    refine HT.getItem_tuple_rev ht (Heap.IsSliceOf.new _ .none .none vs) ps ?_ (by rw [List.size_toArray]; omega)
    refine ⟨.ref _, _, I5.laid (t' := s4.toks) (o := .tup xs.reverse) (fun b ob q => Heap.get?_push_of_some _ q) (Nat.le_refl _) ?_, rfl, q _ (I5.hok.fresh (Nat.le_refl _))⟩
    exact ⟨by rw [List.length_reverse]; exact hz, _, r.reverse, IsTup.new _ _⟩
end
end L2
end -- GzEr
section -- GzEt
/-! GzEt: the set of the items of a list, keys of any kind; len(set(xs)). -/
namespace SX
open PySem PySem.Spec PyProof.Rows L2
section
variable {K : Type} [DecidableEq K]
theorem mem_met (acc : List K) (k k' : K) : k' ∈ met acc k ↔ k' ∈ acc ∨ k' = k := by
  unfold met
  by_cases h : k ∈ acc
  · rw [if_pos h]; exact ⟨.inl, fun q => q.elim id fun e => e ▸ h⟩
  · rw [if_neg h]; simp
theorem len_met (acc : List K) (k : K) : (met acc k).length = if k ∈ acc then acc.length else acc.length + 1 := by
  unfold met
  by_cases h : k ∈ acc
  · rw [if_pos h, if_pos h]
  · rw [if_neg h, if_neg h]; simp
theorem fold_le (l : List K) : ∀ acc : List K, (l.foldl met acc).length ≤ acc.length + l.length := by
  induction l with
  | nil => intro acc; simp
  | cons k l ih =>
    intro acc
    have := ih (met acc k)
    have h2 := len_met acc k
    simp only [List.foldl_cons, List.length_cons]
    split at h2 <;> omega
theorem dd_le (l : List K) : (dd l).length ≤ l.length := by simpa [dd] using fold_le l []
theorem dd_step (l : List K) (k : K) (i : Nat) (h : l[i]? = some k) : dd (l.take (i + 1)) = met (dd (l.take i)) k := by
  unfold dd
  rw [List.take_add_one, h]
  simp
end
section
variable {prog : Program} {w : World} {K : Type} [DecidableEq K] {knd : KeyKind prog w K}
theorem setOf_like {h : Heap} {a : Addr} {S S' : K → Bool} {n n' : Nat} (hS : h.SetOf knd a S n) (e1 : S = S') (e2 : n = n') : h.SetOf knd a S' n' := e1 ▸ e2 ▸ hS
theorem setOf_moved {h h' : Heap} {a : Addr} {S : K → Bool} {n : Nat} (hS : h.SetOf knd a S n) (k : ∀ o, h.get? a = some o → h'.get? a = some o) : h'.SetOf knd a S n :=
  let ⟨o, es, ep, t, ho, r⟩ := hS
  ⟨o, es, ep, t, k o ho, r⟩
/-- the turns of set.update: item by item, the keys met -/
theorem update_turns {A : Around} {R : Result → Shared → Prop} {I : Addr} {fp wr : List Addr} {G : Array GenState → Array GenState → Prop} {n : Nat} {P : Nat → Value → Prop} {St : Nat → Shared → Prop}
    (W : WalksS prog w A.in1 I fp wr G n P St) (a : Addr) (ha : a ∉ fp) (ks : List K) (hn : ks.length = n) (hb : n + 1 < scanBound)
    (hv : ∀ i v, P i v → ∃ k, ks[i]? = some k ∧ knd.is k v = true ∧ v.scannable = true) :
    ∀ (left i : Nat) (s : Shared), i + left = n → St i s → s.heap.SetOf knd a (fun k => decide (k ∈ dd (ks.take i))) (dd (ks.take i)).length →
      (∀ s', Moved (a :: wr) G s s' → s'.heap.SetOf knd a (fun k => decide (k ∈ dd ks)) (dd ks).length → R (.ok (.ret .none)) s') →
      codeAny (model prog w) A (.builtin "set.update.loop" ⟨[.ref a, .ref I], []⟩) R s
  | left, i, s, hi, hst, hS, hR => by
    have hw : a ∉ wr := fun h => ha (W.sub _ h)
    have mono : ∀ b ∈ wr, b ∈ a :: wr := fun b => List.mem_cons_of_mem _
    refine codeAny_builtin PyProof.Rows.F.entry_set_update_loop (Around.under_plainId PyProof.Rows.F.plain_set_update_loop _ ▸ ?_)
    cases left with
    | zero =>
      have hin : i = n := hi
      refine wpAny_bind (m := pyNext (.ref I)) (W.done s _ _ (hin ▸ hst) fun s' hm => ?_)
      refine wpAny_pure ?_
      have e : ks.take i = ks := List.take_of_length_le (by omega)
      rw [e] at hS
      exact hR s' (hm.mono mono) (setOf_moved hS fun o => hm.heap a o hw)
    | succ left =>
      refine wpAny_bind (m := pyNext (.ref I)) (W.item i s _ _ (by omega) hst fun v s1 hP hst1 hm => ?_)
      obtain ⟨k, hk, his, hsc⟩ := hv i v hP
      have hS1 : s1.heap.SetOf knd a (fun k => decide (k ∈ dd (ks.take i))) (dd (ks.take i)).length := setOf_moved hS fun o => hm.heap a o hw
      have room : (dd (ks.take i)).length + 1 < scanBound := by
        have := dd_le (ks.take i)
        have := List.length_take_le i ks
        rw [List.length_take] at *
        omega
      refine wpAny_bind (m := holding [v] (setAdd a v)) (wpAny_holding ?_)
      unfold setAdd
      refine wpAny_holding (wpAny_bind (knd.pyHash his ?_))
      refine wpAny_setAddHashed_of (s := { s1 with toks := s1.toks + 1 }) his hsc hS1 room fun h2 same hS2 => ?_
      have hS3 : h2.SetOf knd a (fun k => decide (k ∈ dd (ks.take (i + 1)))) (dd (ks.take (i + 1))).length := by
        refine setOf_like hS2 (funext fun k' => ?_) ?_
        · simp [dd_step ks k i hk, mem_met]
        · rw [dd_step ks k i hk, len_met]; simp
      refine wpAny_pure ⟨plainId_quiet PyProof.Rows.F.plain_set_update_loop _, update_turns W a ha ks hn hb hv left (i + 1) _ (by omega) (W.frame _ s1 _ _ hst1 (Nat.le_succ _) fun b m o q => ?_) hS3 fun s3 hm3 hS4 => hR s3 (Moved.trans W.gtrans ((hm.mono mono).then_heap (Nat.le_succ _) fun b o m q => ?_) hm3) hS4⟩
      · exact (same.2 b fun e => ha (e ▸ m)).trans q
      · exact (same.2 b fun e => m (e ▸ List.mem_cons_self)).trans q
/-- what set(..) of a list leaves -/
def Made (prog : Program) (w : World) (knd : KeyKind prog w K) (ks : List K) (s s' : Shared) : Prop :=
  ∃ h tk, s' = { s with heap := h, toks := tk } ∧ h.SetOf knd s.heap.objs.size (fun k => decide (k ∈ dd ks)) (dd ks).length ∧ ∀ b o, s.heap.get? b = some o → h.get? b = some o
def bare (led : Bool) : Obj := { cls := .type "set", dict := none, data := .set #[] 0 (.fresh 0 0 led) }
/-- a new set is filled with a list's items -/
theorem init_list {A : Around} {E : Value → Shared → Prop} {s : Shared} {l : Addr} {items : Array Value} {ks : List K} {led : Bool} {Q : PySem.Fin → Shared → Prop} (hh : A.handled = none) (hl : s.heap.IsList l items) (hn : ks.length = items.size) (hb : items.size + 1 < scanBound)
    (hv : ∀ (i : Nat) v, items[i]? = some v → ∃ k, ks[i]? = some k ∧ knd.is k v = true ∧ v.scannable = true)
    (h : ∀ s', Made prog w knd ks s s' → Q (.done (.ret .none)) s') :
    wpAny (model prog w) A (Builtin.«set.__init__» ⟨[.ref s.heap.objs.size, .ref l], []⟩) Q E { s with heap := s.heap.push (bare led) } := by
  have ⟨ol, hol, hcl, nl, hdl⟩ := hl
  have new : (s.heap.push (bare led)).get? s.heap.objs.size = some (bare led) := Heap.get?_push_size _ rfl
  have hl1 : (s.heap.push (bare led)).IsList l items := hl.push _
  have ⟨o1, ho1, hc1, n1, hd1⟩ := hl1
  obtain ⟨oc, od, odt, os⟩ := o1
  simp only at hc1 hd1
  subst hc1 hd1
  have f1 := PySem.F.sub_list_set
  have f2 := PySem.F.sub_list_frozenset
  have f3 : (Value.type "list" == Value.type "dict") = false := by decide
  unfold Builtin.«set.__init__» noKeywords Builtin.Frozenset.updateFrom
  generalize e : pyIter = it
  unfold bare at *
  wp_walk
  subst e
  have lt : l < s.heap.objs.size := Heap.lt_size hol
  refine wpAny_pyIter_list hl1 (wpAny_bind (wpAny_runValue ?_))
  have sz : (s.heap.push { cls := .type "set", dict := none, data := .set #[] 0 (.fresh 0 0 led) }).objs.size = s.heap.objs.size + 1 := by rw [Heap.size_push]
  have out : s.heap.objs.size ∉ [(s.heap.push { cls := .type "set", dict := none, data := .set #[] 0 (.fresh 0 0 led) }).objs.size, l] := by
    rw [sz]
    simp only [List.mem_cons, List.not_mem_nil, or_false, not_or]
    exact ⟨Nat.ne_of_lt (Nat.lt_succ_self _), Nat.ne_of_gt lt⟩
  refine update_turns (knd := knd) (Walks.list (by simp [hh]) _ l (by rw [sz]; exact Nat.ne_of_lt (Nat.lt_succ_of_lt lt)) items).toS s.heap.objs.size out ks hn hb hv items.size 0 _ (Nat.zero_add _) ⟨⟨_, Heap.get?_push_size _ rfl, rfl, rfl⟩, hl1.push _⟩ ?_ fun s' hm hS => ?_
  · have at' := Heap.get?_push_of_some { cls := .type "list_iterator", data := .fields #[.ref l, .int 0 0] } new
    have z := (PyProof.Rows.setObjOf_fresh (knd := knd) led).setOf at' (by unfold scanBound; decide)
    refine setOf_like z (funext fun k => ?_) ?_
    · simp [dd]
    · simp [dd]
  · obtain ⟨h', g', d', t', os'⟩ := s'
    have e1 : g' = s.gens := hm.gens
    have e2 : d' = s.drawn := hm.drawn
    have e3 : os' = s.os := hm.os
    subst e1 e2 e3
    refine wpAny_pure (wpAny_pure (h _ ⟨h', t', rfl, hS, fun b o q => ?_⟩))
    have bl := Heap.lt_size q
    refine hm.heap b o ?_ (Heap.get?_push_of_some _ (Heap.get?_push_of_some _ q))
    rw [sz]
    simp only [List.mem_cons, List.not_mem_nil, or_false, not_or]
    exact ⟨Nat.ne_of_lt bl, Nat.ne_of_lt (Nat.lt_succ_of_lt bl)⟩
/-- set(xs) of a list -/
theorem set_list {A : Around} {E : Value → Shared → Prop} {s : Shared} {l : Addr} {items : Array Value} {ks : List K} {Q : Value → Shared → Prop} (hh : A.handled = none) (hl : s.heap.IsList l items) (hn : ks.length = items.size) (hb : items.size + 1 < scanBound)
    (hv : ∀ (i : Nat) v, items[i]? = some v → ∃ k, ks[i]? = some k ∧ knd.is k v = true ∧ v.scannable = true)
    (h : ∀ s', Made prog w knd ks s s' → Q (.ref s.heap.objs.size) s') : wpAny (model prog w) A (call (.type "set") [.ref l]) Q E s := by
  have ⟨_, _, m0⟩ := PySem.F.called_set.mro
  have m1 := PySem.F.called_set.made
  have m2 := PySem.F.called_set.sub
  have m3 := PySem.F.called_set.notType
  have m4 := PySem.F.called_set.canCreate
  have m5 := PySem.F.typeCall_set_1 (.ref l)
  refine wpAny_call (codeAny_of_tree (wpAny_pure (M := model prog w) ⟨Code.quiet_builtin _ (by decide +kernel), codeAny_builtin PySem.F.entry_type_call ?_⟩))
  rw [Around.under_plain (weight_type_call_type "set" [.ref l] []) rfl]
  repeat (any_goals (first | assumption | wp_step))
  refine codeAny_mono (code_set_new_1 (.ref l) (E := E) (Q₁ := fun v s1 => ∃ led, v = .ref s.heap.objs.size ∧ s1 = { s with heap := s.heap.push (bare led) }) fun led => ⟨led, rfl, rfl⟩) ?_
  rintro (er | fl) s1 hr
  · exact hr
  cases fl <;> try exact hr.elim
  obtain ⟨led, rfl, rfl⟩ := hr
  have hT : Shared.TypeIs { s with heap := s.heap.push (bare led) } (.ref s.heap.objs.size) "set" := ⟨_, Heap.get?_push_size _ rfl, rfl⟩
  have m6 := PySem.F.called_set.init.lookup
  have m7 := PySem.F.called_set.init.bind (.ref s.heap.objs.size)
  repeat (any_goals (first | assumption | wp_step))
  refine codeAny_mono (codeAny_call_builtin (R := wants (fun r s2 => r = .none ∧ Made prog w knd ks s s2) E) PySem.F.called_set.init.plain PySem.F.entry_set_init (check_set_init_1 hT (init_list (knd := knd) (by simp [hh]) hl hn hb hv fun s2 m => ⟨rfl, m⟩))) ?_
  rintro (er | fl) s2 hr
  · exact hr
  cases fl <;> try exact hr.elim
  obtain ⟨rfl, hm⟩ := hr
  have q := h s2 hm
  repeat (any_goals (first | assumption | wp_step))
end
end SX
namespace Gz
open PySem PySem.Spec PyProof.Rows L2
section
variable {X : Cx}
/-- len(set(xs)), xs a list of texts -/
def tLenS (K : PySem.W.Frag) (ta : TE) : TE := fun σ H Q => ta σ H fun x H1 => ∃ l ss, x = .ref l ∧ SqL K H1 l (ss.map V.str) ∧ ss.length ≤ 1000 ∧ Q (.int (SX.dd ss).length) H1
theorem strs_val : ∀ {ss : List Str} {us : List Value}, Vals (ss.map V.str) us → ∀ (i : Nat) v, us[i]? = some v → ∃ k, ss[i]? = some k ∧ (PySem.strKind X.prog X.w).is k v = true ∧ v.scannable = true
  | [], _, .nil, i, v, h => by cases h
  | y :: ss, _, .cons ⟨t, e⟩ r, 0, v, h => by
    cases h
    exact ⟨y, rfl, by rw [e]; exact PySem.strKind_is _ _ _ _, by rw [e]; rfl⟩
  | y :: ss, _, .cons _ r, i + 1, v, h => strs_val r i v h
theorem pe_lenS {a : Expr} {ta : TE} {p p2 q pos : Pos} (hc : X.calm = true) (hg : Gl X "len") (hm : X.mg "len" = none) (hg2 : Gl X "set") (hm2 : X.mg "set" = none) (ha : PE X a ta) (st : starEach [a] X.env = (false, eval a X.env) :: starEach [] X.env) :
    PE X (.Call (.Name "len" p) [.Call (.Name "set" p2) [a] [] q] [] pos) (tLenS X.K ta) := by
  refine ⟨fun pins s σ H Q I h => Call_ (ld_blt I hg hm boot_len (PyProof.Rows.callWith_builtin1 (PyProof.Rows.args_cons ?_ rfl) rfl rfl))⟩
  refine Call_ (ld_blt I hg2 hm2 boot_set (PyProof.Rows.callWith_type1 (PyProof.Rows.args_cons (thn (ha.run pins s σ H _ I h) ?_) st) st rfl))
  rintro v s1 ⟨x, H1, I1, r1, l, ss, rfl, hs, h1, q1⟩
  cases r1
  obtain ⟨its, r, pl, hz⟩ := I1.list hs
  have len : its.length = ss.length := by rw [← r.length, List.length_map]
  refine PyProof.Rows.args_nil (SX.set_list (knd := PySem.strKind X.prog X.w) (I1.ok.hd hc) pl.isList (ks := ss) (by simp [len]) (by rw [List.size_toArray, len]; unfold scanBound; omega) (fun i v e => strs_val r i v (by simpa using e)) ?_)
  rintro s2 ⟨h2, tk, rfl, hS, kp⟩
  obtain ⟨o, es, ep, t, ho, hx, hd, _, _, _, hf, hn⟩ := hS
  have le := SX.dd_le ss
  exact PyProof.Rows.args_nil (call_len_set ho hx hd hf (by rw [hn]; omega) ⟨.int (SX.dd ss).length, H1, (I1.kept (h' := h2) (t' := tk) kp).tok _, ⟨_, by rw [hn]⟩, q1⟩)
end
end Gz
end -- GzEt
section -- GzEc
/-! GzEc: xs.count(x). -/
namespace Gz
open PySem PySem.Spec PyProof.Rows L2
section
variable {X : Cx}
def rCountD (K : PySem.W.Frag) : V → List V → Hp → VK → Prop := fun x xs H Q => ∃ (a : Addr) (y : V) (d : PyData) (ds : List PyData), x = V.ref a ∧ xs = [y] ∧ Dp K H (V.ref a) (.list ds) ∧ Dp K H y d ∧
  SeqAt.shaped (.list ds) = true ∧ SeqAt.shaped d = true ∧ Q (.int (ds.countP fun z => PyData.eqv z d : Nat)) H
theorem mt_countD (hu : X.A.units + 65 < cLine) : MtR X "list.count" (rCountD X.K) := by
  intro pins s σ H x xs v us Q I rx rxs h
  obtain ⟨a, y, d, ds, rfl, rfl, hl, hy, sl, sd, q⟩ := h
  cases rx
  cases rxs with
  | cons ry rt =>
    rename_i uy ut
    cases rt
    obtain ⟨bs, r1⟩ := Dp.reads I d y uy hy ry
    have hxs : PyData.canLayAll0 ds = true := SeqAt.canLay_of_shaped sl
    have hroom : X.A.units + 1 + min (PyData.depthAll ds) d.depth < cLine := room_in_shaped sd hu
    cases hl with
    | lst hs ha =>
      obtain ⟨its, rv, ⟨⟨cls, dd, data, sls⟩, n, ho, hc, hdn, hdt⟩, hlen⟩ := I.list hs
      simp only at hc hdt
      subst hc hdt
      obtain ⟨as, h4⟩ := Dp.readsAll I ds _ its ha rv
      have hmap : its.map (SeqAt.readOf s.heap) = ds := SeqAt.readsAll_map ds its as hxs h4
      have hcnt : its.toArray.toList.countP (fun u => PyData.eqv (SeqAt.readOf s.heap u) d) = ds.countP fun z => PyData.eqv z d := by
        rw [← hmap, List.countP_map]
        rfl
      refine call_meets PySem.F.slot_list_count ⟨_, ho, rfl⟩ PySem.F.entry_list_count (PySem.F.args_list_count_2 _ _)
        (SeqAt.list_countAt a its.toArray n dd sls uy (fun u => PyData.eqv (SeqAt.readOf s.heap u) d)) ⟨ho, SeqAt.items_eqAt (vs := its.toArray) (show ReadsAll s.heap its.toArray.toList ds as from h4) r1 hxs (SeqAt.canLay_of_shaped sd) hroom, ?_⟩
      rw [hcnt]
      exact ⟨.int (ds.countP fun z => PyData.eqv z d : Nat), H, I.tok _, ⟨_, rfl⟩, q⟩
theorem oks_mem : ∀ (n : Nat) (l : List D), D.oks n l = true → ∀ x ∈ l, x.okq n = true := fun n l => by
  induction l with
  | nil => intro _ x hx; cases hx
  | cons y l ih =>
    intro hq x hx
    have hq' : y.okq n = true ∧ D.oks n l = true := by simpa [D.oks] using hq
    rcases List.mem_cons.mp hx with rfl | hx
    · exact hq'.1
    · exact ih hq'.2 x hx
theorem count_py {a : D} (qa : a.okq 60 = true) : ∀ l : List D, D.oks 60 l = true → ((D.pys l).countP fun z => PyData.eqv z a.py) = l.countP fun z => z.eqb a := fun l q => by
  rw [D.pys_map, List.countP_map]
  refine List.countP_congr fun x hx => ?_
  show PyData.eqv x.py a.py = true ↔ x.eqb a = true
  rw [eqv_py 60 60 _ _ (oks_mem 60 l q x hx) qa]
theorem lcount_ok (c : Cok X) : MtR X "list.count" (tMt (wx X) .count) := by
  intro pins s σ H x xs v us Q I rx rxs h
  have hu := c.un
  obtain ⟨g, S, d, ds, r, hr, hx, hxs, e, f⟩ := h
  match d, ds, e with
  | .lst l, [a], e =>
    obtain ⟨w, rfl, h1⟩ := hxs.one
    simp only [Mt.ev] at e
    split at e
    · rename_i q
      rw [Bool.and_eq_true] at q
      cases e
      obtain ⟨p, ys, rfl, s1, i1⟩ := hx.lst hr
      refine mt_countD (by omega) pins s σ H _ _ v us Q I rx rxs ⟨p, w, a.py, D.pys l, rfl, rfl, .lst (SqL.of s1) (Is.dps hr.fh 60 l ys q.2 i1), h1.dp hr q.1, oks_shapedL q.2, okq_shaped q.1, ?_⟩
      rw [count_py q.1 l q.2]
      exact f.plain hr (by unfold Is; rfl)
    · cases e
end
end Gz
end -- GzEc
section -- GzL
/-! GzL: each form of an expression, calls. -/
namespace Gz
open PySem PySem.Spec PyProof.Rows L2 RZ
section
variable {X : Cx} {We : WX} {cl : Calls} {P : Prog}
theorem a_nil : PA X [] (tEs X We cl P .nil) ∧ PA X [] (tXs X We cl P .nil) := by
  constructor
  · refine PA.imp pa_nil fun σ H Q q => ?_
    obtain ⟨g, env, S, hr, hs, q⟩ := q
    unfold evEs at q
    exact q [] g H hr (Ext.refl _ _) .nil
  · refine PA.imp pa_nil fun σ H Q q => ?_
    obtain ⟨g, env, S, hr, hs, q⟩ := q
    unfold evXs at q
    exact q [] g H hr (Ext.refl _ _) (show Reps _ _ _ _ _ from by unfold Reps; rfl)
theorem Reps.ext {W : Wx} {g g' : Gh} {H H' : Hp} (x : Ext g H g' H') : ∀ {ds : List D} {vs : List V}, Reps W g H ds vs → Reps W g' H' ds vs
  | [], _, h => by unfold Reps at h ⊢; exact h
  | d :: ds, _, h => by
    unfold Reps at h ⊢
    obtain ⟨v, r, rfl, h1, h2⟩ := h
    exact ⟨v, r, rfl, h1.ext x, Reps.ext x h2⟩
theorem a_cons {e : E} {es : Es} {x : Expr} {xs : List Expr} (hs : notStar x = true) (h : PE X x (tE X We cl P e)) (t : PA X xs (tEs X We cl P es)) (t' : PA X xs (tXs X We cl P es)) : PA X (x :: xs) (tEs X We cl P (.cons e es)) ∧ PA X (x :: xs) (tXs X We cl P (.cons e es)) := by
  constructor
  · refine PA.imp (pa_cons h t (star1 hs _)) fun σ H Q q => ?_
    obtain ⟨g, env, S, hr, hs, q⟩ := q
    unfold evEs at q
    refine ⟨g, env, S, hr, hs, q.bind.mono (fun r1 S1 q1 v1 g1 H1 hr1 x1 rv1 => ?_) fun _ _ z => z⟩
    obtain ⟨d, ed, q3⟩ := q1.bind.opt
    obtain ⟨g2, hr2, x2, hd⟩ := holdE hr1 x1 rv1 ed
    refine useEs (k := fun ds S => .ok (d :: ds) S) hr2 (hs.ext x2) (Wpo.mono q3 (fun _ _ z => z) fun _ _ z => EEx.step x2 z) fun ds S2 vs g3 H3 hr3 x3 hs3 il q4 => ?_
    exact q4 _ g3 H3 hr3 (x2.trans x3) (.cons (hd.mono x3.le) il)
  · refine PA.imp (pa_cons h t' (star1 hs _)) fun σ H Q q => ?_
    obtain ⟨g, env, S, hr, hs, q⟩ := q
    unfold evXs at q
    refine useE hr hs q fun r1 S1 v1 g1 H1 hr1 x1 hs1 rv1 q1 => useXs hr1 hs1 q1 fun ds S2 vs g2 H2 hr2 x2 hs2 rs q2 => ?_
    exact q2 _ g2 H2 hr2 (x1.trans x2) (show Reps _ _ _ _ _ from by unfold Reps; exact ⟨v1, vs, rfl, rv1.rep.ext x2, rs⟩)
/-- a tuple, a list that is written -/
theorem e_tup {es : Es} {xs : List Expr} {k : Nat} {pos : Pos} (h : PA X xs (tEs X We cl P es)) (hl : es.len ≤ 1000) : PE X (.Tuple xs k pos) (tE X We cl P (.tup es)) := by
  refine PE.imp (pe_tup h) fun σ H Q q => ?_
  obtain ⟨g, env, S, hr, hs, q⟩ := q
  unfold evE at q
  refine useZn (fz := true) hr hs q fun ds S1 vs g1 H1 hlen hr1 x1 hs1 il q1 => ?_
  have il : IsL (wx X) g1 ds vs := il
  refine ⟨?_, fun p np => Fin.tup hr1 (finE x1 q1) il p np⟩
  rw [il.length, hlen, sizeLine_eq]
  omega
theorem e_lst {es : Es} {xs : List Expr} {pos : Pos} (h : PA X xs (tEs X We cl P es)) (hl : es.len ≤ 1000) : PE X (.List xs pos) (tE X We cl P (.lst es)) := by
  refine PE.imp (pe_lst h) fun σ H Q q => ?_
  obtain ⟨g, env, S, hr, hs, q⟩ := q
  unfold evE at q
  refine useZn (fz := true) hr hs q fun ds S1 vs g1 H1 hlen hr1 x1 hs1 il q1 => ?_
  have il : IsL (wx X) g1 ds vs := il
  refine ⟨?_, fun p np => Fin.lst hr1 (finE x1 q1) il p np⟩
  rw [il.length, hlen, sizeLine_eq]
  omega
theorem e_idx {a i : E} {l r : Expr} {pos : Pos} (ha : PE X l (tE X We cl P a)) (hb : PE X r (tE X We cl P i)) (hp : plainB r = true) : PE X (.Subscript l r pos) (tE X We cl P (.idx a i)) := by
  refine PE.imp (pe_ix ix_ok ha hb (plainB_ok hp)) fun σ H Q q => ?_
  obtain ⟨g, env, S, hr, hs, q⟩ := q
  unfold evE at q
  refine useE hr hs q fun r1 S1 v1 g1 H1 hr1 x1 hs1 rv1 q1 => useE hr1 hs1 q1 fun r2 S2 v2 g2 H2 hr2 x2 hs2 rv2 q2 => ?_
  cases e : idxEv r1.d r2.d with
  | none => rw [e] at q2; exact q2.elim
  | some d =>
    rw [e] at q2
    exact ⟨g2, S2, r1.d, r2.d, d, hr2, rv1.rep.ext x2, rv2.rep, e, finE (x1.trans x2) q2⟩
theorem slEv_lo {a : D} {d : D} {hi : Option D} {r : Rv} (h : slEv a (some d) hi = some r) : ∃ i, d = .int i := by
  cases d <;> first | exact ⟨_, rfl⟩ | (simp [slEv, D.intO] at h; done)
theorem slEv_hi {a : D} {d : D} {lo : Option D} {r : Rv} (h : slEv a lo (some d) = some r) : ∃ i, d = .int i := by
  cases d <;> first | exact ⟨_, rfl⟩ | (unfold slEv at h; cases e : D.intO lo <;> (rw [e] at h; cases h))
theorem e_slL {a i : E} {l r : Expr} {p2 pos : Pos} (ha : PE X l (tE X We cl P a)) (hb : PE X r (tE X We cl P i)) : PE X (.Subscript l (.Slice (some r) none none p2) pos) (tE X We cl P (.slL a i)) := by
  refine PE.imp (pe_slice sl_ok ha (po_some hb) po_none) fun σ H Q q => ?_
  obtain ⟨g, env, S, hr, hs, q⟩ := q
  unfold evE at q
  refine useE hr hs q fun r1 S1 v1 g1 H1 hr1 x1 hs1 rv1 q1 => useE hr1 hs1 q1 fun r2 S2 v2 g2 H2 hr2 x2 hs2 rv2 q2 => ?_
  obtain ⟨r, e, q3⟩ := q2.opt
  obtain ⟨i, ei⟩ := slEv_lo e
  have rp := rv2.rep
  rw [ei] at rp
  cases rp.int
  exact ⟨i, rfl, g2, S2, r1.d, r, hr2, rv1.rep.ext x2, by rw [ei] at e; exact e, finE (x1.trans x2) q3⟩
theorem e_slU {a i : E} {l r : Expr} {p2 pos : Pos} (ha : PE X l (tE X We cl P a)) (hb : PE X r (tE X We cl P i)) : PE X (.Subscript l (.Slice none (some r) none p2) pos) (tE X We cl P (.slU a i)) := by
  refine PE.imp (pe_slice sl_ok ha po_none (po_some hb)) fun σ H Q q => ?_
  obtain ⟨g, env, S, hr, hs, q⟩ := q
  unfold evE at q
  refine useE hr hs q fun r1 S1 v1 g1 H1 hr1 x1 hs1 rv1 q1 => useE hr1 hs1 q1 fun r2 S2 v2 g2 H2 hr2 x2 hs2 rv2 q2 => ?_
  obtain ⟨r, e, q3⟩ := q2.opt
  obtain ⟨i, ei⟩ := slEv_hi e
  have rp := rv2.rep
  rw [ei] at rp
  cases rp.int
  exact ⟨i, rfl, g2, S2, r1.d, r, hr2, rv1.rep.ext x2, by rw [ei] at e; exact e, finE (x1.trans x2) q3⟩
theorem e_slB {a i j : E} {l r q' : Expr} {p2 pos : Pos} (ha : PE X l (tE X We cl P a)) (hb : PE X r (tE X We cl P i)) (hc : PE X q' (tE X We cl P j)) : PE X (.Subscript l (.Slice (some r) (some q') none p2) pos) (tE X We cl P (.slB a i j)) := by
  refine PE.imp (pe_slice sl_ok ha (po_some hb) (po_some hc)) fun σ H Q q => ?_
  obtain ⟨g, env, S, hr, hs, q⟩ := q
  unfold evE at q
  refine useE hr hs q fun r1 S1 v1 g1 H1 hr1 x1 hs1 rv1 q1 => useE hr1 hs1 q1 fun r2 S2 v2 g2 H2 hr2 x2 hs2 rv2 q2 => ?_
  have q2 := q2.bind
  obtain ⟨n, en, q3⟩ := q2.opt
  have ei : r2.d = .int n := by
    cases e : r2.d with
    | int i => rw [e] at en; cases en; rfl
    | _ => rw [e] at en; cases en
  have rp := rv2.rep
  rw [ei] at rp
  cases rp.int
  refine ⟨n, rfl, useE hr2 hs2 (k := fun z S => ofOpt (slEv r1.d (some (.int n)) (some z.d)) S) q3 fun r3 S3 v3 g3 H3 hr3 x3 hs3 rv3 q4 => ?_⟩
  obtain ⟨r, e, q5⟩ := q4.opt
  obtain ⟨j, ej⟩ := slEv_hi e
  have rp := rv3.rep
  rw [ej] at rp
  cases rp.int
  exact ⟨j, rfl, g3, S3, r1.d, r, hr3, (rv1.rep.ext x2).ext x3, by rw [ej] at e; exact e, finE ((x1.trans x2).trans x3) q5⟩
theorem e_rev {a : E} {l : Expr} {k : Nat} {p1 p2 p3 pos : Pos} (h : PE X l (tE X We cl P a)) : PE X (.Subscript l (.Slice none none (some (.UnaryOp .USub (.Constant (.int 1) k p1) p2)) p3) pos) (tE X We cl P (.rev a)) := by
  refine PE.imp (pe_revA h) fun σ H Q q => ?_
  obtain ⟨g, env, S, hr, hs, q⟩ := q
  unfold evE at q
  refine useE hr hs q fun r1 S1 v1 g1 H1 hr1 x1 hs1 rv1 q1 => ?_
  obtain ⟨r, e, q2⟩ := q1.opt
  cases ed : r1.d with
  | lst l =>
    rw [ed] at e
    cases e
    have rp := rv1.rep
    rw [ed] at rp
    obtain ⟨a, xs, rfl, s1, il⟩ := rp.lst hr1
    exact ⟨a, xs, rfl, .inl ⟨SqL.of s1, fun p np => Fin.lst hr1 (finE x1 q2) il.reverse p np⟩⟩
  | tup l =>
    rw [ed] at e
    cases e
    have rp := rv1.rep
    rw [ed] at rp
    obtain ⟨a, xs, rfl, s1, il⟩ := rp.tup hr1
    exact ⟨a, xs, rfl, .inr ⟨s1, fun p np => Fin.tup hr1 (finE x1 q2) il.reverse p np⟩⟩
  | _ => rw [ed] at e; cases e
theorem e_lenS (kn : Kn X We cl P) (hh : P.hot = false) {a : E} {l : Expr} {p p2 q pos : Pos} (hg : glB X.env.scope "len" = true) (hg2 : glB X.env.scope "set" = true) (hl : notStar l = true) (h : PE X l (tE X We cl P a)) : PE X (.Call (.Name "len" p) [.Call (.Name "set" p2) [l] [] q] [] pos) (tE X We cl P (.lenS a)) := by
  refine PE.imp (pe_lenS (kn.calm hh) (glB_ok hg) (kn.free _ (by decide +kernel)) (glB_ok hg2) (kn.free _ (by decide +kernel)) h (star1 hl _)) fun σ H Q q => ?_
  obtain ⟨g, env, S, hr, hs, q⟩ := q
  unfold evE at q
  refine useE hr hs q fun r1 S1 v1 g1 H1 hr1 x1 hs1 rv1 q1 => ?_
  obtain ⟨r, e, q2⟩ := q1.opt
  cases ed : r1.d with
  | lst l =>
    rw [ed] at e
    simp only [lenSEv] at e
    cases eb : strsOf l with
    | none => rw [eb] at e; cases e
    | some ss =>
      rw [eb] at e
      simp only [Option.bind_some] at e
      split at e
      · rename_i hl
        cases e
        have rp := rv1.rep
        rw [ed] at rp
        obtain ⟨a, xs, rfl, s1, il⟩ := rp.lst hr1
        rw [strsOf_eq eb] at il
        rw [il.strs] at s1
        exact ⟨a, ss, rfl, SqL.of s1, hl, (finE x1 q2).plain hr1 (by unfold Is; rfl)⟩
      · cases e
  | _ => rw [ed] at e; cases e
theorem e_call (kn : Kn X We cl P) (hh : P.hot = false) {f : Str} {es : Es} {p pos : Pos} {l : Expr} {xs : List Expr} (hg : glB X.env.scope f = true) (hn : nameB f = true) (hf : (P.defs.lookup f).isSome = true) (ha : PA X (l :: xs) (tEs X We cl P es)) (hst : (l :: xs).all notStar = true) :
    PE X (.Call (.Name f p) (l :: xs) [] pos) (tE X We cl P (.call f es)) := by
  obtain ⟨fn, e⟩ := Option.isSome_iff_exists.mp hf
  obtain ⟨fa, fd, ps, k, h1, h2, F, hR, hB⟩ := kn.calls hh f fn e
  have hx : ∀ σ, PassesAt (L2.CX X.prog X.w) X σ (WE We σ) := fun σ => passAt kn.tk σ
  rw [List.all_cons, Bool.and_eq_true] at hst
  refine PE.imp (pe_callS F hR (glB_ok hg) h1 h2 hB hx ha (nameB_ok hn).1 (star1 hst.1 _) (by rw [back_any]; exact star_all _ hst.2)) fun σ H Q q => ?_
  obtain ⟨g, env, S, hr, hs, q⟩ := q
  unfold evE at q
  refine useEs hr hs q fun ds S1 vs g1 H1 hr1 x1 hs1 il q1 => ?_
  exact ⟨g1, S1, ds, hr1, il, q1.mono (fun r S2 q2 v g2 H2 hr2 x2 rv => q2 v g2 H2 hr2 (x1.trans x2) (rv.back x1.hs)) fun x S2 z c g2 H2 hr2 x2 hx => z c g2 H2 hr2 x2 hx⟩
theorem e_call0 (kn : Kn X We cl P) (hh : P.hot = false) {f : Str} {p pos : Pos} (hg : glB X.env.scope f = true) (hn : nameB f = true) (hf : (P.defs.lookup f).isSome = true) : PE X (.Call (.Name f p) [] [] pos) (tE X We cl P (.call f .nil)) := by
  obtain ⟨fn, e⟩ := Option.isSome_iff_exists.mp hf
  obtain ⟨fa, fd, ps, k, h1, h2, F, hR, hB⟩ := kn.calls hh f fn e
  refine ⟨fun pins s σ H Q I h => ?_⟩
  refine wpAny_Call_Name_kw (ld_glob I (glB_ok hg) h1 ?_ (nameB_ok hn).1)
  refine PySem.W.callWith_K0 I.kIn h2 (run_fnS (us := []) (E := fun σ => WE We σ) F hR hB (passAt kn.tk σ) I .nil ?_)
  obtain ⟨g, env, S, hr, hs, q⟩ := h
  unfold evE evEs at q
  exact ⟨g, S, [], hr, .nil, Wpo.mono q (fun r S2 q2 v g2 H2 hr2 x2 rv => q2 v g2 H2 hr2 x2 rv) fun x S2 z c g2 H2 hr2 x2 hx => z c g2 H2 hr2 x2 hx⟩
/-- a local's value is called -/
theorem e_callv (kn : Kn X We cl P) (hh : P.hot = false) {i : Nat} {y : Str} {es : Es} {p pos : Pos} {l : Expr} {xs : List Expr} (hN : X.N[i]? = some y) (hv : visB X.env.scope y = true) (hn : nameB y = true) (ha : PA X (l :: xs) (tEs X We cl P es)) (hst : (l :: xs).all notStar = true) :
    PE X (.Call (.Name y p) (l :: xs) [] pos) (tE X We cl P (.callv i es)) := by
  rw [List.all_cons, Bool.and_eq_true] at hst
  obtain ⟨n1, n2, _⟩ := nameB_ok hn
  refine ⟨fun pins s σ H Q I h => ?_⟩
  obtain ⟨g, env, S, hr, hs, q⟩ := h
  unfold evE at q
  cases ec : env[i]? with
  | none => rw [ec] at q; exact q.elim
  | some c =>
    rw [ec] at q
    cases c with
    | un => exact q.elim
    | own l => exact q.elim
    | owd k v => exact q.elim
    | fr d =>
      cases d with
      | fn f =>
        obtain ⟨v, ev, rv⟩ := SRel.var (H0 := H) hs i (.fr (.fn f)) (by rw [ec]; rfl)
        have hi : Is (wx X) g (.fn f) v := rv
        unfold Is at hi
        obtain ⟨fa', rfl, hm⟩ := hi
        dsimp only at q
        split at q
        · rename_i hf
          obtain ⟨fn, e⟩ := Option.isSome_iff_exists.mp hf
          obtain ⟨fa, fd, ps, k, h1, h2, F, hR, hB⟩ := kn.calls hh f fn e
          have h1 : X.mg f = some (.ref fa) := h1
          have hm : X.mg f = some (.ref fa') := hm
          rw [h1] at hm
          cases hm
          refine wpAny_Call_Name_kw (thn ((pe_var (pos := p) hN (visB_ok hv) n1 n2).run pins s σ H (fun v H1 => v = .ref fa' ∧ H1 = H) I ⟨.ref fa', ev, rfl, rfl⟩) fun u s1 ⟨v, H1, I1, r1, q1⟩ => ?_)
          obtain ⟨rfl, rfl⟩ := q1
          cases r1
          have ht : tEs X We cl P es σ H1 fun vs H2 => spD (wx X) cl f vs H2 Q (WE We σ) := by
            refine useEs hr hs q fun ds S1 vs g1 H1 hr1 x1 hs1 il q1 => ?_
            exact ⟨g1, S1, ds, hr1, il, q1.mono (fun r S2 q2 v g2 H2 hr2 x2 rv => q2 v g2 H2 hr2 (x1.trans x2) (rv.back x1.hs)) fun x S2 z c g2 H2 hr2 x2 hx => z c g2 H2 hr2 x2 hx⟩
          refine PySem.W.callWith_K (h₀ := X.base) I.ok.mod.kin h2 (thn (ha.run pos pins s1 σ _ _ I1 ht) fun us s2 ⟨vs, H2, I2, r, q⟩ => ⟨I2.kIn, ?_⟩) (star1 hst.1 _) (by rw [back_any]; exact star_all _ hst.2)
          exact run_fnS (E := fun σ => WE We σ) F hR hB (passAt kn.tk σ) I2 r q
        · exact q.elim
      | _ => exact q.elim
theorem e_bi (kn : Kn X We cl P) (hh : P.hot = false) {b : Bi} {es : Es} {p pos : Pos} {l : Expr} {xs : List Expr} (hg : glB X.env.scope b.nm = true) (ha : PA X (l :: xs) (tXs X We cl P es)) (hst : (l :: xs).all notStar = true) :
    PE X (.Call (.Name b.nm p) (l :: xs) [] pos) (tE X We cl P (.bi b es)) := by
  rw [List.all_cons, Bool.and_eq_true] at hst
  obtain ⟨n1, n2⟩ := bi_nm b
  have hm := kn.free _ (bi_free b)
  have hb := bi_boot b
  have he := star1 (xs := xs) hst.1 X.env
  have hp : (backTo pos (starEach xs X.env)).any (·.1) = false := by rw [back_any]; exact star_all _ hst.2
  have core : PE X (.Call (.Name b.nm p) (l :: xs) [] pos) (tCB (tBi (wx X) b) (tXs X We cl P es)) := by
    cases b <;> first
      | exact pe_callB (bi_ok kn.cok (kn.calm hh) _) (glB_ok hg) hm hb ha n1 n2 he hp
      | exact pe_callTy (bi_ok kn.cok (kn.calm hh) _) (glB_ok hg) hm hb ha n1 n2 he hp
  refine PE.imp core fun σ H Q q => ?_
  obtain ⟨g, env, S, hr, hs, q⟩ := q
  unfold evE at q
  refine useXs hr hs q fun ds S1 vs g1 H1 hr1 x1 hs1 rs q1 => ?_
  obtain ⟨r, e, q2⟩ := q1.opt
  exact ⟨g1, S1, ds, r, hr1, rs, e, finE x1 q2⟩
theorem ty_boot (t : Ty) (h : ∀ x, t ≠ .exc x) : bootBuiltins (Str.ofString t.nm) = some (.type t.nm) ∧ Str.ofString t.nm ∈ Gz.free ∧ Str.ofString t.nm ≠ ("__name__" : Str) ∧ (Str.ofString t.nm == ("__debug__" : Str)) = false := by
  cases t with
  | exc x => exact absurd rfl (h x)
  | _ => exact ⟨by decide +kernel, by decide +kernel, by decide +kernel, by decide +kernel⟩
theorem e_isi (kn : Kn X We cl P) {t : Ty} (ht : ∀ x, t ≠ .exc x) {a : E} {p p2 pos : Pos} {l : Expr} (hg : glB X.env.scope "isinstance" = true) (hz : glB X.env.scope (Str.ofString t.nm) = true) (hl : notStar l = true) (h : PE X l (tE X We cl P a)) :
    PE X (.Call (.Name "isinstance" p) [l, .Name (Str.ofString t.nm) p2] [] pos) (tE X We cl P (.isi t a)) := by
  obtain ⟨b1, b2, b3, b4⟩ := ty_boot t ht
  have pz : PE X (.Name (Str.ofString t.nm) p2) (L2.tC (.ty t.nm)) := pe_bltn (glB_ok hz) (kn.free _ b2) b1 rfl b3 b4
  have ha : PA X [l, .Name (Str.ofString t.nm) p2] (tCons (tE X We cl P a) (tCons (L2.tC (.ty t.nm)) tNil)) := pa_cons h (pa_cons pz pa_nil (star1 rfl _)) (star1 hl _)
  refine PE.imp (pe_callB (isi_ok t) (glB_ok hg) (kn.free _ (by decide +kernel)) (by decide +kernel) ha (by decide +kernel) (by decide +kernel) (star1 hl _) (by rw [back_any]; exact star_all (xs := [.Name (Str.ofString t.nm) p2]) _ rfl)) fun σ H Q q => ?_
  obtain ⟨g, env, S, hr, hs, q⟩ := q
  unfold evE at q
  refine useE hr hs q fun r1 S1 v1 g1 H1 hr1 x1 hs1 rv1 q1 => ?_
  cases e : t.ev r1.d with
  | none => rw [e] at q1; exact q1.elim
  | some b =>
    rw [e] at q1
    exact ⟨g1, S1, r1.d, v1, b, hr1, rfl, rv1.rep, e, q1 _ g1 H1 hr1 x1 (show Is _ _ _ _ from by unfold Is; rfl)⟩
theorem base_ok {o : Expr} (h : oB o = true) (y : Str) : attributeBase o y X.env (eval o X.env) = eval o X.env := by
  cases o <;> first | rfl | (simp [oB] at h; done)
theorem e_join {o : E} {es : Es} {l r : Expr} {ap cp : Pos} (hb : oB l = true) (hp : (ap.endLine == cp.line) = true) (hr : notStar r = true) (h : PE X l (tE X We cl P o)) (ha : PA X [r] (tXs X We cl P es)) :
    PE X (.Call (.Attribute l "join" ap) [r] [] cp) (tE X We cl P (.mt .join o es)) := by
  refine PE.imp (pe_bm F.plainAttrs_str F.slot_str_join F.type_str_join join_ok h ha (base_ok hb _) (by rw [star1 hr]; rfl) hp (star1 hr _) rfl) fun σ H Q q => ?_
  obtain ⟨g, env, S, hr, hs, q⟩ := q
  unfold evE at q
  refine useE hr hs q fun r1 S1 v1 g1 H1 hr1 x1 hs1 rv1 q1 => ?_
  split at q1
  · rename_i ho
    cases ed : r1.d with
    | str z =>
      have rp := rv1.rep
      rw [ed] at rp
      cases rp.str
      refine ⟨rfl, useXs hr1 hs1 q1 fun ds S2 vs g2 H2 hr2 x2 hs2 rs q2 => ?_⟩
      obtain ⟨r, e, q3⟩ := q2.opt
      exact ⟨g2, S2, r1.d, ds, r, hr2, rv1.rep.ext x2, rs, e, finE (x1.trans x2) q3⟩
    | _ => rw [ed] at ho; cases ho
  · exact q1.elim
theorem e_index (kn : Kn X We cl P) {o : E} {es : Es} {l r : Expr} {ap cp : Pos} (hb : oB l = true) (hp : (ap.endLine == cp.line) = true) (hr : notStar r = true) (h : PE X l (tE X We cl P o)) (ha : PA X [r] (tXs X We cl P es)) :
    PE X (.Call (.Attribute l "index" ap) [r] [] cp) (tE X We cl P (.mt .index o es)) := by
  refine PE.imp (pe_bm F.plainAttrs_list F.slot_list_index F.type_list_index (lindex_ok kn.cok) h ha (base_ok hb _) (by rw [star1 hr]; rfl) hp (star1 hr _) rfl) fun σ H Q q => ?_
  obtain ⟨g, env, S, hr, hs, q⟩ := q
  unfold evE at q
  refine useE hr hs q fun r1 S1 v1 g1 H1 hr1 x1 hs1 rv1 q1 => ?_
  split at q1
  · rename_i ho
    cases ed : r1.d with
    | lst z =>
      have rp := rv1.rep
      rw [ed] at rp
      obtain ⟨a, ys, rfl, s1, il⟩ := rp.lst hr1
      refine ⟨.inl ⟨rfl, ys, SqL.of s1⟩, useXs hr1 hs1 q1 fun ds S2 vs g2 H2 hr2 x2 hs2 rs q2 => ?_⟩
      obtain ⟨r, e, q3⟩ := q2.opt
      exact ⟨g2, S2, r1.d, ds, r, hr2, rv1.rep.ext x2, rs, e, finE (x1.trans x2) q3⟩
    | _ => rw [ed] at ho; cases ho
  · exact q1.elim
/-- what isinstance of an error answers -/
def rIsX (W : Wx) (P : Prog) (T : Str) (c : V) : List V → Hp → VK → Prop := fun xs H Q => ∃ g S d v b, HRel W g H S ∧ xs = [v, c] ∧ Rep W g H d v ∧ P.isx T d = some b ∧ Q (.bl b) H
theorem isx_call (kn : Kn X We cl P) {T : Str} {c : V} {cv : Value} (hc : ∀ u, RelV c u → u = cv) (hk : ∀ y C, ExK X.K X.mg P.excs y C → PySem.W.kitOne X.K (.ref C) cv = some (excSub y T)) : CallR X (.builtin "isinstance") (rIsX (wx X) P T c) := by
  intro pins s σ H xs us Q I r h
  obtain ⟨g, S, d, v, b, hr, rfl, rp, e, q⟩ := h
  cases d with
  | exc y =>
    have e : (if y ∈ P.excs then some (excSub y T) else none) = some b := e
    split at e
    · rename_i hy
      cases e
      have hi : Is (wx X) g (.exc y) v := by
        rcases rp with h | ⟨⟨l, e, _⟩ | ⟨ks, vs, e, _⟩, _⟩
        · exact h
        · cases e
        · cases e
      unfold Is at hi
      obtain ⟨a, C, rfl, e1, e2⟩ := hi
      obtain ⟨oe, h1, h2, h3⟩ := kn.exc a C e1
      obtain ⟨C', E⟩ := kn.excs y hy
      have e2 : X.mg y = some (.ref C) := e2
      have e3 := E.at_
      rw [e2] at e3
      cases e3
      exact call_isE1 E.cc h1 h2 h3 pins s σ H _ us Q I r ⟨c, cv, _, rfl, hc, hk y C E, q⟩
    · cases e
  | _ => exact nomatch (show (none : Option Bool) = some b from e)
theorem e_isx (kn : Kn X We cl P) {T : Str} {a : E} {p p2 pos : Pos} {l : Expr} (hg : glB X.env.scope "isinstance" = true) (hz : glB X.env.scope T = true) (hn : nameB T = true) (hT : T ∈ P.excs ∨ T = ("ValueError" : Str)) (hl : notStar l = true) (h : PE X l (tE X We cl P a)) :
    PE X (.Call (.Name "isinstance" p) [l, .Name T p2] [] pos) (tE X We cl P (.isx T a)) := by
  obtain ⟨c, cv, pz, hc, hk⟩ : ∃ (c : V) (cv : Value), PE X (.Name T p2) (L2.tC c) ∧ (∀ u, RelV c u → u = cv) ∧ ∀ y C, ExK X.K X.mg P.excs y C → PySem.W.kitOne X.K (.ref C) cv = some (excSub y T) := by
    rcases hT with hT | rfl
    · obtain ⟨D, E⟩ := kn.excs T hT
      refine ⟨.ref D, .ref D, pe_glob (v := .ref D) (glB_ok hz) E.at_ rfl (nameB_ok hn).1, fun u r => r, fun y C F => ?_⟩
      obtain ⟨D', m, k, _⟩ := F.own T (.inl hT)
      have e := E.at_
      rw [m] at e
      cases e
      exact k
    · refine ⟨.ty "ValueError", .type "ValueError", pe_bltn (glB_ok hz) (kn.free _ (by decide +kernel)) (by decide +kernel) rfl (by decide +kernel) (by decide +kernel), fun u r => r, fun y C F => ?_⟩
      rw [F.val]
      unfold excSub
      simp
  have ha : PA X [l, .Name T p2] (tCons (tE X We cl P a) (tCons (L2.tC c) tNil)) := pa_cons h (pa_cons pz pa_nil (star1 rfl _)) (star1 hl _)
  refine PE.imp (pe_callB (isx_call kn hc hk) (glB_ok hg) (kn.free _ (by decide +kernel)) (by decide +kernel) ha (by decide +kernel) (by decide +kernel) (star1 hl _) (by rw [back_any]; exact star_all (xs := [.Name T p2]) _ rfl)) fun σ H Q q => ?_
  obtain ⟨g, env, S, hr, hs, q⟩ := q
  unfold evE at q
  refine useE hr hs q fun r1 S1 v1 g1 H1 hr1 x1 hs1 rv1 q1 => ?_
  cases e : P.isx T r1.d with
  | none => rw [e] at q1; exact q1.elim
  | some b =>
    rw [e] at q1
    exact ⟨g1, S1, r1.d, v1, b, hr1, rfl, rv1.rep, e, q1 _ g1 H1 hr1 x1 (show Is _ _ _ _ from by unfold Is; rfl)⟩
theorem e_count (kn : Kn X We cl P) {o : E} {es : Es} {l r : Expr} {ap cp : Pos} (hb : oB l = true) (hp : (ap.endLine == cp.line) = true) (hr : notStar r = true) (h : PE X l (tE X We cl P o)) (ha : PA X [r] (tXs X We cl P es)) :
    PE X (.Call (.Attribute l "count" ap) [r] [] cp) (tE X We cl P (.mt .count o es)) := by
  refine PE.imp (pe_bm F.plainAttrs_list F.slot_list_count F.type_list_count (lcount_ok kn.cok) h ha (base_ok hb _) (by rw [star1 hr]; rfl) hp (star1 hr _) rfl) fun σ H Q q => ?_
  obtain ⟨g, env, S, hr, hs, q⟩ := q
  unfold evE at q
  refine useE hr hs q fun r1 S1 v1 g1 H1 hr1 x1 hs1 rv1 q1 => ?_
  split at q1
  · rename_i ho
    cases ed : r1.d with
    | lst z =>
      have rp := rv1.rep
      rw [ed] at rp
      obtain ⟨a, ys, rfl, s1, il⟩ := rp.lst hr1
      refine ⟨.inl ⟨rfl, ys, SqL.of s1⟩, useXs hr1 hs1 q1 fun ds S2 vs g2 H2 hr2 x2 hs2 rs q2 => ?_⟩
      obtain ⟨r, e, q3⟩ := q2.opt
      exact ⟨g2, S2, r1.d, ds, r, hr2, rv1.rep.ext x2, rs, e, finE (x1.trans x2) q3⟩
    | _ => rw [ed] at ho; cases ho
  · exact q1.elim
/-- a def that is called where an error is in hand -/
theorem e_callH (kn : Kn X We cl P) (hh : P.hot = true) {f : Str} {es : Es} {p pos : Pos} {l : Expr} {xs : List Expr} (hg : glB X.env.scope f = true) (hn : nameB f = true) (hf : (P.defs.lookup f).isSome = true) (hm : f ∈ P.hots) (ha : PA X (l :: xs) (tEs X We cl P es)) (hst : (l :: xs).all notStar = true) :
    PE X (.Call (.Name f p) (l :: xs) [] pos) (tE X We cl P (.call f es)) := by
  obtain ⟨fn, e⟩ := Option.isSome_iff_exists.mp hf
  obtain ⟨fa, fd, ps, k, p0, h1, h2, F, hR, hB, hp⟩ := kn.callsH hh f fn e hm
  have hx : ∀ σ, PassesAt (L2.CX X.prog X.w) X σ (WE We σ) := fun σ => passAt kn.tk σ
  rw [List.all_cons, Bool.and_eq_true] at hst
  refine PE.imp (pe_callH1 F hR hp (glB_ok hg) h1 h2 hB hx ha (nameB_ok hn).1 (star1 hst.1 _) (by rw [back_any]; exact star_all _ hst.2)) fun σ H Q q => ?_
  obtain ⟨g, env, S, hr, hs, q⟩ := q
  unfold evE at q
  refine useEs hr hs q fun ds S1 vs g1 H1 hr1 x1 hs1 il q1 => ?_
  exact ⟨g1, S1, ds, hr1, il, q1.mono (fun r S2 q2 v g2 H2 hr2 x2 rv => q2 v g2 H2 hr2 (x1.trans x2) (rv.back x1.hs)) fun x S2 z c g2 H2 hr2 x2 hx => z c g2 H2 hr2 x2 hx⟩
/-- what an item of something is, is called -/
theorem e_calle (kn : Kn X We cl P) (hh : P.hot = false) {a : E} {es : Es} {l0 r0 : Expr} {p0 pos : Pos} {l : Expr} {xs : List Expr} (hf : PE X (.Subscript l0 r0 p0) (tE X We cl P a)) (ha : PA X (l :: xs) (tEs X We cl P es)) (hst : (l :: xs).all notStar = true) :
    PE X (.Call (.Subscript l0 r0 p0) (l :: xs) [] pos) (tE X We cl P (.calle a es)) := by
  rw [List.all_cons, Bool.and_eq_true] at hst
  refine ⟨fun pins s σ H Q I h => ?_⟩
  obtain ⟨g, env, S, hr, hs, q⟩ := h
  unfold evE at q
  have ht : tE X We cl P a σ H fun v H1 => ∃ f fa fd ps k, v = .ref fa ∧ PySem.W.keepIn X.K (.ref fa) = true ∧ FnOk X.prog X.w X.K X.mg X.base (L2.CX X.prog X.w) k fa fd ps (spD (wx X) cl f) ∧ Room k X.A ∧ Binds X.K fd ps [] ∧
      tEs X We cl P es σ H1 fun vs H2 => spD (wx X) cl f vs H2 Q (WE We σ) := by
    refine useE hr hs q fun r1 S1 v1 g1 H1 hr1 x1 hs1 rv1 q1 => ?_
    cases ed : r1.d with
    | fn f =>
      rw [ed] at q1
      dsimp only at q1
      split at q1
      · rename_i hf
        obtain ⟨fn, e⟩ := Option.isSome_iff_exists.mp hf
        obtain ⟨fa, fd, ps, k, h1, h2, F, hR, hB⟩ := kn.calls hh f fn e
        have rp := rv1.rep
        rw [ed] at rp
        have hi : Is (wx X) g1 (.fn f) v1 := by
          rcases rp with h | ⟨⟨l, e, _⟩ | ⟨ks, vs, e, _⟩, _⟩
          · exact h
          · cases e
          · cases e
        unfold Is at hi
        obtain ⟨fa', rfl, hm⟩ := hi
        have hm : X.mg f = some (.ref fa') := hm
        rw [h1] at hm
        cases hm
        refine ⟨f, fa, fd, ps, k, rfl, h2, F, hR, hB, ?_⟩
        refine useEs hr1 hs1 q1 fun ds S2 vs g2 H2 hr2 x2 hs2 il q2 => ?_
        exact ⟨g2, S2, ds, hr2, il, q2.mono (fun r S3 q3 v g3 H3 hr3 x3 rv => q3 v g3 H3 hr3 (x1.trans (x2.trans x3)) (rv.back (x1.trans x2).hs)) fun x S3 z c g3 H3 hr3 x3 hx => z c g3 H3 hr3 x3 hx⟩
      · exact q1.elim
    | _ => rw [ed] at q1; exact q1.elim
  have ev : eval (.Call (.Subscript l0 r0 p0) (l :: xs) [] pos) X.env = (do
    callWith pos (← eval (.Subscript l0 r0 p0) X.env) [] (backTo pos (starEach (l :: xs) X.env)) (backToKw pos (keywordEach [] X.env))) := rfl
  rw [ev]
  refine wpAny_bind (thn (hf.run pins s σ H _ I ht) fun u s1 ⟨v, H1, I1, r1, f, fa, fd, ps, k, ev, h2, F, hR, hB, q1⟩ => ?_)
  subst ev
  cases r1
  refine PySem.W.callWith_K (h₀ := X.base) I.ok.mod.kin h2 (thn (ha.run pos pins s1 σ _ _ I1 q1) fun us s2 ⟨vs, H2, I2, r, q⟩ => ⟨I2.kIn, ?_⟩) (star1 hst.1 _) (by rw [back_any]; exact star_all _ hst.2)
  exact run_fnS (E := fun σ => WE We σ) F hR hB (passAt kn.tk σ) I2 r q
end
end Gz
end -- GzL
section -- GzM
/-! GzM: the look at an expression is enough. -/
namespace Gz
open PySem PySem.Spec PyProof.Rows L2 RZ
theorem exO_calm (pn : List (Addr × Obj)) : exO true pn = none := by cases pn <;> rfl
theorem wx_blk {X : Cx} (hc : X.calm = true) (s : Shared) (H : Hp) (scope : Scope) (C : PySem.Env) (fp : List Addr) : wx (X.blk s H scope C fp) = wx X := by
  show (⟨X.K, X.mg, exO X.calm []⟩ : Wx) = ⟨X.K, X.mg, exO X.calm X.pn⟩
  rw [hc, exO_calm, exO_calm]
theorem Kn.blk {X : Cx} {We : WX} {cl : Calls} {P : Prog} (kn : Kn X We cl P) (hh : P.hot = false) (s : Shared) (H : Hp) (scope : Scope) (C : PySem.Env) (fp : List Addr) : Kn (X.blk s H scope C fp) noWe cl P := by
  have hw := wx_blk (kn.calm hh) s H scope C fp
  refine ⟨⟨kn.cok.1⟩, kn.calm, kn.nd, takes_none5, fun _ f fn e => ?_, fun h => absurd h (by rw [hh]; decide), kn.hotsC, kn.excs, fun a C e => ?_, kn.nodef, fun x d e => ?_, kn.tabs, kn.free⟩
  · rw [hw]
    exact kn.calls hh f fn e
  · have e : exO X.calm [] = some (a, C) := e
    rw [kn.calm hh, exO_calm] at e
    cases e
  · rw [hw]
    exact kn.cons x d e
theorem tE_wx {X Y : Cx} (h : wx X = wx Y) {We : WX} {cl : Calls} {P : Prog} {e : E} : tE X We cl P e = tE Y We cl P e := by
  unfold tE
  rw [h]
theorem tG_wx {X Y : Cx} (h : wx X = wx Y) {t : Tg} : tG X t = tG Y t := by
  unfold tG
  rw [h]
theorem tTs_wx {X Y : Cx} (h : wx X = wx Y) {We : WX} {cl : Calls} {P : Prog} {e : Es} : tTs X We cl P e = tTs Y We cl P e := by
  unfold tTs
  rw [h]
theorem chkEs_len {P : Prog} {N : List Str} {sc : Scope} : ∀ (es : Es) (xs : List Expr), chkEs P N sc es xs = true → es.len = xs.length ∧ xs.all notStar = true
  | .nil, [], _ => ⟨rfl, rfl⟩
  | .nil, _ :: _, h => by unfold chkEs at h; cases h
  | .cons _ _, [], h => by unfold chkEs at h; cases h
  | .cons e es, x :: xs, h => by
    unfold chkEs at h
    simp only [Bool.and_eq_true] at h
    obtain ⟨h1, h2⟩ := chkEs_len es xs h.2
    exact ⟨by simp [Es.len, h1], by rw [List.all_cons, h.1.1, h2]; rfl⟩
section
variable {cl : Calls} {P : Prog}
/-- both readings of an expression -/
def Both (X : Cx) (We : WX) (cl : Calls) (P : Prog) (e : E) (x : Expr) : Prop := (chkE P X.N X.env.scope false e x = true → PE X x (tE X We cl P e)) ∧ (chkE P X.N X.env.scope true e x = true → PT X x (tT X We cl P e))
mutual
theorem chkE_ok : (e : E) → ∀ {X : Cx} {We : WX} (kn : Kn X We cl P) (x : Expr), Both X We cl P e x
  | .var i, X, We, kn, x => by
    unfold Both chkE
    constructor <;> intro h <;> split at h <;> first | (cases h; done) | skip
    · simp only [Bool.and_eq_true, decide_eq_true_eq] at h
      exact e_var h.1.1 h.1.2 h.2
    · simp only [Bool.and_eq_true, decide_eq_true_eq] at h
      exact pt_plain (e_var h.1.1 h.1.2 h.2) fun _ => rfl
  | .int n, X, We, kn, x => by
    unfold Both chkE
    constructor <;> intro h <;> split at h <;> first | (cases h; done) | (simp at h; done) | skip
    · simp only [Bool.and_eq_true, decide_eq_true_eq] at h
      obtain ⟨_, rfl⟩ := h
      exact e_const pe_int (fun env S => by unfold evE; rfl) fun g => by unfold Is; rfl
    · simp only [Bool.and_eq_true, decide_eq_true_eq] at h
      obtain ⟨_, rfl⟩ := h
      refine PE.imp (pe_un un_neg pe_int) fun σ H Q q => ?_
      obtain ⟨g, env, S, hr, hs, q⟩ := q
      unfold evE at q
      exact ⟨_, rfl, q _ g H hr (Ext.refl _ _) (show Is _ _ _ _ from by unfold Is; rfl)⟩
  | .bl b, X, We, kn, x => by
    unfold Both chkE
    constructor <;> intro h <;> split at h <;> first | (cases h; done) | (simp at h; done) | skip
    simp only [Bool.and_eq_true, beq_iff_eq] at h
    obtain ⟨_, rfl⟩ := h
    exact e_const pe_bl (fun env S => by unfold evE; rfl) fun g => by unfold Is; rfl
  | .non, X, We, kn, x => by
    unfold Both chkE
    constructor <;> intro h <;> split at h <;> first | (cases h; done) | (simp at h; done) | skip
    exact e_const pe_non (fun env S => by unfold evE; rfl) fun g => by unfold Is; rfl
  | .str s, X, We, kn, x => by
    unfold Both chkE
    constructor <;> intro h <;> split at h <;> first | (cases h; done) | (simp at h; done) | skip
    simp only [Bool.and_eq_true, decide_eq_true_eq] at h
    obtain ⟨_, rfl⟩ := h
    exact e_const pe_str (fun env S => by unfold evE; rfl) fun g => by unfold Is; rfl
  | .glob y, X, We, kn, x => by
    unfold Both chkE
    constructor <;> intro h <;> split at h <;> first | (cases h; done) | (simp at h; done) | skip
    simp only [Bool.and_eq_true, decide_eq_true_eq] at h
    obtain ⟨⟨⟨_, rfl⟩, h1⟩, h2⟩ := h
    exact e_glob kn h1 h2
  | .fnv y, X, We, kn, x => by
    unfold Both chkE
    constructor <;> intro h <;> split at h <;> first | (cases h; done) | (simp at h; done) | skip
    simp only [Bool.and_eq_true, decide_eq_true_eq] at h
    obtain ⟨⟨⟨⟨⟨_, rfl⟩, h1⟩, h2⟩, h3⟩, hh⟩ := h
    exact e_fnv kn (by simpa using hh) h1 h2 h3
  | .gix y a, X, We, kn, x => by
    have ia := fun y => (chkE_ok a kn y).1
    unfold Both chkE
    constructor <;> intro h <;> split at h <;> first | (cases h; done) | (simp at h; done) | skip
    · simp only [Bool.and_eq_true, decide_eq_true_eq] at h
      obtain ⟨⟨⟨⟨⟨rfl, h1⟩, h2⟩, h3⟩, h4⟩, h5⟩ := h
      exact e_gix kn h1 h2 h3 h4 (ia _ h5)
    · simp only [Bool.and_eq_true, decide_eq_true_eq] at h
      obtain ⟨⟨⟨⟨⟨rfl, h1⟩, h2⟩, h3⟩, h4⟩, h5⟩ := h
      exact pt_plain (e_gix kn h1 h2 h3 h4 (ia _ h5)) fun _ => rfl
  | .bin o a b, X, We, kn, x => by
    have ia := fun y => (chkE_ok a kn y).1
    have ib := fun y => (chkE_ok b kn y).1
    unfold Both chkE
    constructor <;> intro h <;> split at h <;> first | (cases h; done) | (simp at h; done) | skip
    simp only [Bool.and_eq_true, decide_eq_true_eq] at h
    obtain ⟨⟨⟨_, rfl⟩, h1⟩, h2⟩ := h
    exact e_bin kn (ia _ h1) (ib _ h2)
  | .cmp o a b, X, We, kn, x => by
    have ia := fun y => (chkE_ok a kn y).1
    have ib := fun y => (chkE_ok b kn y).1
    unfold Both chkE
    constructor <;> intro h <;> split at h <;> first | (cases h; done) | (simp at h; done) | skip
    · simp only [Bool.and_eq_true, decide_eq_true_eq, Bool.not_eq_true'] at h
      obtain ⟨⟨⟨rfl, h3⟩, h1⟩, h2⟩ := h
      exact e_cmp kn (ia _ h1) (ib _ h2) h3
    · simp only [Bool.and_eq_true, decide_eq_true_eq, Bool.not_eq_true'] at h
      obtain ⟨⟨⟨rfl, h3⟩, h1⟩, h2⟩ := h
      exact t_cmp kn (ia _ h1) (ib _ h2) h3
  | .chain o o' a b c, X, We, kn, x => by
    have ia := fun y => (chkE_ok a kn y).1
    have ib := fun y => (chkE_ok b kn y).1
    have ic := fun y => (chkE_ok c kn y).1
    unfold Both chkE
    constructor <;> intro h <;> split at h <;> first | (cases h; done) | (simp at h; done) | skip
    · simp only [Bool.and_eq_true, decide_eq_true_eq, Bool.not_eq_true'] at h
      obtain ⟨⟨⟨⟨⟨rfl, rfl⟩, h4⟩, h1⟩, h2⟩, h3⟩ := h
      exact e_chain kn (ia _ h1) (ib _ h2) (ic _ h3) h4
    · simp only [Bool.and_eq_true, decide_eq_true_eq, Bool.not_eq_true'] at h
      obtain ⟨⟨⟨⟨⟨rfl, rfl⟩, h4⟩, h1⟩, h2⟩, h3⟩ := h
      exact t_chain kn (ia _ h1) (ib _ h2) (ic _ h3) h4
  | .not a, X, We, kn, x => by
    have ia := fun y => chkE_ok a kn y
    unfold Both chkE
    constructor <;> intro h <;> split at h <;> first | (cases h; done) | (simp at h; done) | skip
    · exact e_not ((ia _).1 h)
    · exact t_not ((ia _).2 h)
  | .and a b, X, We, kn, x => by
    have ia := fun y => chkE_ok a kn y
    have ib := fun y => chkE_ok b kn y
    unfold Both chkE
    constructor <;> intro h <;> split at h <;> first | (cases h; done) | (simp at h; done) | skip
    · rw [Bool.and_eq_true] at h
      obtain ⟨h1, h2⟩ := h
      split at h2
      · exact e_and ((ia _).1 h1) (pe_one ((ib _).1 h2))
      · exact e_and ((ia _).1 h1) ((ib _).1 h2)
    · rw [Bool.and_eq_true] at h
      obtain ⟨h1, h2⟩ := h
      split at h2
      · exact t_and ((ia _).2 h1) (pw_and1 ((ib _).2 h2))
      · exact t_and ((ia _).2 h1) (pw_of ((ib _).2 h2))
  | .or a b, X, We, kn, x => by
    have ia := fun y => chkE_ok a kn y
    have ib := fun y => chkE_ok b kn y
    unfold Both chkE
    constructor <;> intro h <;> split at h <;> first | (cases h; done) | (simp at h; done) | skip
    · rw [Bool.and_eq_true] at h
      obtain ⟨h1, h2⟩ := h
      split at h2
      · exact e_or ((ia _).1 h1) (pe_one ((ib _).1 h2))
      · exact e_or ((ia _).1 h1) ((ib _).1 h2)
    · rw [Bool.and_eq_true] at h
      obtain ⟨h1, h2⟩ := h
      split at h2
      · exact t_or ((ia _).2 h1) (pw_or1 ((ib _).2 h2))
      · exact t_or ((ia _).2 h1) (pw_of ((ib _).2 h2))
  | .ite c a b, X, We, kn, x => by
    have ia := fun y => (chkE_ok a kn y).1
    have ib := fun y => (chkE_ok b kn y).1
    have ic := fun y => (chkE_ok c kn y).2
    unfold Both chkE
    constructor <;> intro h <;> split at h <;> first | (cases h; done) | (simp at h; done) | skip
    simp only [Bool.and_eq_true] at h
    exact e_ite (ic _ h.1.1.2) (ia _ h.1.2) (ib _ h.2)
  | .tup es, X, We, kn, x => by
    have ia := fun xs => chkEs_ok es kn xs
    unfold Both chkE
    constructor <;> intro h <;> split at h <;> first | (cases h; done) | (simp at h; done) | skip
    simp only [Bool.and_eq_true, decide_eq_true_eq] at h
    exact e_tup (ia _ h.2).1 (by rw [(chkEs_len _ _ h.2).1]; exact h.1.2)
  | .lst es, X, We, kn, x => by
    have ia := fun xs => chkEs_ok es kn xs
    unfold Both chkE
    constructor <;> intro h <;> split at h <;> first | (cases h; done) | (simp at h; done) | skip
    simp only [Bool.and_eq_true, decide_eq_true_eq] at h
    exact e_lst (ia _ h.2).1 (by rw [(chkEs_len _ _ h.2).1]; exact h.1.2)
  | .dct ks es, X, We, kn, x => by
    unfold Both chkE
    constructor <;> intro h <;> exact absurd h (by simp)
  | .idx a i, X, We, kn, x => by
    have ia := fun y => (chkE_ok a kn y).1
    have ib := fun y => (chkE_ok i kn y).1
    unfold Both chkE
    constructor <;> intro h <;> split at h <;> first | (cases h; done) | (simp at h; done) | skip
    · simp only [Bool.and_eq_true] at h
      exact e_idx (ia _ h.1.2) (ib _ h.2) h.1.1
    · simp only [Bool.and_eq_true] at h
      exact pt_plain (e_idx (ia _ h.1.2) (ib _ h.2) h.1.1) fun _ => rfl
  | .slL a i, X, We, kn, x => by
    have ia := fun y => (chkE_ok a kn y).1
    have ib := fun y => (chkE_ok i kn y).1
    unfold Both chkE
    constructor <;> intro h <;> split at h <;> first | (cases h; done) | (simp at h; done) | skip
    · simp only [Bool.and_eq_true] at h
      exact e_slL (ia _ h.1) (ib _ h.2)
    · simp only [Bool.and_eq_true] at h
      exact pt_plain (e_slL (ia _ h.1) (ib _ h.2)) fun _ => rfl
  | .slU a i, X, We, kn, x => by
    have ia := fun y => (chkE_ok a kn y).1
    have ib := fun y => (chkE_ok i kn y).1
    unfold Both chkE
    constructor <;> intro h <;> split at h <;> first | (cases h; done) | (simp at h; done) | skip
    · simp only [Bool.and_eq_true] at h
      exact e_slU (ia _ h.1) (ib _ h.2)
    · simp only [Bool.and_eq_true] at h
      exact pt_plain (e_slU (ia _ h.1) (ib _ h.2)) fun _ => rfl
  | .slB a i j, X, We, kn, x => by
    have ia := fun y => (chkE_ok a kn y).1
    have ib := fun y => (chkE_ok i kn y).1
    have ic := fun y => (chkE_ok j kn y).1
    unfold Both chkE
    constructor <;> intro h <;> split at h <;> first | (cases h; done) | (simp at h; done) | skip
    · simp only [Bool.and_eq_true] at h
      exact e_slB (ia _ h.1.1) (ib _ h.1.2) (ic _ h.2)
    · simp only [Bool.and_eq_true] at h
      exact pt_plain (e_slB (ia _ h.1.1) (ib _ h.1.2) (ic _ h.2)) fun _ => rfl
  | .rev a, X, We, kn, x => by
    have ia := fun y => (chkE_ok a kn y).1
    unfold Both chkE
    constructor <;> intro h <;> split at h <;> first | (cases h; done) | (simp at h; done) | skip
    · simp only [Bool.and_eq_true, decide_eq_true_eq] at h
      obtain ⟨rfl, h⟩ := h
      exact e_rev (ia _ h)
    · simp only [Bool.and_eq_true, decide_eq_true_eq] at h
      obtain ⟨rfl, h⟩ := h
      exact pt_plain (e_rev (ia _ h)) fun _ => rfl
  | .lenS a, X, We, kn, x => by
    have ia := fun y => (chkE_ok a kn y).1
    unfold Both chkE
    constructor <;> intro h <;> split at h <;> first | (cases h; done) | (simp at h; done) | skip
    · simp only [Bool.and_eq_true, decide_eq_true_eq] at h
      obtain ⟨⟨⟨⟨⟨⟨rfl, h1⟩, rfl⟩, h2⟩, h3⟩, h4⟩, hh⟩ := h
      exact e_lenS kn (by simpa using hh) h1 h2 h3 (ia _ h4)
    · simp only [Bool.and_eq_true, decide_eq_true_eq] at h
      obtain ⟨⟨⟨⟨⟨⟨rfl, h1⟩, rfl⟩, h2⟩, h3⟩, h4⟩, hh⟩ := h
      exact pt_plain (e_lenS kn (by simpa using hh) h1 h2 h3 (ia _ h4)) fun _ => rfl
  | .call f es, X, We, kn, x => by
    have ia := fun xs => chkEs_ok es kn xs
    have core : ∀ {xs : List Expr} {p pos : Pos}, glB X.env.scope f = true → nameB f = true → (P.defs.lookup f).isSome = true → chkEs P X.N X.env.scope es xs = true → (!P.hot || (decide (f ∈ P.hots) && !xs.isEmpty)) = true → PE X (.Call (.Name f p) xs [] pos) (tE X We cl P (.call f es)) := fun {xs p pos} h1 h2 h3 h4 h5 => by
      cases hh : P.hot with
      | false =>
        cases xs with
        | nil =>
          have := (chkEs_len _ _ h4).1
          cases es with
          | nil => exact e_call0 kn hh h1 h2 h3
          | cons e es => cases this
        | cons l xs => exact e_call kn hh h1 h2 h3 (ia _ h4).1 (chkEs_len _ _ h4).2
      | true =>
        rw [hh] at h5
        simp only [Bool.not_true, Bool.false_or, Bool.and_eq_true, decide_eq_true_eq] at h5
        cases xs with
        | nil => exact absurd h5.2 (by simp)
        | cons l xs => exact e_callH kn hh h1 h2 h3 h5.1 (ia _ h4).1 (chkEs_len _ _ h4).2
    unfold Both chkE
    constructor <;> intro h <;> split at h <;> first | (cases h; done) | (simp at h; done) | skip
    · rw [Bool.and_eq_true, Bool.and_eq_true, Bool.and_eq_true, Bool.and_eq_true, Bool.and_eq_true, decide_eq_true_eq] at h
      obtain ⟨⟨⟨⟨⟨rfl, h1⟩, h2⟩, h3⟩, h4⟩, h5⟩ := h
      exact core h1 h2 h3 h4 h5
    · rw [Bool.and_eq_true, Bool.and_eq_true, Bool.and_eq_true, Bool.and_eq_true, Bool.and_eq_true, decide_eq_true_eq] at h
      obtain ⟨⟨⟨⟨⟨rfl, h1⟩, h2⟩, h3⟩, h4⟩, h5⟩ := h
      exact pt_plain (core h1 h2 h3 h4 h5) fun _ => rfl
  | .callv i es, X, We, kn, x => by
    have ia := fun xs => chkEs_ok es kn xs
    have core : ∀ {y : Str} {xs : List Expr} {p pos : Pos}, X.N[i]? = some y → visB X.env.scope y = true → nameB y = true → (!xs.isEmpty) = true → chkEs P X.N X.env.scope es xs = true → P.hot = false → PE X (.Call (.Name y p) xs [] pos) (tE X We cl P (.callv i es)) := fun {y xs p pos} h1 h2 h3 h5 h4 hh => by
      cases xs with
      | nil => cases h5
      | cons l xs => exact e_callv kn hh h1 h2 h3 (ia _ h4).1 (chkEs_len _ _ h4).2
    unfold Both chkE
    constructor <;> intro h <;> split at h <;> first | (cases h; done) | (simp at h; done) | skip
    · simp only [Bool.and_eq_true, decide_eq_true_eq] at h
      obtain ⟨⟨⟨⟨⟨h0, h1⟩, h2⟩, h3⟩, h4⟩, hh⟩ := h
      exact core h0 h1 h2 h3 h4 (by simpa using hh)
    · simp only [Bool.and_eq_true, decide_eq_true_eq] at h
      obtain ⟨⟨⟨⟨⟨h0, h1⟩, h2⟩, h3⟩, h4⟩, hh⟩ := h
      exact pt_plain (core h0 h1 h2 h3 h4 (by simpa using hh)) fun _ => rfl
  | .calle a es, X, We, kn, x => by
    have io := fun y => (chkE_ok a kn y).1
    have ia := fun xs => chkEs_ok es kn xs
    have core : ∀ {l0 r0 : Expr} {xs : List Expr} {p pos : Pos}, (!xs.isEmpty) = true → chkE P X.N X.env.scope false a (.Subscript l0 r0 p) = true → chkEs P X.N X.env.scope es xs = true → P.hot = false → PE X (.Call (.Subscript l0 r0 p) xs [] pos) (tE X We cl P (.calle a es)) := fun {l0 r0 xs p pos} h1 h2 h4 hh => by
      cases xs with
      | nil => cases h1
      | cons l xs => exact e_calle kn hh (io _ h2) (ia _ h4).1 (chkEs_len _ _ h4).2
    unfold Both chkE
    constructor <;> intro h <;> split at h <;> first | (cases h; done) | (simp at h; done) | skip
    · rw [Bool.and_eq_true, Bool.and_eq_true, Bool.and_eq_true] at h
      obtain ⟨⟨⟨h0, h1⟩, h2⟩, hh⟩ := h
      exact core h0 h1 h2 (by simpa using hh)
    · rw [Bool.and_eq_true, Bool.and_eq_true, Bool.and_eq_true] at h
      obtain ⟨⟨⟨h0, h1⟩, h2⟩, hh⟩ := h
      exact pt_plain (core h0 h1 h2 (by simpa using hh)) fun _ => rfl
  | .bi b es, X, We, kn, x => by
    have ia := fun xs => chkEs_ok es kn xs
    have core : ∀ {xs : List Expr} {p pos : Pos}, glB X.env.scope b.nm = true → (!xs.isEmpty) = true → chkEs P X.N X.env.scope es xs = true → P.hot = false → PE X (.Call (.Name b.nm p) xs [] pos) (tE X We cl P (.bi b es)) := fun {xs p pos} h1 h5 h4 hh => by
      cases xs with
      | nil => cases h5
      | cons l xs => exact e_bi kn hh h1 (ia _ h4).2 (chkEs_len _ _ h4).2
    unfold Both chkE
    constructor <;> intro h <;> split at h <;> first | (cases h; done) | (simp at h; done) | skip
    · simp only [Bool.and_eq_true, decide_eq_true_eq] at h
      obtain ⟨⟨⟨⟨rfl, h1⟩, h3⟩, h4⟩, hh⟩ := h
      exact core h1 h3 h4 (by simpa using hh)
    · simp only [Bool.and_eq_true, decide_eq_true_eq] at h
      obtain ⟨⟨⟨⟨rfl, h1⟩, h3⟩, h4⟩, hh⟩ := h
      exact pt_plain (core h1 h3 h4 (by simpa using hh)) fun _ => rfl
  | .isi u a, X, We, kn, x => by
    have ia := fun y => (chkE_ok a kn y).1
    have hu : (match u with | .exc _ => false | _ => true) = true → ∀ x, u ≠ .exc x := fun h x e => by subst e; cases h
    unfold Both chkE
    constructor <;> intro h <;> split at h <;> first | (cases h; done) | (simp at h; done) | skip
    · simp only [Bool.and_eq_true, decide_eq_true_eq] at h
      obtain ⟨⟨⟨⟨⟨⟨rfl, h1⟩, h2⟩, rfl⟩, h3⟩, h4⟩, h5⟩ := h
      exact e_isi kn (hu h2) h1 h3 h4 (ia _ h5)
    · simp only [Bool.and_eq_true, decide_eq_true_eq] at h
      obtain ⟨⟨⟨⟨⟨⟨rfl, h1⟩, h2⟩, rfl⟩, h3⟩, h4⟩, h5⟩ := h
      exact pt_plain (e_isi kn (hu h2) h1 h3 h4 (ia _ h5)) fun _ => rfl
  | .isx T a, X, We, kn, x => by
    have ia := fun y => (chkE_ok a kn y).1
    unfold Both chkE
    constructor <;> intro h <;> split at h <;> first | (cases h; done) | (simp at h; done) | skip
    · simp only [Bool.and_eq_true, Bool.or_eq_true, decide_eq_true_eq] at h
      obtain ⟨⟨⟨⟨⟨⟨⟨rfl, h1⟩, rfl⟩, h2⟩, h3⟩, h4⟩, h5⟩, h6⟩ := h
      exact e_isx kn h1 h2 h3 h4 h5 (ia _ h6)
    · simp only [Bool.and_eq_true, Bool.or_eq_true, decide_eq_true_eq] at h
      obtain ⟨⟨⟨⟨⟨⟨⟨rfl, h1⟩, rfl⟩, h2⟩, h3⟩, h4⟩, h5⟩, h6⟩ := h
      exact pt_plain (e_isx kn h1 h2 h3 h4 h5 (ia _ h6)) fun _ => rfl
  | .mt m o es, X, We, kn, x => by
    have ia := fun xs => chkEs_ok es kn xs
    have io := fun y => (chkE_ok o kn y).1
    have core : ∀ {l r : Expr} {y : Str} {ap cp : Pos}, (match m with
        | .join => decide (("join" : Str) = y)
        | .index => decide (("index" : Str) = y)
        | .count => decide (("count" : Str) = y)
        | _ => false) = true → (ap.endLine == cp.line) = true → oB l = true → chkE P X.N X.env.scope false o l = true → chkEs P X.N X.env.scope es [r] = true → PE X (.Call (.Attribute l y ap) [r] [] cp) (tE X We cl P (.mt m o es)) := fun {l r y ap cp} h1 h2 h3 h4 h5 => by
      have hr : notStar r = true := by
        have := (chkEs_len _ _ h5).2
        simpa using this
      cases m with
      | join =>
        simp only [decide_eq_true_eq] at h1
        subst h1
        exact e_join h3 h2 hr (io _ h4) (ia _ h5).2
      | index =>
        simp only [decide_eq_true_eq] at h1
        subst h1
        exact e_index kn h3 h2 hr (io _ h4) (ia _ h5).2
      | count =>
        simp only [decide_eq_true_eq] at h1
        subst h1
        exact e_count kn h3 h2 hr (io _ h4) (ia _ h5).2
      | _ => cases h1
    unfold Both chkE
    constructor <;> intro h <;> split at h <;> first | (cases h; done) | (simp at h; done) | skip
    · simp only [Bool.and_eq_true] at h
      obtain ⟨⟨⟨⟨h1, h2⟩, h3⟩, h4⟩, h5⟩ := h
      exact core h1 h2 h3 h4 h5
    · simp only [Bool.and_eq_true] at h
      obtain ⟨⟨⟨⟨h1, h2⟩, h3⟩, h4⟩, h5⟩ := h
      exact pt_plain (core h1 h2 h3 h4 h5) fun _ => rfl
  | .lc vs tg k it cs elt, X, We, kn, x => by
    have ii := fun x tg h => chkI_ok (fz := false) it kn k tg x h
    have ic := fun {X : Cx} {We : WX} (kn : Kn X We cl P) xs => chkTs_ok cs kn xs
    have ie := fun {X : Cx} {We : WX} (kn : Kn X We cl P) y => (chkE_ok elt kn y).1
    unfold Both chkE
    constructor <;> intro h <;> split at h <;> first | (cases h; done) | (simp at h; done) | skip
    simp only [Bool.and_eq_true] at h
    obtain ⟨⟨⟨⟨⟨⟨⟨⟨_, h1⟩, h2⟩, h3⟩, h4⟩, h5⟩, h6⟩, h7⟩, hh⟩ := h
    have hh : P.hot = false := by simpa using hh
    obtain ⟨pi, hs⟩ := ii _ _ h4 h5
    exact pe_lcG (kn.calm hh) kn.nd pi (blkOk_by h1) h3 (fun s H C c fp => by rw [← tG_wx (wx_blk (kn.calm hh) s H _ _ fp)]; exact tgB_ok (X := X.blk s H _ _ fp) (kn.calm hh) kn.nd h2) (fun s H C c fp => by rw [← tTs_wx (wx_blk (kn.calm hh) s H _ _ fp)]; exact ic (kn.blk hh s H _ _ fp) _ h6) (fun s H C c fp => by rw [← tE_wx (wx_blk (kn.calm hh) s H _ _ fp)]; exact ie (kn.blk hh s H _ _ fp) _ h7) hs
theorem chkEs_ok : (es : Es) → ∀ {X : Cx} {We : WX} (kn : Kn X We cl P) (xs : List Expr), chkEs P X.N X.env.scope es xs = true → PA X xs (tEs X We cl P es) ∧ PA X xs (tXs X We cl P es)
  | .nil, X, We, kn, xs => by
    intro h
    cases xs with
    | nil => exact a_nil
    | cons x xs => unfold chkEs at h; cases h
  | .cons e es, X, We, kn, xs => by
    intro h
    cases xs with
    | nil => unfold chkEs at h; cases h
    | cons x xs =>
      unfold chkEs at h
      simp only [Bool.and_eq_true] at h
      have i1 := chkEs_ok es kn xs h.2
      exact a_cons h.1.1 ((chkE_ok e kn x).1 h.1.2) i1.1 i1.2
theorem chkTs_ok : (es : Es) → ∀ {X : Cx} {We : WX} (kn : Kn X We cl P) (xs : List Expr), chkTs P X.N X.env.scope es xs = true → PTs X xs (tTs X We cl P es)
  | .nil, X, We, kn, xs => by
    intro h
    cases xs with
    | nil =>
      refine PTs_imp pts_nil fun σ H Q q => ?_
      obtain ⟨g, env, S, hr, hs, q⟩ := q
      unfold evT at q
      exact q g H hr (Ext.refl _ _)
    | cons x xs => unfold chkTs at h; cases h
  | .cons e es, X, We, kn, xs => by
    intro h
    have ie := (chkE_ok e kn)
    unfold chkTs at h
    split at h
    · cases ‹Es.cons _ _ = Es.nil›
    · rename_i e' es' x he
      cases he
      rw [Bool.and_eq_true] at h
      obtain ⟨h1, h2⟩ := h
      split at h1
      · refine PTs_imp (pts_one ((ie _).2 h2)) fun σ H Q q => ?_
        obtain ⟨g, env, S, hr, hs, q⟩ := q
        unfold evT at q
        refine useT (fun r S => rfl) hr hs q fun b S1 g1 H1 hr1 x1 hs1 q1 => ?_
        cases b with
        | true =>
          unfold evT at q1
          exact q1 g1 H1 hr1 x1
        | false => exact q1 g1 H1 hr1 x1
      · cases h1
    · cases h
theorem chkI_ok {fz : Bool} : (es : Es) → ∀ {X : Cx} {We : WX} (kn : Kn X We cl P) (k : Ik) (tg x : Expr), (match k, tg with
        | .zip, .Tuple _ _ _ => true
        | .zip, _ => false
        | .enum, .Tuple _ _ _ => true
        | .enum, _ => false
        | _, _ => true) = true → chkI P X.N X.env.scope k es x = true → PI X tg x (tI X We cl P fz k es) ∧ ∀ v, foldedSetIterable x X.env v = pure v
  | .nil, X, We, kn, k, tg, x => by
    intro _ h
    unfold chkI at h
    cases h
  | .cons e es, X, We, kn, k, tg, x => by
    intro ht h
    have ie := fun y => (chkE_ok e kn y).1
    have is := fun xs => chkEs_ok es kn xs
    have pa : ∀ {l xs}, notStar l = true → chkE P X.N X.env.scope false e l = true → chkEs P X.N X.env.scope es xs = true → PA X (l :: xs) (tAz X We cl P fz (.cons e es)) := fun {l xs} h1 h2 h3 => by
      have := a_cons h1 (ie _ h2) (is _ h3).1 (is _ h3).2
      cases fz with
      | true => exact this.1
      | false => exact this.2
    unfold chkI at h
    cases k with
    | seq =>
      simp only [Bool.and_eq_true] at h
      obtain ⟨⟨h1, h2⟩, h3⟩ := h
      split at h1
      · refine ⟨pi_seq (ie _ h3), fun v => ?_⟩
        cases x <;> first | rfl | (cases h2; done)
      · cases h1
    | rng =>
      simp only at h
      split at h
      · simp only [Bool.and_eq_true, Bool.or_eq_true, decide_eq_true_eq] at h
        obtain ⟨⟨⟨⟨⟨rfl, h1⟩, h2⟩, h3⟩, h4⟩, h5⟩ := h
        refine ⟨?_, fun v => rfl⟩
        rename_i l xs _
        have hl := chkEs_len _ _ h5
        rcases h2 with h2 | h2
        · obtain rfl : xs = [] := List.length_eq_zero_iff.mp h2
          cases es with
          | nil => exact pi_rng1 (glB_ok h1) (kn.free _ (by decide +kernel)) (pa h3 h4 h5) h3
          | cons e' es => cases hl.1
        · obtain ⟨r, rfl⟩ := len1 h2
          cases es with
          | nil => cases hl.1
          | cons e' es =>
            cases es with
            | nil => exact pi_rng2 (glB_ok h1) (kn.free _ (by decide +kernel)) (pa h3 h4 h5) h3 (by simpa using hl.2)
            | cons e2 es => have := hl.1; simp [Es.len] at this
      · cases h
    | zip =>
      simp only at h
      split at h
      · simp only [Bool.and_eq_true, Bool.or_eq_true, decide_eq_true_eq] at h
        obtain ⟨⟨⟨⟨⟨rfl, h1⟩, h2⟩, h3⟩, h4⟩, h5⟩ := h
        refine ⟨?_, fun v => rfl⟩
        rename_i l xs _
        have hl := chkEs_len _ _ h5
        obtain ⟨r, rfl⟩ := len1 h2
        cases es with
        | nil => cases hl.1
        | cons e' es =>
          cases es with
          | nil =>
            split at ht <;> first | (cases ht; done) | skip
            · exact pi_zip (glB_ok h1) (kn.free _ (by decide +kernel)) (pa h3 h4 h5) h3 (by simpa using hl.2)
            all_goals (simp_all; done)
          | cons e2 es => have := hl.1; simp [Es.len] at this
      · cases h
    | enum =>
      simp only at h
      split at h
      · simp only [Bool.and_eq_true, Bool.or_eq_true, decide_eq_true_eq] at h
        obtain ⟨⟨⟨⟨⟨rfl, h1⟩, h2⟩, h3⟩, h4⟩, h5⟩ := h
        refine ⟨?_, fun v => rfl⟩
        rename_i l xs _
        have hl := chkEs_len _ _ h5
        obtain rfl : xs = [] := List.length_eq_zero_iff.mp h2
        cases es with
        | nil =>
          split at ht <;> first | (cases ht; done) | skip
          all_goals first | exact pi_en (glB_ok h1) (kn.free _ (by decide +kernel)) (pa h3 h4 h5) h3 | (simp_all; done)
        | cons e' es => cases hl.1
      · cases h
end
end
end Gz
end -- GzM
section -- GzN
/-! GzN: statements' readings, each form. -/
namespace Gz
open PySem PySem.Spec PyProof.Rows L2 RZ
def WpS (o : SO) (nx : Env → Store → Prop) (rt : Rv → Store → Prop) (ex : Str → Env → Store → Prop) : Prop := match o with
  | .nx env S => nx env S
  | .rt r S => rt r S
  | .ex x env S => ex x env S
  | .no => False
section
variable {nx nx' : Env → Store → Prop} {rt rt' : Rv → Store → Prop} {ex ex' : Str → Env → Store → Prop}
theorem WpS.mono {o : SO} (h : WpS o nx rt ex) (h1 : ∀ a S, nx a S → nx' a S) (h2 : ∀ a S, rt a S → rt' a S) (h3 : ∀ x a S, ex x a S → ex' x a S) : WpS o nx' rt' ex' := by
  cases o with
  | nx env S => exact h1 _ _ h
  | rt r S => exact h2 _ _ h
  | ex x env S => exact h3 _ _ _ h
  | no => exact h.elim
theorem WpS.then_ {o : SO} {f : Env → Store → SO} (h : WpS (o.then_ f) nx rt ex) : WpS o (fun env S => WpS (f env S) nx rt ex) rt ex := by
  cases o with
  | nx env S => exact h
  | rt r S => exact h
  | ex x env S => exact h
  | no => exact h
theorem WpS.toO {α : Type} {o : Option α} {f : α → SO} (h : WpS (Out.toO o f) nx rt ex) : ∃ a, o = some a ∧ WpS (f a) nx rt ex := by
  cases o with
  | none => exact h.elim
  | some a => exact ⟨a, rfl, h⟩
end
/-- the state within a def that was entered at (g0, H0) -/
structure StR (W : Wx) (g0 : Gh) (H0 : Hp) (g : Gh) (H : Hp) (S : Store) (σ : L2.St) (env : Env) : Prop where
  hr : HRel W g H S
  hs : SRel W g H σ env
  x : Ext g0 H0 g H
  fr : ∀ (i : Nat) c a, env[i]? = some c → c.isOwn = true → σ[i]? = some (some (.ref a)) → H0 a = none
theorem StR.ext {W : Wx} {g0 g g' : Gh} {H0 H H' : Hp} {S S' : Store} {σ : L2.St} {env : Env} (s : StR W g0 H0 g H S σ env) (hr : HRel W g' H' S') (x : Ext g H g' H') : StR W g0 H0 g' H' S' σ env := ⟨hr, s.hs.ext x, s.x.trans x, s.fr⟩
theorem StR.back {W : Wx} {g0 g : Gh} {H0 H : Hp} {S : Store} {σ : L2.St} {env : Env} (s : StR W g0 H0 g H S σ env) {g' : Gh} {H' : Hp} {r : Rv} {v : V} (h : RvIs W H g' H' r v) : RvIs W H0 g' H' r v := h.back s.x.hs
section
variable (X : Cx) (We : WX) (cl : Calls) (P : Prog) (g0 : Gh) (H0 : Hp)
def exS : Str → Env → Store → Prop := fun x env' S' => ∀ c g' H' σ', StR (wx X) g0 H0 g' H' S' σ' env' → ExC (wx X) x c → We c none σ' H'
def rtS (Q : VK) : Rv → Store → Prop := fun r S' => ∀ v g' H', HRel (wx X) g' H' S' → Ext g0 H0 g' H' → RvIs (wx X) H0 g' H' r v → Q v H'
def nxS (g : Gh) (Q : L2.St → Hp → Prop) : Env → Store → Prop := fun env' S' => ∀ σ' g' H', GLe g g' → StR (wx X) g0 H0 g' H' S' σ' env' → Q σ' H'
def tSt (f : Env → Store → SO) : TS := fun D σ H => ∃ g env S, StR (wx X) g0 H0 g H S σ env ∧ WpS (f env S) (nxS X g0 H0 g D.nx) (rtS X g0 H0 D.rt) (exS X We g0 H0)
end
section
variable {X : Cx} {We : WX} {cl : Calls} {P : Prog} {g0 : Gh} {H0 : Hp}
theorem exS.ee {g : Gh} {H : Hp} {S S' : Store} {σ : L2.St} {env : Env} (s : StR (wx X) g0 H0 g H S σ env) {x : Str} (h : exS X We g0 H0 x env S') : EEx (wx X) We σ g H x S' := fun c g' H' hr x' q => h c g' H' σ (s.ext hr x') q
theorem st_bind {α : Type} {o : Out α} {env : Env} {f : α → Store → SO} {g : Gh} {H : Hp} {S : Store} {σ : L2.St} {nx : Env → Store → Prop} {rt : Rv → Store → Prop} (s : StR (wx X) g0 H0 g H S σ env) (h : WpS (o.st env f) nx rt (exS X We g0 H0)) :
    Wpo o (fun a S => WpS (f a S) nx rt (exS X We g0 H0)) (EEx (wx X) We σ g H) := by
  cases o with
  | ok a S => exact h
  | exc x S => exact exS.ee s h
  | no => exact h
/-- an expression, then what follows -/
theorem sE {e : E} {k : Rv → Store → SO} {nx : Env → Store → Prop} {rt : Rv → Store → Prop} {R : VK} {g : Gh} {H : Hp} {S : Store} {σ : L2.St} {env : Env} (s : StR (wx X) g0 H0 g H S σ env) (h : WpS ((evE cl P e env S).st env k) nx rt (exS X We g0 H0))
    (n : ∀ r S1 v g1 H1, StR (wx X) g0 H0 g1 H1 S1 σ env → Ext g H g1 H1 → RvIs (wx X) H g1 H1 r v → WpS (k r S1) nx rt (exS X We g0 H0) → R v H1) : tE X We cl P e σ H R :=
  ⟨g, env, S, s.hr, s.hs, (st_bind s h).mono (fun r S1 q v g1 H1 hr1 x1 rv => n r S1 v g1 H1 (s.ext hr1 x1) x1 rv q) fun _ _ z => z⟩
theorem nxS.le {g g1 : Gh} {Q : L2.St → Hp → Prop} {env : Env} {S : Store} (e : GLe g g1) (h : nxS X g0 H0 g Q env S) : nxS X g0 H0 g1 Q env S := fun σ' g' H' l s => h σ' g' H' (e.trans l) s
theorem StR.keep {g : Gh} {H : Hp} {S : Store} {σ σ' : L2.St} {env env' : Env} {W : Wx} (s : StR W g0 H0 g H S σ env) (hs : SRel W g H σ' env') (kp : Keep env σ env' σ') : StR W g0 H0 g H S σ' env' :=
  ⟨s.hr, hs, s.x, fun i c a e q h => by
    obtain ⟨e1, e2⟩ := kp i c e q
    rw [e2] at h
    exact s.fr i c a e1 q h⟩
theorem StR.put {g : Gh} {H : Hp} {S : Store} {σ : L2.St} {env : Env} {W : Wx} (s : StR W g0 H0 g H S σ env) (i : Nat) {d : D} {v : V} (h : Is W g d v) : StR W g0 H0 g H S (σ.set i (some v)) (setE env i (.fr d)) := s.keep (s.hs.put i h) Keep.put
/-- a value that is held -/
theorem StR.hold {g g1 : Gh} {H H1 : Hp} {S S1 : Store} {σ : L2.St} {env : Env} (s : StR (wx X) g0 H0 g H S σ env) (hr : HRel (wx X) g1 H1 S1) (x : Ext g H g1 H1) {r : Rv} {v : V} {d : D} (rv : RvIs (wx X) H g1 H1 r v) (e : r.hold = some d) :
    ∃ g2, StR (wx X) g0 H0 g2 H1 S1 σ env ∧ Ext g H g2 H1 ∧ Is (wx X) g2 d v := by
  obtain ⟨g2, hr2, x2, hd⟩ := holdE hr x rv e
  exact ⟨g2, s.ext hr2 x2, x2, hd⟩
/-- a new list or dict as a slot's own -/
theorem SRel.own {W : Wx} {g g1 : Gh} {H H1 : Hp} {S1 : Store} {σ : L2.St} {env : Env} (hs : SRel W g H σ env) (x : Ext g H g1 H1) {r : Rv} {v : V} {c : Cell} (rv : RvIs W H g1 H1 r v) (e : r.cell = some c) (i : Nat) :
    SRel W g1 H1 (σ.set i (some v)) (setE env i c) ∧ (∃ a, v = .ref a ∧ H a = none) := by
  have h1 := hs.ext x
  unfold Rv.cell at e
  have core : OwnA W g1 H1 r.d v ∧ (∀ a, v = .ref a → H a = none) ∧ CellIs W g1 H1 c (some v) := by
    split at e
    · rename_i l hk hd
      cases e
      unfold RvIs at rv
      rw [hk] at rv
      refine ⟨rv.1, rv.2, ?_⟩
      obtain ⟨⟨l', ed, q⟩ | ⟨ks, vs, ed, q⟩, _⟩ := rv.1
      · rw [hd] at ed; cases ed; exact ⟨v, rfl, q⟩
      · rw [hd] at ed; cases ed
    · rename_i ks vs hk hd
      cases e
      unfold RvIs at rv
      rw [hk] at rv
      refine ⟨rv.1, rv.2, ?_⟩
      obtain ⟨⟨l', ed, q⟩ | ⟨ks, vs, ed, q⟩, _⟩ := rv.1
      · rw [hd] at ed; cases ed
      · rw [hd] at ed; cases ed; exact ⟨v, rfl, q⟩
    · cases e
  obtain ⟨oa, fr, ci⟩ := core
  obtain ⟨a, u, rfl, ea, _, nb⟩ := oa.has
  have ha := fr a rfl
  refine ⟨⟨by unfold setE; rw [List.length_set, List.length_set]; exact h1.len, fun j c' e' => ?_, fun j k c1 c2 b e1 e2 q1 q2 z1 z2 => ?_⟩, a, rfl, ha⟩
  · unfold setE at e'
    rw [List.getElem?_set] at e'
    rw [List.getElem?_set, h1.len]
    split at e'
    · rename_i q
      subst q
      rw [if_pos rfl]
      split at e'
      · rename_i q
        cases e'
        rw [if_pos q]
        exact ⟨_, rfl, ci, fun _ b eb => by cases eb; exact nb⟩
      · cases e'
    · rename_i q
      rw [if_neg q]
      exact h1.at_ j c' e'
  · have old : ∀ (j : Nat) c1 b, j ≠ i → (setE env i c)[j]? = some c1 → c1.isOwn = true → (σ.set i (some (V.ref a)))[j]? = some (some (.ref b)) → b ≠ a := fun j c1 b hj e1 q1 z1 hb => by
      unfold setE at e1
      rw [List.getElem?_set_ne (Ne.symm hj)] at e1 z1
      obtain ⟨o, eo, hc, _⟩ := hs.at_ j c1 e1
      obtain ⟨b', u', eb, hb', _⟩ := hc.has q1
      rw [eo] at z1
      cases z1
      cases eb
      rw [hb, ha] at hb'
      cases hb'
    by_cases hj : j = i
    · by_cases hk : k = i
      · rw [hj, hk]
      · subst hj
        have hlt : j < σ.length := by
          rcases Nat.lt_or_ge j σ.length with q | q
          · exact q
          · rw [List.getElem?_eq_none (by rw [List.length_set]; exact q)] at z1; cases z1
        rw [List.getElem?_set_self hlt] at z1
        cases z1
        exact absurd rfl (old k c2 _ hk e2 q2 z2)
    · by_cases hk : k = i
      · subst hk
        have hlt : k < σ.length := by
          rcases Nat.lt_or_ge k σ.length with q | q
          · exact q
          · rw [List.getElem?_eq_none (by rw [List.length_set]; exact q)] at z2; cases z2
        rw [List.getElem?_set_self hlt] at z2
        cases z2
        exact absurd rfl (old j c1 _ hj e1 q1 z1)
      · unfold setE at e1 e2
        rw [List.getElem?_set_ne (Ne.symm hj)] at e1 z1
        rw [List.getElem?_set_ne (Ne.symm hk)] at e2 z2
        exact h1.dis j k c1 c2 b e1 e2 q1 q2 z1 z2
theorem s_asg {i : Nat} {st : Stmt} {e : E} (h : PS X st (tAsg (tE X We cl P e) (gName i))) : PS X st (tSt X We g0 H0 (evS cl P (.asg i e))) := by
  refine PS_imp h fun D σ H q => ?_
  obtain ⟨g, env, S, s, q⟩ := q
  unfold evS at q
  refine sE s q fun r S1 v g1 H1 s1 x1 rv q1 => ?_
  obtain ⟨d, ed, q2⟩ := q1.toO
  obtain ⟨g2, s2, x2, hd⟩ := s.hold s1.hr x1 rv ed
  exact q2 _ g2 H1 x2.le (s2.put i hd)
theorem s_asgO {i : Nat} {st : Stmt} {e : E} (h : PS X st (tAsg (tE X We cl P e) (gName i))) : PS X st (tSt X We g0 H0 (evS cl P (.asgO i e))) := by
  refine PS_imp h fun D σ H q => ?_
  obtain ⟨g, env, S, s, q⟩ := q
  unfold evS at q
  refine sE s q fun r S1 v g1 H1 s1 x1 rv q1 => ?_
  obtain ⟨c, ec, q2⟩ := q1.toO
  obtain ⟨hs2, a, rfl, ha⟩ := SRel.own (S1 := S1) s.hs x1 rv ec i
  refine q2 _ g1 H1 x1.le ⟨s1.hr, hs2, s1.x, fun j c' b e' q' z => ?_⟩
  unfold setE at e'
  by_cases hj : i = j
  · subst hj
    have hlt : i < σ.length := by
      rcases Nat.lt_or_ge i σ.length with q | q
      · exact q
      · rw [List.getElem?_eq_none (by rw [List.length_set]; exact q)] at z; cases z
    rw [List.getElem?_set_self hlt] at z
    cases z
    cases e0 : H0 a with
    | none => rfl
    | some u => obtain ⟨u', e1⟩ := s.x.hs a u e0; rw [ha] at e1; cases e1
  · rw [List.getElem?_set_ne hj] at e' z
    exact s.fr j c' b e' q' z
theorem s_asgT {l : List Nat} {st : Stmt} {e : E} (h : PS X st (tAsg (tE X We cl P e) (tG X (.many l)))) : PS X st (tSt X We g0 H0 (evS cl P (.asgT l e))) := by
  refine PS_imp h fun D σ H q => ?_
  obtain ⟨g, env, S, s, q⟩ := q
  unfold evS at q
  refine sE s q fun r S1 v g1 H1 s1 x1 rv q1 => ?_
  obtain ⟨env', ee, q2⟩ := q1.toO
  cases hd : r.hold with
  | none =>
    exfalso
    unfold Tg.bind at ee
    simp only at ee
    split at ee
    · rename_i ds ed
      unfold Rv.hold at hd
      split at hd
      · rename_i hk
        unfold RvIs at rv
        rw [hk] at rv
        obtain ⟨⟨l', e', _⟩ | ⟨ks, vs, e', _⟩, _⟩ := rv
        · rw [ed] at e'; cases e'
        · rw [ed] at e'; cases e'
      · cases hd
    · cases ee
  | some d =>
    obtain ⟨g2, s2, x2, hi⟩ := s.hold s1.hr x1 rv hd
    have e3 : d = r.d := by
      unfold Rv.hold at hd
      split at hd
      · cases hd
      · cases hd; rfl
    subst e3
    exact ⟨g2, env, S1, r.d, env', s2.hr, s2.hs, hi, ee, fun σ' hs' _ kp => q2 σ' g2 H1 x2.le (s2.keep hs' kp)⟩
theorem s_ret {st : Stmt} {e : E} (h : PS X st (tRet (tE X We cl P e))) : PS X st (tSt X We g0 H0 (evS cl P (.ret e))) := by
  refine PS_imp h fun D σ H q => ?_
  obtain ⟨g, env, S, s, q⟩ := q
  unfold evS at q
  exact sE s q fun r S1 v g1 H1 s1 x1 rv q1 => q1 v g1 H1 s1.hr s1.x (s.back rv)
theorem s_expr {st : Stmt} {e : E} (h : PS X st (tDrop (tE X We cl P e))) : PS X st (tSt X We g0 H0 (evS cl P (.expr e))) := by
  refine PS_imp h fun D σ H q => ?_
  obtain ⟨g, env, S, s, q⟩ := q
  unfold evS at q
  exact sE s q fun r S1 v g1 H1 s1 x1 rv q1 => q1 σ g1 H1 x1.le s1
theorem s_pass {st : Stmt} (h : PS X st tNext) : PS X st (tSt X We g0 H0 (evS cl P .pass)) := by
  refine PS_imp h fun D σ H q => ?_
  obtain ⟨g, env, S, s, q⟩ := q
  unfold evS at q
  exact q σ g H (GLe.refl _) s
theorem s_retO {i : Nat} {x : Str} {p pos : Pos} (hN : X.N[i]? = some x) (hv : visB X.env.scope x = true) (hn : nameB x = true) : PS X (.Return (some (.Name x p)) pos) (tSt X We g0 H0 (evS cl P (.retO i))) := by
  obtain ⟨n1, n2, _⟩ := nameB_ok hn
  refine PS_imp (ps_ret (pe_var hN (visB_ok hv) n1 n2)) fun D σ H q => ?_
  obtain ⟨g, env, S, s, q⟩ := q
  unfold evS at q
  cases ec : env[i]? with
  | none => rw [ec] at q; exact q.elim
  | some c =>
    rw [ec] at q
    obtain ⟨o, eo, hc, nb⟩ := s.hs.at_ i c ec
    cases c with
    | un => exact q.elim
    | fr d => exact q.elim
    | own l =>
      obtain ⟨v, rfl, hv⟩ := hc
      refine ⟨v, eo, q v g H s.hr s.x ⟨⟨.inl ⟨l, rfl, hv⟩, fun a ea => nb rfl a (by rw [ea])⟩, fun a ea => s.fr i _ a ec rfl (by rw [eo, ea])⟩⟩
    | owd ks vs =>
      obtain ⟨v, rfl, hv⟩ := hc
      refine ⟨v, eo, q v g H s.hr s.x ⟨⟨.inr ⟨ks, vs, rfl, hv⟩, fun a ea => nb rfl a (by rw [ea])⟩, fun a ea => s.fr i _ a ec rfl (by rw [eo, ea])⟩⟩
theorem s_if {y : Expr} {st : TS} {as bs : List Stmt} {c : E} {a b : Ss} {pos : Pos} (hc : PT X y (tT X We cl P c)) (ha : PSs X as (tSt X We g0 H0 (evSs cl P a))) (hb : PSs X bs (tSt X We g0 H0 (evSs cl P b))) :
    PS X (.If y as bs pos) (tSt X We g0 H0 (evS cl P (.ifs c a b))) := by
  refine PS_imp (ps_if hc ha hb) fun D σ H q => ?_
  obtain ⟨g, env, S, s, q⟩ := q
  unfold evS at q
  have q1 := st_bind s q
  refine ⟨g, env, S, s.hr, s.hs, ?_⟩
  cases e1 : evE cl P c env S with
  | no => rw [e1] at q1; exact q1
  | exc x S1 => rw [e1] at q1; exact q1
  | ok r S1 =>
    rw [e1] at q1
    obtain ⟨t, et, q2⟩ := WpS.toO (o := r.d.truth) q1
    show Wpo (truthR r S1) _ _
    unfold truthR
    rw [et]
    intro g1 H1 hr1 x1
    have s1 := s.ext hr1 x1
    cases t with
    | true =>
      simp only [if_true]
      exact ⟨g1, env, S1, s1, WpS.mono q2 (fun _ _ z => nxS.le x1.le z) (fun _ _ z => z) fun _ _ _ z => z⟩
    | false =>
      simp only [Bool.false_eq_true, if_false]
      exact ⟨g1, env, S1, s1, WpS.mono q2 (fun _ _ z => nxS.le x1.le z) (fun _ _ z => z) fun _ _ _ z => z⟩
theorem ss_nil : PSs X [] (tSt X We g0 H0 (evSs cl P .nil)) := by
  refine PSs_imp pss_nil fun D σ H q => ?_
  obtain ⟨g, env, S, s, q⟩ := q
  unfold evSs at q
  exact q σ g H (GLe.refl _) s
theorem ss_cons {st : Stmt} {sts : List Stmt} {a : Gz.S} {b : Ss} (h1 : PS X st (tSt X We g0 H0 (evS cl P a))) (h2 : PSs X sts (tSt X We g0 H0 (evSs cl P b))) : PSs X (st :: sts) (tSt X We g0 H0 (evSs cl P (.cons a b))) := by
  refine PSs_imp (pss_cons h1 h2) fun D σ H q => ?_
  obtain ⟨g, env, S, s, q⟩ := q
  unfold evSs at q
  refine ⟨g, env, S, s, q.then_.mono (fun env' S' z σ' g' H' l s' => ?_) (fun _ _ z => z) fun _ _ _ z => z⟩
  exact ⟨g', env', S', s', WpS.mono z (fun _ _ z => nxS.le l z) (fun _ _ z => z) fun _ _ _ z => z⟩
theorem s_for {tg it : Expr} {body : List Stmt} {t : Tg} {k : Ik} {es : Es} {b : Ss} {pos : Pos} (hp : PassesOwn (model X.prog X.w) X.A X.env X.xe) (hc : X.calm = true) (hi : PI X tg it (tI X We cl P true k es)) (hg : PG X tg (tG X t))
    (hb : PSs X body (tSt X We g0 H0 (evSs cl P b))) (hs : ∀ x, foldedSetIterable it X.env x = pure x) : PS X (.For tg it body [] pos) (tSt X We g0 H0 (evS cl P (.for_ t k es b))) := by
  refine PS_imp (ps_for hp hc hi hg hb hs) fun D σ H q => ?_
  obtain ⟨g, env, S, s, q⟩ := q
  unfold evS at q
  have q1 := st_bind s q
  refine ⟨g, env, S, s.hr, s.hs, ?_⟩
  show Wpo ((evEs cl P es env S).bind fun xs S => ofOpt (itEv k xs) S) _ _
  cases e1 : evEs cl P es env S with
  | no => rw [e1] at q1; exact q1
  | exc x S1 => rw [e1] at q1; exact q1
  | ok xs S1 =>
    rw [e1] at q1
    obtain ⟨ds, ed, q2⟩ := WpS.toO (o := itEv k xs) q1
    show Wpo (ofOpt (itEv k xs) S1) _ _
    rw [ed]
    intro J g1 H1 hr1 x1 y
    have s1 := s.ext hr1 x1
    obtain ⟨G, Y, w, hG, hY⟩ := y.ex
    refine for_it w (fun i σ H => ∃ g2 env S2, StR (wx X) g0 H0 g2 H S2 σ env ∧ GLe g1 g2 ∧ WpS (forLoop (fun d env S => Out.toO (t.bind env d) fun env => evSs cl P b env S) (ds.drop i) env S2) (nxS X g0 H0 g D.nx) (rtS X g0 H0 D.rt) (exS X We g0 H0)) ?_ ?_ ?_ ?_
    · exact ⟨g1, env, S1, s1, GLe.refl _, q2⟩
    · rintro i σ2 H2 _ ⟨g2, env2, S2, s2, l2, _⟩
      exact hG g2 H2 S2 s2.hr ⟨l2, fun z => by cases z⟩
    · rintro i x σ2 H2 H3 hi ⟨g2, env2, S2, s2, l2, q3⟩ y2
      obtain ⟨g3, d, hr3, x3, ed, hd⟩ := hY i H2 x H3 g2 S2 s2.hr ⟨l2, fun z => by cases z⟩ hi y2
      have hdrop : ds.drop i = d :: ds.drop (i + 1) := by
        rw [List.drop_eq_getElem_cons hi]
        rw [List.getElem?_eq_getElem hi] at ed
        cases ed
        rfl
      rw [hdrop] at q3
      unfold forLoop at q3
      have q4 := q3.then_
      obtain ⟨env', ee, q5⟩ := q4.toO
      have s3 := s2.ext hr3 x3
      refine ⟨g3, env2, S2, d, env', hr3, s3.hs, hd, ee, fun σ' hs' _ kp => ⟨g3, env', S2, s3.keep hs' kp, q5.mono (fun env'' S'' z σ'' g'' H'' l s'' => ?_) (fun _ _ z => z) fun _ _ _ z => z⟩⟩
      exact ⟨g'', env'', S'', s'', (l2.trans x3.le).trans l, z⟩
    · rintro σ2 H2 ⟨g2, env2, S2, s2, l2, q3⟩
      rw [List.drop_eq_nil_of_le (Nat.le_refl _)] at q3
      exact q3 σ2 g2 H2 (x1.le.trans l2) s2
theorem s_while {y : Expr} {body : List Stmt} {c : E} {b : Ss} {pos : Pos} (hp : PassesOwn (model X.prog X.w) X.A X.env X.xe) (hc : PT X y (tT X We cl P c)) (hb : PSs X body (tSt X We g0 H0 (evSs cl P b))) :
    PS X (.While y body [] pos) (tSt X We g0 H0 (evS cl P (.whil c b))) := by
  refine PS_imp (ps_while hp hc hb) fun D σ H q => ?_
  obtain ⟨g, env, S, s, q⟩ := q
  unfold evS at q
  have hne : whileD (fun env S => (evE cl P c env S).bind truthR) (fun env S => evSs cl P b env S) env S ≠ .no := fun e => by rw [e] at q; exact q
  obtain ⟨n, hn⟩ := whileD_ex hne
  rw [← hn] at q
  refine ⟨fun m σ H => ∃ g2 env S2, StR (wx X) g0 H0 g2 H S2 σ env ∧ GLe g g2 ∧ WpS (whileN (fun env S => (evE cl P c env S).bind truthR) (fun env S => evSs cl P b env S) m env S2) (nxS X g0 H0 g D.nx) (rtS X g0 H0 D.rt) (exS X We g0 H0), ⟨n, g, env, S, s, GLe.refl _, q⟩, ?_⟩
  rintro m σ2 H2 ⟨g2, env2, S2, s2, l2, q2⟩
  cases m with
  | zero => exact q2.elim
  | succ m =>
    unfold whileN at q2
    refine ⟨g2, env2, S2, s2.hr, s2.hs, (st_bind s2 q2).mono (fun t S3 q3 g3 H3 hr3 x3 => ?_) fun _ _ z => z⟩
    have s3 := s2.ext hr3 x3
    cases t with
    | false =>
      simp only [Bool.false_eq_true, if_false]
      exact q3 σ2 g3 H3 (l2.trans x3.le) s3
    | true =>
      simp only [if_true]
      have q4 := WpS.then_ (o := evSs cl P b env2 S3) q3
      refine ⟨_, fun σ' H' z => ⟨m, Nat.lt_succ_self m, z⟩, g3, env2, S3, s3, WpS.mono q4 (fun env' S' z σ' g' H' l s' => ?_) (fun _ _ z => z) fun _ _ _ z => z⟩
      exact ⟨g', env', S', s', (l2.trans x3.le).trans l, z⟩
end
end Gz
end -- GzN
section -- GzNs
/-! GzNs: xs[a:b] = ys, b behind the end, too. -/
namespace L2
open PySem PySem.Spec PyProof.Rows
section
variable {prog : Program} {w : World} {A : Around} {E : Value → Shared → Prop} {s : Shared}
theorem bounds_far {a0 c0 a c n : Nat} (hac : a0 ≤ c0) (ha : a = min a0 n) (hc : c = min c0 n) : sliceBounds (some (a0 : Int)) (some (c0 : Int)) none n = ((a : Int), (c : Int), 1) := by
  simp only [sliceBounds, Option.getD_none]
  have h1 : ¬ ((a0 : Int) < 0) := by omega
  have h2 : ¬ ((c0 : Int) < 0) := by omega
  simp only [h1, h2, if_false, show (1 : Int) > 0 by decide, if_true]
  congr 1
  · omega
  · congr 1; omega
/-- a slice that may end behind the end -/
theorem setItem_far {l b sl : Addr} {items new : Array Value} {n n2 : Nat} {vl vu : Value} {a0 c0 a c : Nat} {Q : Unit → Shared → Prop}
    (e : s.heap.get? l = some { cls := .type "list", data := .seq items n }) (e2 : s.heap.get? b = some { cls := .type "list", data := .seq new n2 }) (hne : l ≠ b)
    (hs : s.heap.IsSliceOf sl vl vu .none) (pl : IsPart vl (some (a0 : Int))) (pu : IsPart vu (some (c0 : Int))) (hac0 : a0 ≤ c0) (ha : a = min a0 items.size) (hc0 : c = min c0 items.size)
    (hsz : items.size + new.size ≤ sizeLine) (h : Q () { s with heap := s.heap.update l (Obj.mapSeq fun xs => xs.extract 0 a ++ new ++ xs.extract c xs.size) }) :
    wpAny (model prog w) A (setItem (.ref l) (.ref sl) (.ref b)) Q E s := by
  have hac : a ≤ c := by omega
  have hc : c ≤ items.size := by omega
  have hl : s.heap.IsList l items := PySem.IsL.isList e
  have hb : s.heap.IsList b new := PySem.IsL.isList e2
  obtain ⟨os, hos, hcs, hds⟩ := id hs
  have hTs : s.TypeIs (.ref sl) "slice" := ⟨os, hos, hcs⟩
  have hstep : ¬ ((rawPart none == rawInt 0) = true) := Bool.false_ne_true
  have hsame : Builtin.List.listSameRef (.ref l) (.ref b) = false := by
    unfold Builtin.List.listSameRef
    exact beq_eq_false_iff_ne.mpr hne
  have hmax : (max (a : Int) (c : Int)).toNat = c := by omega
  have hz' : ((fun xs : Array Value => xs.extract 0 a ++ new ++ xs.extract c xs.size) items).size ≤ sizeLine + 1 := by
    simp only [Array.size_append, Array.size_extract]
    omega
  unfold setItem
  try with_reducible refine wpAny_holding ?_
  first | refine wpAny_bind (wpAny_pure ?_) | skip
  refine wpAny_bind (wpAny_sequenceKey hl.typeIs (by decide) ?_)
  refine wpAny_bind (wpAny_callSpecial?_slot (name := Str.ofString "__setitem__") hl.typeIs slot_list_setitem
    (wpAny_call_entry slot_list_setitem hl.typeIs entry_list_setitem ?_ (args_list_setitem _ _ _)))
  show wpAny _ _ (Builtin.List.listSubscript? (.ref sl) >>= _) _ _ s
  refine wpAny_bind ?_
  unfold Builtin.List.listSubscript?
  refine wpAny_bind (wpAny_specialOf hTs slice_no_index ?_)
  simp only [Option.isNone_none, if_true]
  refine wpAny_pure ?_
  show wpAny _ _ (typeOf (.ref sl) >>= _) _ _ s
  refine wpAny_bind (wpAny_typeOf hTs ?_)
  first
    | rw [if_neg (by decide)]
    | refine PySem.W.KFB.if_not (by decide) ?_
  rw [listSliceParts_eq]
  refine wpAny_bind (wpAny_bind (wpAny_field hos hds (x := .none) rfl (wpAny_bind (wpAny_listPart .none ?_))))
  rw [if_neg hstep]
  refine wpAny_bind (wpAny_field hos hds (x := vl) rfl (wpAny_bind (wpAny_listPart pl ?_)))
  refine wpAny_bind (wpAny_field hos hds (x := vu) rfl (wpAny_bind (wpAny_listPart pu (wpAny_pure ?_))))
  first
    | simp only [hsame, Bool.false_eq_true, if_false]
    | refine PySem.W.KFB.if_not hsame ?_
    | (dsimp only
       rw [if_neg (by rw [hsame]; exact Bool.false_ne_true)])
  refine wpAny_bind (m := Builtin.List.listAllItems (.ref b) "must assign iterable to extended slice") ?_
  unfold Builtin.List.listAllItems
  refine wpAny_bind (wpAny_typeOf hb.typeIs ?_)
  first
    | refine PySem.W.KFB.if_so (by decide) ?_
    | rw [if_pos (by decide)]
    | simp only [beq_self_eq_true, Bool.true_or, if_true]
  unfold Builtin.List.listItems
  refine wpAny_bind (wpAny_seqItems e2 rfl (wpAny_pure ?_))
  refine wpAny_bind (wpAny_bind (wpAny_seqItems e rfl (wpAny_pure ?_)))
  refine wpAny_bind (wpAny_of_eq ((sliceIndices_raw (some (a0 : Int)) (some (c0 : Int)) none items.size (by simp)).trans (congrArg (pure : Int × Int × Int → Sem (Int × Int × Int)) (bounds_far hac0 ha hc0))) ?_)
  show wpAny _ _ (if ((1 : Int) == 1) = true then _ else _) _ _ s
  rw [if_pos (by decide)]
  refine wpAny_bind (wpAny_rule ?_)
  first
    | simp only [notLongL hsz, Bool.false_eq_true, if_false]
    | refine PySem.W.KFB.if_not (notLongL hsz) ?_
  first | refine wpAny_bind (wpAny_pure ?_) | skip
  show wpAny _ _ (updateSeq l (fun xs => xs.extract 0 ((a : Int)).toNat ++ new ++ xs.extract (max (a : Int) (c : Int)).toNat xs.size) >>= _) _ _ s
  rw [hmax, Int.toNat_natCast]
  refine wpAny_bind (wpAny_updateSeq (hz := Nat.le_trans (Nat.le_add_right _ _) hsz) (_hz' := hz') e rfl ?_)
  refine wpAny_bind (wpAny_letGo ?_)
  first
    | exact wpAny_bind (wpAny_pure (wpAny_pure ⟨.none, rfl, wpAny_pure h⟩))
    | exact wpAny_pure ⟨.none, rfl, wpAny_pure h⟩
end
section
variable {X : Cx}
theorem set_far {pins : List (Addr × Obj)} {s : Shared} {σ : L2.St} {H : Hp} {l b sl : Addr} {xs ys : List V} {a c : Int} {vl vu : Value} {Q : Unit → Shared → Prop} (I : Inv X pins σ H s)
    (hH : H l = some (.lst xs)) (hB : H b = some (.lst ys)) (hne : l ≠ b) (hs : s.heap.IsSliceOf sl vl vu .none) (ra : RelV (.int a) vl) (rc : RelV (.int c) vu) (h0 : 0 ≤ a) (hac : a ≤ c)
    (hz : xs.length + ys.length ≤ sizeLine) (h : ∀ s', Inv X pins σ (upd H l (.lst (xs.take a.toNat ++ ys ++ xs.drop c.toNat))) s' → Q () s') :
    wpAny (model X.prog X.w) X.A (setItem (.ref l) (.ref sl) (.ref b)) Q X.xe s := by
  obtain ⟨ta, rfl⟩ := ra
  obtain ⟨tc, rfl⟩ := rc
  obtain ⟨z, its, n, r, hl, e⟩ := I.lstM hH
  obtain ⟨z2, its2, n2, r2, hl2, e2⟩ := I.lstM hB
  obtain ⟨a', rfl⟩ := Int.eq_ofNat_of_zero_le h0
  obtain ⟨c', rfl⟩ := Int.eq_ofNat_of_zero_le (Int.le_trans h0 hac)
  simp only [Int.toNat_natCast] at h
  have tk : xs.take (min a' its.length) = xs.take a' := by
    rw [← hl]
    by_cases q : a' ≤ xs.length
    · rw [Nat.min_eq_left q]
    · rw [Nat.min_eq_right (by omega), List.take_of_length_le (Nat.le_refl _), List.take_of_length_le (by omega)]
  have dr : xs.drop (min c' its.length) = xs.drop c' := by
    rw [← hl]
    by_cases q : c' ≤ xs.length
    · rw [Nat.min_eq_left q]
    · rw [Nat.min_eq_right (by omega), List.drop_of_length_le (Nat.le_refl _), List.drop_of_length_le (by omega)]
  rw [← tk, ← dr] at h
  refine setItem_far (a0 := a') (c0 := c') (a := min a' its.length) (c := min c' its.length) e e2 hne hs (.int _ _) (.int _ _) (by omega) (by rw [List.size_toArray]) (by rw [List.size_toArray]) (by rw [List.size_toArray, List.size_toArray]; omega) (h _ ?_)
  refine I.lset (its' := its.take (min a' its.length) ++ its2 ++ its.drop (min c' its.length)) (t' := s.toks) hH e ?_ (Vals.append (Vals.append (r.take _) r2) (r.drop _)) ?_
  · exact splice_eq its its2 (min a' its.length) (min c' its.length)
  · rw [List.length_append, List.length_append, List.length_take, List.length_drop]
    omega
end
end L2
end -- GzNs
section -- GzEx
/-! GzEx: xs.extend of a tuple. -/
namespace HT
open PySem PySem.Spec PyProof.Rows PySem.W PySem.Calls
theorem ext_tup (l : Addr) (items : Array Value) (n : Nat) (b : Addr) (o : Obj) (items2 : Array Value) (n2 : Nat) (hz : items.size + items2.size ≤ sizeLine) (hlong : ¬ (!items.isEmpty && Builtin.List.listTooLong (items.size + items2.size)) = true) :
    Meets (Builtin.«list.extend» ⟨[.ref l, .ref b], []⟩) (fun _ R s => s.heap.get? l = some { cls := .type "list", data := .seq items n } ∧ s.heap.get? b = some o ∧ o.cls = .type "tuple" ∧ o.data = .seq items2 n2 ∧ R (.ok (.ret .none)) { s with heap := s.heap.update l (Obj.mapSeq (· ++ items2)) }) :=
  .of_wp fun prog w A R s h => by
    obtain ⟨hl, ho, hc, hd, h⟩ := h
    have ht : (Builtin.List.listSameRef (Value.ref l) (.ref b) || Value.type "tuple" == Value.type "list" || Value.type "tuple" == Value.type "tuple") = true := by
      rw [show (Value.type "tuple" == Value.type "tuple") = true by rfl]; simp
    show wpAny _ A.in1 (Builtin.List.listExtendWith (.ref l) (.ref b) .none) _ _ s
    unfold Builtin.List.listExtendWith
    refine wpAny_bind (wpAny_typeOf (T := "tuple") ⟨o, ho, hc⟩ ?_)
    rw [if_pos ht]
    refine wpAny_bind (listItems_at ho hd ?_)
    refine wpAny_bind (listItems_at hl rfl ?_)
    rw [if_neg hlong]
    refine wpAny_bind (listUpdate_at hl rfl ?_ (by omega) (by rw [Array.size_append]; omega))
    exact wpAny_pure ⟨_, rfl, h⟩
end HT
namespace Gz
open PySem PySem.Spec PyProof.Rows L2
section
variable {X : Cx}
def rExtT (K : PySem.W.Frag) : V → List V → Hp → VK → Prop := fun x vs H Q => ∃ l b xs zs, x = .ref l ∧ vs = [.ref b] ∧ H l = some (.lst xs) ∧ SqT K H b zs ∧ xs.length + zs.length ≤ sizeLine ∧ Q .non (upd H l (.lst (xs ++ zs)))
theorem mt_ext2 : MtM X "list.extend" (fun x vs H Q => rExtend x vs H Q ∨ rExtT X.K x vs H Q) := by
  intro pins s σ H x vs v us Q I rx rv h
  rcases h with h | ⟨l, b, xs, zs, rfl, rfl, hH, hB, hz, q⟩
  · exact mt_extend pins s σ H x vs v us Q I rx rv h
  cases rx
  obtain ⟨u, rfl, ru⟩ := rv.one
  cases ru
  obtain ⟨z, its, n, r, hl, e⟩ := I.lstM hH
  obtain ⟨its2, r2, ⟨o, ho, hc, n2, hd⟩, z2⟩ := I.tuple hB
  have l2 : zs.length = its2.length := r2.length
  have sz : its.toArray.size + its2.toArray.size ≤ sizeLine := by rw [List.size_toArray, List.size_toArray]; omega
  refine call_meets F.slot_list_extend ⟨_, e, rfl⟩ F.entry_list_extend (F.args_list_extend_2 _ _) (HT.ext_tup l its.toArray n b o its2.toArray n2 sz (by rw [notLongL sz, Bool.and_false]; exact Bool.false_ne_true)) ⟨e, ho, hc, hd, .non, _, I.lset (its' := its ++ its2) (t' := s.toks) hH e (by simp) (r.append r2) (by rw [List.length_append]; omega), rfl, q⟩
end
end Gz
end -- GzEx
section -- GzO
/-! GzO: more statements. -/
namespace Gz
open PySem PySem.Spec PyProof.Rows L2 RZ
theorem st1 {a : Expr} (h : notStar a = true) : (match (generalizing := false) a with | .Starred .. => true | _ => false) = false := by cases a <;> first | rfl | cases h
theorem sw_par {x y : Str} {a b : Expr} {px py pt pt2 : Pos} {kt k2 : Nat} {env : PySem.Env} (hk : env.scope.kind = .function) (hx : env.scope.names.lookup x = some .local) (hy : env.scope.names.lookup y = some .local) (hne : (x == y) = false) (hl : (py.line == px.line) = true)
    (ha : notStar a = true) (hb : notStar b = true) (h1 : [a, b].all (foldedForSure 8) = false) (h2 : [a, b].all (constantsAlone 8) = false) :
    swappedStores [.Tuple [.Name x px, .Name y py] kt pt] (.Tuple [a, b] k2 pt2) env = pure (some [x, y]) := by
  have kx : env.kindOf x = some .local := hx
  have ky : env.kindOf y = some .local := hy
  have hbk : env.blockKind = .function := by unfold Env.blockKind; rw [hk]; rfl
  have her : ([x, y].eraseDups).length = 2 := by
    have hne' : (y == x) = false := by
      cases e : (y == x) with
      | false => rfl
      | true => have := eq_of_beq e; rw [this] at hne; simp at hne
    simp [List.eraseDups_cons, hne']
  have e1 : List.length [x, y] = 2 := rfl
  unfold swappedStores
  simp only [hbk, h1, h2, kx, ky, hl, List.filterMap_cons, List.filterMap_nil, List.any_cons, List.any_nil, List.length_cons, List.length_nil, Expr.pos, List.head?_cons, Option.map_some, Option.getD_some, beq_self_eq_true, Bool.and_self, Bool.true_and, if_true, her]
  rw [if_neg (by decide), if_neg (fun hh => ?_)]
  · rfl
  · rw [Bool.or_eq_true, Bool.or_eq_true] at hh
    rcases hh with q | q | q
    · clear h1 h2; cases a <;> first | (simp at q; done) | (simp [notStar] at ha; done)
    · clear h1 h2; cases b <;> first | (simp at q; done) | (simp [notStar] at hb; done)
    · cases q
section
variable {X : Cx} {We : WX} {cl : Calls} {P : Prog} {g0 : Gh} {H0 : Hp}
theorem s_par {i j : Nat} {x y : Str} {a b : E} {u v : Expr} {px py pt pt2 pos : Pos} {kt k2 : Nat} (hc : X.calm = true) (hN : X.N.Nodup) (hi : X.N[i]? = some x) (hj : X.N[j]? = some y) (hij : i ≠ j) (hk : X.env.scope.kind = .function)
    (hx : localB X.env.scope x = true) (hy : localB X.env.scope y = true) (hl : (py.line == px.line) = true) (ha : notStar u = true) (hb : notStar v = true) (h1 : [u, v].all (foldedForSure 8) = false) (h2 : [u, v].all (constantsAlone 8) = false)
    (h : PA X [u, v] (tEs X We cl P (.cons a (.cons b .nil)))) : PS X (.Assign [.Tuple [.Name x px, .Name y py] kt pt] (.Tuple [u, v] k2 pt2) pos) (tSt X We g0 H0 (evS cl P (.par i j a b))) := by
  have hne : (x == y) = false := by
    cases e : (x == y) with
    | false => rfl
    | true => have := eq_of_beq e; subst this; exact absurd (nodup_ix hN hi hj) hij
  refine PS_imp (ps_par hc hN hi hj hij (localB_ok hx) (localB_ok hy) h (sw_par hk (localB_ok hx) (localB_ok hy) hne hl ha hb h1 h2)) fun D σ H q => ?_
  obtain ⟨g, env, S, s, q⟩ := q
  unfold evS at q
  have q1 := st_bind s q
  refine ⟨g, env, S, s.hr, s.hs, q1.mono (fun ds S1 q2 vs g1 H1 hr1 x1 il => ?_) fun _ _ z => z⟩
  split at q2
  · rename_i d e
    have s1 := s.ext hr1 x1
    unfold IsL at il
    obtain ⟨v1, r, rfl, h1, il⟩ := il
    unfold IsL at il
    obtain ⟨v2, r, rfl, h2, il⟩ := il
    unfold IsL at il
    subst il
    exact ⟨v1, v2, rfl, q2 _ g1 H1 x1.le ((s1.put i h1).put j h2)⟩
  · exact q2.elim
/-- the slot's own list is written -/
theorem StR.rew {W : Wx} {g : Gh} {H : Hp} {S : Store} {σ : L2.St} {env : Env} (s : StR W g0 H0 g H S σ env) {i : Nat} {l l' : List D} {a : Addr} {xs' : List V} (ei : env[i]? = some (.own l)) (ea : σ[i]? = some (some (.ref a))) (il : IsL W g l' xs') :
    StR W g0 H0 g (upd H a (.lst xs')) S σ (setE env i (.own l')) := by
  obtain ⟨o, eo, ⟨v, rfl, a', xs, rfl, e1, nF, il0⟩, nb⟩ := s.hs.at_ i _ ei
  rw [ea] at eo; cases eo
  have nB := nb rfl a rfl
  have h0 : H0 a = none := s.fr i _ a ei rfl ea
  have oth : ∀ (j : Nat) c b, j ≠ i → env[j]? = some c → c.isOwn = true → σ[j]? = some (some (.ref b)) → b ≠ a := fun j c b hj ej qj zj e => hj (s.hs.dis j i c _ a ej ei qj rfl (by rw [← e]; exact zj) ea)
  refine ⟨s.hr.wr nF nB, ⟨by unfold setE; rw [List.length_set]; exact s.hs.len, fun j c e' => ?_, fun j k c1 c2 b e1' e2' q1 q2 z1 z2 => ?_⟩, s.x.wr h0, fun j c b e' q' z => ?_⟩
  · unfold setE at e'
    by_cases hj : i = j
    · subst hj
      rw [List.getElem?_set] at e'
      simp only [if_true] at e'
      split at e'
      · cases e'
        exact ⟨_, ea, ⟨_, rfl, a, xs', rfl, upd_same, nF, il⟩, fun _ b eb => by cases eb; exact nB⟩
      · cases e'
    · rw [List.getElem?_set_ne hj] at e'
      obtain ⟨o, eo, hc, nb'⟩ := s.hs.at_ j c e'
      refine ⟨o, eo, ?_, nb'⟩
      cases c with
      | un => trivial
      | fr d => exact hc
      | own l2 =>
        obtain ⟨v, rfl, b, ys, rfl, e2, n2, i2⟩ := hc
        exact ⟨_, rfl, b, ys, rfl, by rw [upd_ne (oth j _ b (Ne.symm hj) e' rfl eo)]; exact e2, n2, i2⟩
      | owd ks vs =>
        obtain ⟨v, rfl, b, ys, rfl, e2, n2, i2⟩ := hc
        exact ⟨_, rfl, b, ys, rfl, by rw [upd_ne (oth j _ b (Ne.symm hj) e' rfl eo)]; exact e2, n2, i2⟩
  · have old : ∀ (j : Nat) c, (setE env i (.own l'))[j]? = some c → c.isOwn = true → ∃ c', env[j]? = some c' ∧ c'.isOwn = true := fun j c e q => by
      unfold setE at e
      by_cases hj : i = j
      · subst hj; exact ⟨_, ei, rfl⟩
      · rw [List.getElem?_set_ne hj] at e; exact ⟨c, e, q⟩
    obtain ⟨c1', f1, p1⟩ := old j c1 e1' q1
    obtain ⟨c2', f2, p2⟩ := old k c2 e2' q2
    exact s.hs.dis j k c1' c2' b f1 f2 p1 p2 z1 z2
  · unfold setE at e'
    by_cases hj : i = j
    · subst hj
      exact s.fr i _ b ei rfl z
    · rw [List.getElem?_set_ne hj] at e'
      exact s.fr j c b e' q' z
theorem s_app {i : Nat} {x : Str} {e : E} {u : Expr} {p ap cp pos : Pos} (hN : X.N[i]? = some x) (hv : visB X.env.scope x = true) (hn : nameB x = true) (hp : (ap.endLine == cp.line) = true) (hu : notStar u = true) (h : PE X u (tE X We cl P e)) :
    PS X (.Expr (.Call (.Attribute (.Name x p) "append" ap) [u] [] cp) pos) (tSt X We g0 H0 (evS cl P (.app i e))) := by
  obtain ⟨n1, n2, _⟩ := nameB_ok hn
  refine PS_imp (ps_expr (pe_bm F.plainAttrs_list F.slot_list_append F.type_list_append mt_append (pe_var hN (visB_ok hv) n1 n2) (pa_cons h pa_nil (star1 hu _)) rfl (by rw [star1 hu]; rfl) hp (star1 hu _) rfl)) fun D σ H q => ?_
  obtain ⟨g, env, S, s, q⟩ := q
  unfold evS at q
  split at q
  · rename_i l ec
    obtain ⟨o, eo, ⟨v, rfl, a, xs, rfl, e1, nF, il⟩, nb⟩ := s.hs.at_ i _ ec
    refine ⟨.ref a, eo, .inl ⟨rfl, xs, SqL.of e1⟩, sE s q fun r S1 v g1 H1 s1 x1 rv q1 => ?_⟩
    obtain ⟨d, ed, q2⟩ := q1.toO
    obtain ⟨g2, s2, x2, hd⟩ := s.hold s1.hr x1 rv ed
    have e2 : H1 a = some (.lst xs) := x1.h a _ e1 (nb rfl a rfl)
    have il2 := il.mono x2.le
    have ll := il.length
    by_cases hl : l.length < lim
    · rw [if_pos hl] at q2
      rw [lim_eq] at hl
      exact ⟨a, xs, v, rfl, rfl, e2, by omega, q2 _ g2 _ x2.le (s2.rew ec eo (il2.append (.cons hd .nil)))⟩
    · rw [if_neg hl] at q2; exact q2.elim
  · exact q.elim
theorem s_ext {i : Nat} {x : Str} {e : E} {u : Expr} {p ap cp pos : Pos} (hN : X.N[i]? = some x) (hv : visB X.env.scope x = true) (hn : nameB x = true) (hp : (ap.endLine == cp.line) = true) (hu : notStar u = true) (h : PE X u (tE X We cl P e)) :
    PS X (.Expr (.Call (.Attribute (.Name x p) "extend" ap) [u] [] cp) pos) (tSt X We g0 H0 (evS cl P (.ext i e))) := by
  obtain ⟨n1, n2, _⟩ := nameB_ok hn
  refine PS_imp (ps_expr (pe_bm F.plainAttrs_list F.slot_list_extend F.type_list_extend mt_ext2 (pe_var hN (visB_ok hv) n1 n2) (pa_cons h pa_nil (star1 hu _)) rfl (by rw [star1 hu]; rfl) hp (star1 hu _) rfl)) fun D σ H q => ?_
  obtain ⟨g, env, S, s, q⟩ := q
  unfold evS at q
  split at q
  · rename_i l ec
    obtain ⟨o, eo, ⟨v, rfl, a, xs, rfl, e1, nF, il⟩, nb⟩ := s.hs.at_ i _ ec
    refine ⟨.ref a, eo, .inl ⟨rfl, xs, SqL.of e1⟩, sE s q fun r S1 v g1 H1 s1 x1 rv q1 => ?_⟩
    split at q1
    · rename_i l' ed
      have rp := rv.rep
      rw [ed] at rp
      obtain ⟨b, zs, rfl, eb, ib⟩ := rp.lst s1.hr
      have e2 : H1 a = some (.lst xs) := x1.h a _ e1 (nb rfl a rfl)
      have il2 := il.mono x1.le
      have ll := il.length
      have lb := ib.length
      by_cases hl : l.length + l'.length ≤ lim
      · rw [if_pos hl] at q1
        rw [lim_eq] at hl
        exact .inl ⟨a, b, xs, zs, rfl, rfl, e2, eb, by omega, q1 _ g1 _ x1.le (s1.rew ec eo (il2.append ib))⟩
      · rw [if_neg hl] at q1; exact q1.elim
    · rename_i l' ed
      have rp := rv.rep
      rw [ed] at rp
      obtain ⟨b, zs, rfl, eb, ib⟩ := rp.tup s1.hr
      have e2 : H1 a = some (.lst xs) := x1.h a _ e1 (nb rfl a rfl)
      have il2 := il.mono x1.le
      have ll := il.length
      have lb := ib.length
      by_cases hl : l.length + l'.length ≤ lim
      · rw [if_pos hl] at q1
        rw [lim_eq] at hl
        exact .inr ⟨a, b, xs, zs, rfl, rfl, e2, eb, by omega, q1 _ g1 _ x1.le (s1.rew ec eo (il2.append ib))⟩
      · rw [if_neg hl] at q1; exact q1.elim
    · exact q1.elim
  · exact q.elim
/-- x[a:b] = e -/
def gSl (i : Nat) (tlo thi : TE) : TG := fun v σ H Q => ∃ l, σ[i]? = some (some (.ref l)) ∧ tPart tlo σ H fun o H1 => ∃ a, o = some a ∧ tPart thi σ H1 fun o' H2 => ∃ c, o' = some c ∧ ∃ b xs ys, v = .ref b ∧ H2 l = some (.lst xs) ∧ H2 b = some (.lst ys) ∧ l ≠ b ∧
  0 ≤ a ∧ a ≤ c ∧ xs.length + ys.length ≤ sizeLine ∧ Q σ (upd H2 l (.lst (xs.take a.toNat ++ ys ++ xs.drop c.toNat)))
theorem pg_sl {i : Nat} {x : Str} {lo hi : Expr} {tlo thi : TE} {p p2 pos : Pos} (hN : X.N[i]? = some x) (hv : visB X.env.scope x = true) (hn : nameB x = true) (hlo : PE X lo tlo) (hhi : PE X hi thi) : PG X (.Subscript (.Name x p) (.Slice (some lo) (some hi) none p2) pos) (gSl i tlo thi) := by
  obtain ⟨n1, n2, _⟩ := nameB_ok hn
  refine ⟨fun pins s σ H v u Q I r h => ?_⟩
  obtain ⟨l, el, h⟩ := h
  have ha : assign (.Subscript (.Name x p) (.Slice (some lo) (some hi) none p2) pos) X.env u = (do
      let ov ← holding [u] (eval (.Name x p) X.env)
      let iv ← holding [u, ov] (eval (.Slice (some lo) (some hi) none p2) X.env)
      standAt pos
      holding [u, ov, iv] (setItem ov iv u)
      release [iv, u, ov] []) := rfl
  rw [ha]
  refine wpAny_bind (wpAny_holding (thn ((pe_var (pos := p) hN (visB_ok hv) n1 n2).run pins s σ H (fun v H1 => v = .ref l ∧ H1 = H) I ⟨.ref l, el, rfl, rfl⟩) fun ov s1 ⟨w, H1, I1, r1, q1⟩ => ?_))
  obtain ⟨rfl, rfl⟩ := q1
  cases r1
  refine wpAny_bind (wpAny_holding (wpAny_Slice (thn ((po_some hlo).run pins s1 σ H1 _ I1 h) fun vl s2 ⟨o, H2, I2, pl, a, eo, q2⟩ => ?_)))
  subst eo
  refine thn ((po_some hhi).run pins s2 σ H2 _ I2 q2) fun vu s3 ⟨o', H3, I3, pu, c, eo', b, xs, ys, ev, hl, hb, hne, h0, hac, hz, q3⟩ => ?_
  subst eo' ev
  cases r
  rw [evalPart_none]
  refine wpAny_pure ?_
  have I4 : Inv X pins σ H3 { s3 with heap := s3.heap.push { cls := .type "slice", data := .fields #[vl, vu, .none] } } := I3.kept (t' := s3.toks) fun b ob q => Heap.get?_push_of_some _ q
  cases pl with
  | int _ ta =>
    cases pu with
    | int _ tc =>
      refine wpAny_bind (wpAny_standAt (wpAny_bind (wpAny_holding (set_far I4 hl hb hne (Heap.IsSliceOf.new ..) ⟨ta, rfl⟩ ⟨tc, rfl⟩ h0 hac hz fun s5 I5 => ?_))))
      exact wpAny_release ⟨σ, _, I5, q3⟩
theorem s_setSl {i : Nat} {x : Str} {lo hi ve : Expr} {a b e : E} {p p2 tpos pos : Pos} (hN : X.N[i]? = some x) (hv : visB X.env.scope x = true) (hn : nameB x = true) (he : PE X ve (tE X We cl P e)) (hlo : PE X lo (tE X We cl P a)) (hhi : PE X hi (tE X We cl P b)) :
    PS X (.Assign [.Subscript (.Name x p) (.Slice (some lo) (some hi) none p2) tpos] ve pos) (tSt X We g0 H0 (evS cl P (.setSl i a b e))) := by
  refine PS_imp (ps_asg he (pg_sl hN hv hn hlo hhi) (by cases ve <;> rfl) (by cases ve <;> rfl) rfl) fun D σ H q => ?_
  obtain ⟨g, env, S, s, q⟩ := q
  unfold evS at q
  refine sE s q fun r S1 v g1 H1 s1 x1 rv q1 => ?_
  obtain ⟨d, ed, q2⟩ := q1.toO
  obtain ⟨g2, s2, x2, hd⟩ := s.hold s1.hr x1 rv ed
  split at q2
  · rename_i l' l ec
    obtain ⟨o, eo, ⟨w, rfl, la, xs, rfl, e1, nF, il⟩, nb⟩ := s2.hs.at_ i _ ec
    refine ⟨la, eo, sE s2 q2 fun r2 S2 v2 g3 H3 s3 x3 rv2 q3 => ?_⟩
    obtain ⟨n, en, q4⟩ := q3.toO
    have toI : ∀ {r : Rv} {n : Int}, r.d.toInt = some n → r.d = .int n := fun {r n} h => by
      cases e : r.d with
      | int i => rw [e] at h; cases h; rfl
      | _ => rw [e] at h; cases h
    have rp := rv2.rep
    rw [toI en] at rp
    cases rp.int
    refine ⟨n, rfl, n, rfl, sE s3 q4 fun r3 S3 v3 g4 H4 s4 x4 rv3 q5 => ?_⟩
    obtain ⟨m, em, q6⟩ := q5.toO
    have rp := rv3.rep
    rw [toI em] at rp
    cases rp.int
    refine ⟨m, rfl, m, rfl, ?_⟩
    have hd4 := (hd.mono x3.le).mono x4.le
    unfold Is at hd4
    obtain ⟨bq, ys, rfl, eF, iy⟩ := hd4
    have e3 : H3 la = some (.lst xs) := x3.h la _ e1 (nb rfl la rfl)
    have e4 : H4 la = some (.lst xs) := x4.h la _ e3 (x3.unb e1 (nb rfl la rfl))
    have n4 : g4.F la = none := x4.unf e3 (x3.unf e1 nF)
    have il4 := (il.mono x3.le).mono x4.le
    have ll := il4.length
    have ly := iy.length
    by_cases hh : 0 ≤ n ∧ n ≤ m ∧ l.length + l'.length ≤ lim
    · rw [if_pos hh] at q6
      obtain ⟨h0, hnm, hz⟩ := hh
      rw [lim_eq] at hz
      refine ⟨bq, xs, ys, rfl, e4, s4.hr.fh _ _ eF, (fun e => by rw [e] at n4; rw [n4] at eF; cases eF), h0, hnm, by omega, q6 _ g4 _ ((x2.le.trans x3.le).trans x4.le) (s4.rew ec eo (((il4.take _).append iy).append (il4.drop _)))⟩
    · rw [if_neg hh] at q6; exact q6.elim
  · exact q2.elim
end
end Gz
end -- GzO
section -- GzTx
/-! GzTx: raise; try. -/
namespace Gz
open PySem PySem.Spec PyProof.Rows L2 RZ
theorem evS_hot (cl : Calls) (P : Prog) (b : Bool) (hs : List Str) (s : Ss) : evSs cl { P with hot := b, hots := hs } s = evSs cl P s := by kernel_rfl
mutual
/-- where no error is in hand, none is in the data -/
theorem Is.noX {W : Wx} {g : Gh} (h0 : W.ex = none) : ∀ {d : D} {v : V}, Is W g d v → d.noX = true
  | .non, _, _ => by rw [D.noX] <;> simp
  | .bl _, _, _ => by rw [D.noX] <;> simp
  | .int _, _, _ => by rw [D.noX] <;> simp
  | .str _, _, _ => by rw [D.noX] <;> simp
  | .scr _, _, _ => by rw [D.noX] <;> simp
  | .fn _, _, _ => by rw [D.noX] <;> simp
  | .obj _, _, _ => by rw [D.noX] <;> simp
  | .tup l, _, h => by unfold Is at h; obtain ⟨a, xs, _, _, h⟩ := h; rw [D.noX]; exact IsL.noX h0 h
  | .lst l, _, h => by unfold Is at h; obtain ⟨a, xs, _, _, h⟩ := h; rw [D.noX]; exact IsL.noX h0 h
  | .dct ks vs, _, h => by unfold Is at h; obtain ⟨a, xs, _, _, _, h, _⟩ := h; rw [D.noX]; exact IsL.noX h0 h
  | .exc x, _, h => by unfold Is at h; obtain ⟨a, C, _, e, _⟩ := h; rw [h0] at e; cases e
theorem IsL.noX {W : Wx} {g : Gh} (h0 : W.ex = none) : ∀ {ds : List D} {vs : List V}, IsL W g ds vs → D.noXs ds = true
  | [], _, _ => by rw [D.noXs]
  | d :: ds, _, h => by
    unfold IsL at h
    obtain ⟨v, r, _, h1, h⟩ := h
    rw [D.noXs, Is.noX h0 h1, IsL.noX h0 h]
    rfl
end
mutual
theorem Is.toX {K : PySem.W.Frag} {mg : Str → Option Value} {m m' : Option (Addr × Addr)} {g : Gh} : ∀ {d : D} {v : V}, d.noX = true → Is ⟨K, mg, m⟩ g d v → Is ⟨K, mg, m'⟩ g d v
  | .non, _, _, h => by unfold Is at h ⊢; exact h
  | .bl _, _, _, h => by unfold Is at h ⊢; exact h
  | .int _, _, _, h => by unfold Is at h ⊢; exact h
  | .str _, _, _, h => by unfold Is at h ⊢; exact h
  | .scr _, _, _, h => by unfold Is at h ⊢; exact h
  | .fn _, _, _, h => by unfold Is at h ⊢; exact h
  | .obj _, _, _, h => by unfold Is at h ⊢; exact h
  | .tup l, _, q, h => by rw [D.noX] at q; unfold Is at h ⊢; obtain ⟨a, xs, rfl, h1, h2⟩ := h; exact ⟨a, xs, rfl, h1, IsL.toX q h2⟩
  | .lst l, _, q, h => by rw [D.noX] at q; unfold Is at h ⊢; obtain ⟨a, xs, rfl, h1, h2⟩ := h; exact ⟨a, xs, rfl, h1, IsL.toX q h2⟩
  | .dct ks vs, _, q, h => by rw [D.noX] at q; unfold Is at h ⊢; obtain ⟨a, xs, rfl, h1, h2, h3, h4⟩ := h; exact ⟨a, xs, rfl, h1, h2, IsL.toX q h3, h4⟩
  | .exc x, _, q, h => by rw [D.noX] at q; cases q
theorem IsL.toX {K : PySem.W.Frag} {mg : Str → Option Value} {m m' : Option (Addr × Addr)} {g : Gh} : ∀ {ds : List D} {vs : List V}, D.noXs ds = true → IsL ⟨K, mg, m⟩ g ds vs → IsL ⟨K, mg, m'⟩ g ds vs
  | [], _, _, h => by unfold IsL at h ⊢; exact h
  | d :: ds, _, q, h => by
    rw [D.noXs, Bool.and_eq_true] at q
    unfold IsL at h ⊢
    obtain ⟨v, r, e, h1, h⟩ := h
    exact ⟨v, r, e, Is.toX q.1 h1, IsL.toX q.2 h⟩
end
section
variable {K : PySem.W.Frag} {mg : Str → Option Value} {m m' : Option (Addr × Addr)} {g g0 : Gh} {H H0 : Hp} {σ : L2.St} {env : Env}
theorem Is.calm {d : D} {v : V} (h : Is ⟨K, mg, none⟩ g d v) : Is ⟨K, mg, m⟩ g d v := Is.toX (Is.noX rfl h) h
theorem IsL.calm {d : List D} {v : List V} (h : IsL ⟨K, mg, none⟩ g d v) : IsL ⟨K, mg, m⟩ g d v := IsL.toX (IsL.noX rfl h) h
theorem HRel.toX (h : HRel ⟨K, mg, m⟩ g H []) : HRel ⟨K, mg, m'⟩ g H [] :=
  ⟨h.fh, h.fb, h.bh, ⟨h.obs.dom, h.obs.inj, (fun k ob e => by simp at e), (fun k j ob ob' i i' n n' c c' a C dx vs C' dx' vs' e => by simp at e)⟩⟩
theorem SRel.calm (s : SRel ⟨K, mg, none⟩ g H σ env) : SRel ⟨K, mg, m⟩ g H σ env where
  len := s.len
  at_ := fun i c e => by
    obtain ⟨o, e1, h, nb⟩ := s.at_ i c e
    refine ⟨o, e1, ?_, nb⟩
    cases c with
    | un => trivial
    | fr d => obtain ⟨v, rfl, h⟩ := h; exact ⟨v, rfl, h.calm⟩
    | own l => obtain ⟨v, rfl, a, xs, rfl, e, n, hl⟩ := h; exact ⟨_, rfl, a, xs, rfl, e, n, hl.calm⟩
    | owd ks vs => obtain ⟨v, rfl, a, xs, rfl, e, n, hk, hl, hz⟩ := h; exact ⟨_, rfl, a, xs, rfl, e, n, hk, hl.calm, hz⟩
  dis := s.dis
theorem StR.calm (s : StR ⟨K, mg, none⟩ g0 H0 g H [] σ env) : StR ⟨K, mg, m⟩ g0 H0 g H [] σ env := ⟨s.hr.toX, s.hs.calm, s.x, s.fr⟩
end
theorem tSt_wx {X Y : Cx} (h : wx X = wx Y) {We : WX} {g0 : Gh} {H0 : Hp} {f : Env → Store → SO} : tSt X We g0 H0 f = tSt Y We g0 H0 f := by
  unfold tSt nxS rtS exS
  rw [h]
theorem wx_calm {X : Cx} (hc : X.calm = true) : wx X = ⟨X.K, X.mg, none⟩ := by
  show (⟨X.K, X.mg, exO X.calm X.pn⟩ : Wx) = _
  rw [hc, exO_calm]
/-- what the statements of a def's body need of it -/
structure Sx (X : Cx) : Prop where
  own : PassesOwn (model X.prog X.w) X.A X.env X.xe
  stk : X.stack = X.env :: X.outer
  frm : X.env.frame = some X.env.locals
section
variable {X : Cx} {We : WX} {cl : Calls} {P : Prog} {g0 : Gh} {H0 : Hp}
theorem s_rais (kn : Kn X We cl P) (hh : P.hot = false) {x m : Str} {j : Nat} {p p2 pos pos2 : Pos} (hg : glB X.env.scope x = true) (hn : nameB x = true) (hx : x ∈ P.excs) :
    PS X (.Raise (some (.Call (.Name x p) [.Constant (.str m) j p2] [] pos)) none pos2) (tSt X We g0 H0 (evS cl P (.rais x))) := by
  obtain ⟨C, E⟩ := kn.excs x hx
  refine PS_imp (ps_raise (kn.calm hh) kn.tk (pmk_own (m := m) PySem.F.excBase_ValueError E.inn E.at_ E.kp (raises_own E.sub E.ty) (glB_ok hg) (nameB_ok hn).1)) fun D σ H q => ?_
  obtain ⟨g, env, S, s, q⟩ := q
  unfold evS at q
  exact q (.ref C) g H σ s ⟨C, rfl, E.at_⟩
/-- the suite of an except clause -/
theorem kn_suite (kn : Kn X We cl P) (hh : P.hot = false) {a C : Addr} {oe : Obj} {pn : List (Addr × Obj)} (hz : Zc (.ref C) none oe) (hf : ∃ vs, oe.data = .fields vs) : wx (X.suite a ((a, oe) :: pn)) = ⟨X.K, X.mg, some (a, C)⟩ ∧ Kn (X.suite a ((a, oe) :: pn)) noWe cl P.hotP := by
  have hw : wx (X.suite a ((a, oe) :: pn)) = ⟨X.K, X.mg, some (a, C)⟩ := by
    show (⟨X.K, X.mg, exO false ((a, oe) :: pn)⟩ : Wx) = _
    have : exO false ((a, oe) :: pn) = some (a, C) := by
      unfold exO
      simp only [hz.1]
    rw [this]
  refine ⟨hw, ⟨⟨kn.cok.1⟩, fun h => (nomatch (show true = false from h)), kn.nd, takes_none5, fun h => (nomatch (show true = false from h)), fun _ f fn e hm => ?_, fun h => (nomatch (show true = false from h)), kn.excs, fun a' C' e => ?_, kn.nodef, fun x d e => ?_, kn.tabs, kn.free⟩⟩
  · obtain ⟨fa, fd, ps, k, h1, h2, F, hR, hB⟩ := kn.hotsC hh f fn e hm
    refine ⟨fa, fd, ps, k, (a, oe), h1, h2, ?_, ⟨hR.dp, hR.un⟩, hB, List.mem_cons_self⟩
    rw [hw]
    exact F a C oe hz hf
  · have e : exO false ((a, oe) :: pn) = some (a', C') := e
    have e2 : exO false ((a, oe) :: pn) = some (a, C) := by
      unfold exO
      simp only [hz.1]
    rw [e2] at e
    cases e
    exact ⟨oe, List.mem_cons_self, hz, hf⟩
  · rw [hw]
    obtain ⟨u, v, h1, h2, h3⟩ := kn.cons x d e
    refine ⟨u, v, h1, h2, fun g => ?_⟩
    have h4 := h3 g
    rw [wx_calm (kn.calm hh)] at h4
    exact h4.calm
theorem kn_try (kn : Kn X We cl P) (hh : P.hot = false) {W : WX} {pn : List (Addr × Obj)} {xe : Value → Shared → Prop} (tk : Takes (X.tr pn xe) W) : wx (X.tr pn xe) = wx X ∧ Kn (X.tr pn xe) W cl P := by
  have hw : wx (X.tr pn xe) = wx X := by
    show (⟨X.K, X.mg, exO X.calm pn⟩ : Wx) = ⟨X.K, X.mg, exO X.calm X.pn⟩
    rw [kn.calm hh, exO_calm, exO_calm]
  refine ⟨hw, ⟨⟨kn.cok.1⟩, kn.calm, kn.nd, tk, fun _ f fn e => ?_, fun h => absurd h (by rw [hh]; decide), kn.hotsC, kn.excs, fun a C e => ?_, kn.nodef, fun x d e => ?_, kn.tabs, kn.free⟩⟩
  · rw [hw]
    exact kn.calls hh f fn e
  · have e : exO X.calm pn = some (a, C) := e
    rw [kn.calm hh, exO_calm] at e
    cases e
  · rw [hw]
    exact kn.cons x d e
theorem s_try (kn : Kn X We cl P) (hh : P.hot = false) (sx : Sx X) {T n : Str} {i : Nat} {body suite : List Stmt} {b0 : Stmt} {b h : Ss} {np pos pos' : Pos} (hg : glB X.env.scope T = true) (hn : nameB T = true) (hT : T ∈ P.excs ∨ (T = ("GlazeError" : Str) ∧ P.excs ≠ [])) (hi : X.N[i]? = some n) (hl : localB X.env.scope n = true)
    (hb : ∀ {W : WX} {Y : Cx}, Kn Y W cl P → Sx Y → Y.N = X.N → Y.env = X.env → Y.fn = X.fn → PSs Y body (tSt Y W g0 H0 (evSs cl P b)))
    (hs : ∀ {W : WX} {Y : Cx}, Kn Y W cl P.hotP → Sx Y → Y.N = X.N → Y.env = X.env → Y.fn = X.fn → PSs Y (b0 :: suite) (tSt Y W g0 H0 (evSs cl P.hotP h))) :
    PS X (.Try body [.ExceptHandler (some (.Name T np)) (some n) (b0 :: suite) pos'] [] [] pos) (tSt X We g0 H0 (evS cl P (.try_ b T i h))) := by
  obtain ⟨DT, hDT⟩ : ∃ D, X.mg T = some (.ref D) := by
    rcases hT with hT | ⟨rfl, hne⟩
    · obtain ⟨C, E⟩ := kn.excs T hT
      exact ⟨C, E.at_⟩
    · cases e : P.excs with
      | nil => exact absurd e hne
      | cons y l =>
        obtain ⟨C, E⟩ := kn.excs y (by rw [e]; exact List.mem_cons_self)
        obtain ⟨D, h1, _⟩ := E.own _ (.inr rfl)
        exact ⟨D, h1⟩
  have hT' : T ∈ P.excs ∨ T = ("GlazeError" : Str) := hT.imp id And.left
  have hc := kn.calm hh
  refine PS_imp (ps_try_as (c := .ref DT) (i := i) (tb := fun W => tSt X W g0 H0 (evSs cl P b))
    (ts := fun a cls d => fun D σ H => d = none ∧ ∃ C, cls = .ref C ∧ tSt (X.suite a [(a, { cls := .ref C, dict := none, data := .fields #[] })]) noWe g0 H0 (evSs cl P.hotP h) D σ H) (Wout := We)
    sx.stk sx.frm kn.nd hi (localB_ok hl) ⟨glB_ok hg, (nameB_ok hn).1, .inl hDT⟩ kn.tk (fun W pn xe tk po => ?_) (fun a oe cls d pn hz hf => ⟨fun pins s σ H D I q => ?_⟩)) fun D σ H q => ?_
  · obtain ⟨hw, kn'⟩ := kn_try kn hh tk
    rw [← tSt_wx hw]
    exact hb kn' ⟨po, sx.stk, sx.frm⟩ rfl rfl rfl
  · obtain ⟨rfl, C, rfl, q⟩ := q
    obtain ⟨hw, kn'⟩ := kn_suite kn hh (a := a) (pn := pn) hz hf
    obtain ⟨hw2, _⟩ := kn_suite kn hh (a := a) (C := C) (oe := { cls := .ref C, dict := none, data := .fields #[] }) (pn := []) ⟨rfl, rfl⟩ ⟨_, rfl⟩
    rw [tSt_wx (hw2.trans hw.symm)] at q
    exact (hs kn' ⟨PassesOwn.never, sx.stk, sx.frm⟩ rfl rfl rfl).run pins s σ H D I q
  · obtain ⟨g, env, S, st, q⟩ := q
    unfold evS at q
    refine ⟨g, env, S, st, ?_⟩
    cases e : evSs cl P b env S with
    | nx env' S' => rw [e] at q; exact q
    | rt r S' => rw [e] at q; exact q
    | no => rw [e] at q; exact q.elim
    | ex x env' S' =>
      rw [e] at q
      intro c g' H' σ' st' xc
      obtain ⟨C, rfl, hmC⟩ := xc
      unfold SO.catch_ at q
      simp only at q
      by_cases hx : x ∈ P.excs
      · have ex : P.exs x T = some (excSub x T) := by unfold Prog.exs; rw [if_pos hx]
        rw [ex] at q
        obtain ⟨C', E⟩ := kn.excs x hx
        have hC : C' = C := by
          have e1 := E.at_
          have e2 : X.mg x = some (.ref C) := hmC
          rw [e1] at e2
          cases e2
          rfl
        subst hC
        obtain ⟨D', m1, _, m2⟩ := E.own T hT'
        have hD : D' = DT := by
          rw [hDT] at m1
          cases m1
          rfl
        subst hD
        refine ⟨excSub x T, m2, fun hb2 a na => ⟨rfl, C', rfl, ?_⟩, fun hb2 => ?_⟩
        · rw [hb2] at q
          cases S' with
          | cons _ _ => exact q.elim
          | nil =>
            simp only at q
            obtain ⟨hw2, _⟩ := kn_suite kn hh (a := a) (C := C') (oe := { cls := .ref C', dict := none, data := .fields #[] }) (pn := []) ⟨rfl, rfl⟩ ⟨_, rfl⟩
            have st2 := st'
            rw [wx_calm hc] at st2
            have st3 : StR (wx (X.suite a [(a, { cls := .ref C', dict := none, data := .fields #[] })])) g0 H0 g' H' [] (σ'.set i (some (.ref a))) (setE env' i (.fr (.exc x))) := by
              rw [hw2]
              exact st2.calm.put i (d := .exc x) (v := .ref a) (by unfold Is; exact ⟨a, C', rfl, rfl, hmC⟩)
            refine ⟨g', _, [], st3, ?_⟩
            rw [show evSs cl P.hotP h = evSs cl P h from evS_hot cl P true P.hots h]
            cases eh : evSs cl P h (setE env' i (.fr (.exc x))) [] with
            | nx _ _ => rw [eh] at q; exact q.elim
            | ex _ _ _ => rw [eh] at q; exact q.elim
            | no => rw [eh] at q; exact q.elim
            | rt r S2 =>
              rw [eh] at q
              obtain ⟨d, k⟩ := r
              cases k with
              | own => exact q.elim
              | bor => exact q.elim
              | fr =>
                cases S2 with
                | cons _ _ => exact q.elim
                | nil =>
                  unfold SO.caught at q
                  simp only at q
                  split at q
                  · rename_i hd
                    intro v g2 H2 hr2 x2 rv2
                    rw [hw2] at hr2 rv2
                    have hr3 : HRel (wx X) g2 H2 [] := by rw [wx_calm hc]; exact hr2.toX
                    have rv3 : RvIs (wx X) H0 g2 H2 (.fr d) v := by
                      rw [wx_calm hc]
                      exact Is.toX hd rv2
                    exact q v g2 H2 hr3 x2 rv3
                  · exact q.elim
        · rw [hb2] at q
          exact q (.ref C') g' H' σ' st' ⟨C', rfl, hmC⟩
      · have ex : P.exs x T = none := by unfold Prog.exs; rw [if_neg hx]
        rw [ex] at q
        exact q.elim
end
end Gz
end -- GzTx
section -- GzP
/-! GzP: the look at statements is enough; defs. -/
namespace Gz
open PySem PySem.Spec PyProof.Rows L2 RZ
def kfB (sc : Scope) : Bool := match sc.kind with
  | .function => true
  | _ => false
theorem kfB_ok {sc : Scope} (h : kfB sc = true) : sc.kind = .function := by
  unfold kfB at h
  split at h
  · assumption
  · cases h
def notComp : Expr → Bool
  | .ListComp _ _ _ _ => false
  | .SetComp _ _ _ _ => false
  | .DictComp _ _ _ _ _ => false
  | _ => true
/-- the value of name = value; a comprehension is stored at once -/
def swapB (sc : Scope) (x : Str) (p : Pos) : Expr → Bool
  | .ListComp _ _ scope q => localB sc x && (p.line == q.line) && !(scope.names.any fun (n, k) => n == x && (k == .local || k == .cell))
  | _ => false
def notSD : Expr → Bool
  | .SetComp _ _ _ _ => false
  | .DictComp _ _ _ _ _ => false
  | _ => true
/-- a, b, .. = value: no stores are swapped -/
def noSw (es : List Expr) : Expr → Bool
  | .Tuple vs _ _ => !(es.length == 2 || es.length == 3) || vs.length != es.length
  | e => notComp e
mutual
def chkS (P : Prog) (N : List Str) (sc : Scope) (fn : Str → Bool) : S → Stmt → Bool
  | .asg i e, st => match st with
    | .Assign [.Name x p] v _ => kfB sc && tg1B N sc fn i (.Name x p) && notSD v && chkE P N sc false e v
    | _ => false
  | .asgO i e, st => match st with
    | .Assign [.Name x p] v _ => kfB sc && tg1B N sc fn i (.Name x p) && notSD v && chkE P N sc false e v
    | _ => false
  | .asgT l e, st => match st with
    | .Assign [.Tuple es k p] v _ => tgB N sc fn (.many l) (.Tuple es k p) && noSw es v && chkE P N sc false e v && !P.hot
    | _ => false
  | .par i j a b, st => match st with
    | .Assign [.Tuple [.Name x px, .Name y py] _ _] (.Tuple [u, v] _ _) _ => kfB sc && decide (N[i]? = some x) && decide (N[j]? = some y) && decide (i ≠ j) && localB sc x && localB sc y && (py.line == px.line) && notStar u && notStar v &&
      !([u, v].all (foldedForSure 8)) && !([u, v].all (constantsAlone 8)) && chkE P N sc false a u && chkE P N sc false b v && !P.hot
    | _ => false
  | .app i e, st => match st with
    | .Expr (.Call (.Attribute (.Name x _) y ap) [u] [] cp) _ => decide (("append" : Str) = y) && decide (N[i]? = some x) && visB sc x && nameB x && (ap.endLine == cp.line) && notStar u && chkE P N sc false e u
    | _ => false
  | .ext i e, st => match st with
    | .Expr (.Call (.Attribute (.Name x _) y ap) [u] [] cp) _ => decide (("extend" : Str) = y) && decide (N[i]? = some x) && visB sc x && nameB x && (ap.endLine == cp.line) && notStar u && chkE P N sc false e u
    | _ => false
  | .setSl i a b e, st => match st with
    | .Assign [.Subscript (.Name x _) (.Slice (some lo) (some hi) none _) _] v _ => decide (N[i]? = some x) && visB sc x && nameB x && chkE P N sc false e v && chkE P N sc false a lo && chkE P N sc false b hi
    | _ => false
  | .setIx _ _ _, _ => false
  | .ret e, st => match st with
    | .Return (some v) _ => chkE P N sc false e v
    | _ => false
  | .retO i, st => match st with
    | .Return (some (.Name x _)) _ => decide (N[i]? = some x) && visB sc x && nameB x
    | _ => false
  | .ifs c a b, st => match st with
    | .If y as bs _ => chkE P N sc true c y && chkSs P N sc fn a as && chkSs P N sc fn b bs
    | _ => false
  | .for_ tg k it b, st => match st with
    | .For t i body [] _ => tgB N sc fn tg t && (match k, t with
        | .zip, .Tuple _ _ _ => true
        | .zip, _ => false
        | .enum, .Tuple _ _ _ => true
        | .enum, _ => false
        | _, _ => true) && chkI P N sc k it i && chkSs P N sc fn b body && !P.hot
    | _ => false
  | .whil c b, st => match st with
    | .While y body [] _ => chkE P N sc true c y && chkSs P N sc fn b body
    | _ => false
  | .expr e, st => match st with
    | .Expr v _ => notComp v && chkE P N sc false e v
    | _ => false
  | .pass, st => match st with
    | .Pass _ => true
    | .Expr (.Constant (.str _) _ _) _ => true
    | _ => false
  | .frz _, _ => false
  | .rais x, st => match st with
    | .Raise (some (.Call (.Name y _) [.Constant (.str _) _ _] [] _)) none _ => !P.hot && decide (x = y) && glB sc y && nameB y && decide (x ∈ P.excs)
    | _ => false
  | .try_ b T i h, st => match st with
    | .Try body [.ExceptHandler (some (.Name y _)) (some n) (s0 :: suite) _] [] [] _ => !P.hot && decide (T = y) && glB sc y && nameB y && (decide (T ∈ P.excs) || (decide (T = ("GlazeError" : Str)) && !P.excs.isEmpty)) && decide (N[i]? = some n) && localB sc n && chkSs P N sc fn b body && chkSs P.hotP N sc fn h (s0 :: suite)
    | _ => false
  | .never, _ => true
def chkSs (P : Prog) (N : List Str) (sc : Scope) (fn : Str → Bool) : Ss → List Stmt → Bool
  | .nil, sts => sts.isEmpty
  | .cons s ss, sts => match s with
    | .frz _ => chkSs P N sc fn ss sts
    | s => match sts with
      | st :: sts => chkS P N sc fn s st && chkSs P N sc fn ss sts
      | [] => false
end
section
variable {X : Cx} {We : WX} {cl : Calls} {P : Prog} {g0 : Gh} {H0 : Hp}
theorem chk_lc {N : List Str} {sc : Scope} {e : E} {elt : Expr} {gens : List Comprehension} {scope : Scope} {q : Pos} (h : chkE P N sc false e (.ListComp elt gens scope q) = true) : ∃ vs tg k it cs el, e = .lc vs tg k it cs el := by
  cases e with
  | lc vs tg k it cs el => exact ⟨vs, tg, k, it, cs, el, rfl⟩
  | _ => unfold chkE at h; simp at h
/-- name = value, both ways -/
theorem s_set (kn : Kn X We cl P) {i : Nat} {e : E} {x : Str} {p pos : Pos} {v : Expr} (hk : kfB X.env.scope = true) (ht : tg1B X.N X.env.scope X.fn i (.Name x p) = true) (hv : notSD v = true) (h : chkE P X.N X.env.scope false e v = true) :
    PS X (.Assign [.Name x p] v pos) (tAsg (tE X We cl P e) (gName i)) := by
  have pe := (chkE_ok e kn v).1 h
  have hk := kfB_ok hk
  have hb : X.env.blockKind = .function := by unfold Env.blockKind; rw [hk]; rfl
  unfold tg1B at ht
  simp only [Bool.and_eq_true, Bool.or_eq_true, decide_eq_true_eq] at ht
  obtain ⟨⟨hi, hl⟩, hf⟩ := ht
  cases sw : swapB X.env.scope x p v with
  | false =>
    refine ps_set kn.nd hi (locB_ok hl) pe ?_ (hf.imp id localB_ok)
    cases v <;> first | rfl | (simp [notSD] at hv; done) | skip
    rename_i elt gens scope q
    unfold swapsWith
    simp only [Expr.pos, hb]
    unfold swapB at sw
    unfold localB at sw
    cases hn : X.env.scope.names.lookup x with
    | none =>
      have : X.env.kindOf x = none := hn
      rw [this]
      rfl
    | some kd =>
      have hkk : X.env.kindOf x = some kd := hn
      rw [hn] at sw
      rw [hkk]
      cases kd with
      | «local» =>
        simp only [Bool.true_and] at sw
        show pure ((p.line == q.line) && !(scope.names.any _)) = _
        rw [sw]
      | _ => rfl
  | true =>
    unfold swapB at sw
    split at sw
    · rename_i elt gens scope q
      simp only [Bool.and_eq_true, Bool.not_eq_true'] at sw
      obtain ⟨⟨h1, h2⟩, h3⟩ := sw
      have hy := localB_ok h1
      have hsw : swapsWith (.ListComp elt gens scope q) (some (.Name x p)) pos.line X.env = pure true := sw_true hk hy h2 h3
      obtain ⟨vs, tg, k, it, cs, el, rfl⟩ := chk_lc h
      unfold chkE at h
      split at h
      · rename_i e2
        cases e2
        simp only [Bool.and_eq_true] at h
        obtain ⟨⟨⟨⟨⟨⟨⟨⟨_, h1⟩, h2⟩, h3⟩, h4⟩, h5⟩, h6⟩, h7⟩, hh⟩ := h
        have hh : P.hot = false := by simpa using hh
        obtain ⟨pi, hs⟩ := chkI_ok (fz := false) it kn k _ _ h4 h5
        exact ps_lcG (kn.calm hh) kn.nd hi hy hsw pi (blkOk_by h1) h3 (fun s H C c fp => by rw [← tG_wx (wx_blk (kn.calm hh) s H _ _ fp)]; exact tgB_ok (X := X.blk s H _ _ fp) (kn.calm hh) kn.nd h2) (fun s H C c fp => by rw [← tTs_wx (wx_blk (kn.calm hh) s H _ _ fp)]; exact chkTs_ok cs (kn.blk hh s H _ _ fp) _ h6) (fun s H C c fp => by rw [← tE_wx (wx_blk (kn.calm hh) s H _ _ fp)]; exact (chkE_ok el (kn.blk hh s H _ _ fp) _).1 h7) hs
      · cases h
    · cases sw
theorem noSw_ok {es : List Expr} {k : Nat} {p : Pos} {v : Expr} {env : PySem.Env} {l : Nat} (h : noSw es v = true) : swapsWithSole [.Tuple es k p] v l env = pure false ∧ swappedStores [.Tuple es k p] v env = pure none := by
  cases v <;> first | exact ⟨rfl, rfl⟩ | (simp [noSw, notComp] at h; done) | skip
  rename_i vs _ _
  refine ⟨rfl, ?_⟩
  unfold noSw at h
  unfold swappedStores
  simp only
  rw [if_pos]
  simp only [Bool.or_eq_true] at h ⊢
  exact .inl h
/-- the slot's own list or dict is frozen -/
theorem StR.frz {W : Wx} {g : Gh} {H : Hp} {S : Store} {σ : L2.St} {env : Env} (s : StR W g0 H0 g H S σ env) {i : Nat} {c : Cell} {d : D} (ei : env[i]? = some c) (hc : (∃ l, c = .own l ∧ d = .lst l) ∨ ∃ ks vs, c = .owd ks vs ∧ d = .dct ks vs) :
    ∃ g', GLe g g' ∧ StR W g0 H0 g' H S σ (setE env i (.fr d)) := by
  obtain ⟨o, eo, hci, nb⟩ := s.hs.at_ i c ei
  have hown : c.isOwn = true := by rcases hc with ⟨l, rfl, _⟩ | ⟨ks, vs, rfl, _⟩ <;> rfl
  have core : ∃ a u, o = some (.ref a) ∧ H a = some u ∧ g.F a = none ∧ ∀ g', GLe g g' → g'.F a = some u → Is W g' d (.ref a) := by
    rcases hc with ⟨l, rfl, rfl⟩ | ⟨ks, vs, rfl, rfl⟩
    · obtain ⟨v, rfl, a, xs, rfl, e1, nF, il⟩ := hci
      exact ⟨a, _, rfl, e1, nF, fun g' le ef => by unfold Is; exact ⟨a, xs, rfl, ef, il.mono le⟩⟩
    · obtain ⟨v, rfl, a, xs, rfl, e1, nF, nd, il, hz⟩ := hci
      exact ⟨a, _, rfl, e1, nF, fun g' le ef => by unfold Is; exact ⟨a, xs, rfl, ef, nd, il.mono le, hz⟩⟩
  obtain ⟨a, u, rfl, e1, nF, hi⟩ := core
  have nB := nb hown a rfl
  have h0 : H0 a = none := s.fr i c a ei hown eo
  obtain ⟨hr', x'⟩ := s.hr.freeze s.x e1 h0 nB
  have le := Gh.put_le (o := u) nF
  refine ⟨g.put a u, le, hr', ⟨by unfold setE; rw [List.length_set]; exact s.hs.len, fun j c' e' => ?_, fun j k c1 c2 b e1' e2' q1 q2 z1 z2 => ?_⟩, x', fun j c' b e' q' z => ?_⟩
  · unfold setE at e'
    by_cases hj : i = j
    · subst hj
      rw [List.getElem?_set] at e'
      simp only [if_true] at e'
      split at e'
      · cases e'
        exact ⟨_, eo, ⟨_, rfl, hi _ le upd_same⟩, fun q => by cases q⟩
      · cases e'
    · rw [List.getElem?_set_ne hj] at e'
      obtain ⟨o', eo', hc', nb'⟩ := s.hs.at_ j c' e'
      refine ⟨o', eo', ?_, nb'⟩
      have unf : ∀ b, c'.isOwn = true → o' = some (.ref b) → g.F b = none → (g.put a u).F b = none := fun b q ob nf => by
        show upd g.F a u b = none
        rw [upd_ne (fun e => hj (s.hs.dis i j c c' a ei e' hown q eo (by rw [eo', ob, e])))]
        exact nf
      cases c' with
      | un => trivial
      | fr d' => obtain ⟨v, rfl, h⟩ := hc'; exact ⟨v, rfl, h.mono le⟩
      | own l =>
        obtain ⟨v, rfl, b, ys, rfl, e2, n2, i2⟩ := hc'
        exact ⟨_, rfl, b, ys, rfl, e2, unf b rfl rfl n2, i2.mono le⟩
      | owd ks vs =>
        obtain ⟨v, rfl, b, ys, rfl, e2, n2, nd, i2, hz⟩ := hc'
        exact ⟨_, rfl, b, ys, rfl, e2, unf b rfl rfl n2, nd, i2.mono le, hz⟩
  · have old : ∀ (j : Nat) c', (setE env i (.fr d))[j]? = some c' → c'.isOwn = true → env[j]? = some c' := fun j c' e q => by
      unfold setE at e
      by_cases hj : i = j
      · subst hj
        rw [List.getElem?_set] at e
        simp only [if_true] at e
        split at e
        · cases e; cases q
        · cases e
      · rw [List.getElem?_set_ne hj] at e; exact e
    exact s.hs.dis j k c1 c2 b (old j c1 e1' q1) (old k c2 e2' q2) q1 q2 z1 z2
  · unfold setE at e'
    by_cases hj : i = j
    · subst hj
      rw [List.getElem?_set] at e'
      simp only [if_true] at e'
      split at e'
      · cases e'; cases q'
      · cases e'
    · rw [List.getElem?_set_ne hj] at e'
      exact s.fr j c' b e' q' z
theorem ss_frz {i : Nat} {sts : List Stmt} {b : Ss} (h : PSs X sts (tSt X We g0 H0 (evSs cl P b))) : PSs X sts (tSt X We g0 H0 (evSs cl P (.cons (.frz i) b))) := by
  refine PSs_imp h fun D σ H q => ?_
  obtain ⟨g, env, S, s, q⟩ := q
  unfold evSs evS at q
  have q1 := q.then_
  cases ec : env[i]? with
  | none => rw [ec] at q1; exact q1.elim
  | some c =>
    rw [ec] at q1
    have fin : ∀ {d : Gz.D}, ((∃ l, c = .own l ∧ d = .lst l) ∨ ∃ ks vs, c = .owd ks vs ∧ d = .dct ks vs) → WpS (evSs cl P b (setE env i (.fr d)) S) (nxS X g0 H0 g D.nx) (rtS X g0 H0 D.rt) (exS X We g0 H0) → tSt X We g0 H0 (evSs cl P b) D σ H := fun {d} hc q => by
      obtain ⟨g', le, s'⟩ := s.frz ec hc
      exact ⟨g', _, S, s', q.mono (fun _ _ z => nxS.le le z) (fun _ _ z => z) fun _ _ _ z => z⟩
    cases c with
    | un => exact q1.elim
    | fr d => exact q1.elim
    | own l => exact fin (.inl ⟨l, rfl, rfl⟩) q1
    | owd ks vs => exact fin (.inr ⟨ks, vs, rfl, rfl⟩) q1
end
section
variable {cl : Calls} {g0 : Gh} {H0 : Hp}
mutual
theorem chkS_ok : (a : Gz.S) → ∀ {P : Prog} {X : Cx} {We : WX} (kn : Kn X We cl P) (hp : Sx X) (st : Stmt), chkS P X.N X.env.scope X.fn a st = true → PS X st (tSt X We g0 H0 (evS cl P a))
  | .asg i e, P, X, We, kn, hp, st => by
    intro h
    unfold chkS at h
    split at h
    · simp only [Bool.and_eq_true] at h
      exact s_asg (s_set kn h.1.1.1 h.1.1.2 h.1.2 h.2)
    · cases h
  | .asgO i e, P, X, We, kn, hp, st => by
    intro h
    unfold chkS at h
    split at h
    · simp only [Bool.and_eq_true] at h
      exact s_asgO (s_set kn h.1.1.1 h.1.1.2 h.1.2 h.2)
    · cases h
  | .asgT l e, P, X, We, kn, hp, st => by
    intro h
    unfold chkS at h
    split at h
    · simp only [Bool.and_eq_true] at h
      have hh : P.hot = false := by simpa using h.2
      have h := h.1
      exact s_asgT (ps_asg ((chkE_ok e kn _).1 h.2) (tgB_ok (kn.calm hh) kn.nd h.1.1) (noSw_ok h.1.2).1 (noSw_ok (l := 0) h.1.2).2 rfl)
    · cases h
  | .par i j a b, P, X, We, kn, hp, st => by
    intro h
    unfold chkS at h
    split at h
    · simp only [Bool.and_eq_true, decide_eq_true_eq, Bool.not_eq_true'] at h
      obtain ⟨⟨⟨⟨⟨⟨⟨⟨⟨⟨⟨⟨⟨h0, h1⟩, h2⟩, h3⟩, h4⟩, h5⟩, h6⟩, h7⟩, h8⟩, h9⟩, h10⟩, h11⟩, h12⟩, hh⟩ := h
      exact s_par (kn.calm hh) kn.nd h1 h2 h3 (kfB_ok h0) h4 h5 h6 h7 h8 h9 h10 (a_cons h7 ((chkE_ok a kn _).1 h11) (a_cons h8 ((chkE_ok b kn _).1 h12) a_nil.1 a_nil.2).1 (a_cons h8 ((chkE_ok b kn _).1 h12) a_nil.1 a_nil.2).2).1
    · cases h
  | .app i e, P, X, We, kn, hp, st => by
    intro h
    unfold chkS at h
    split at h
    · simp only [Bool.and_eq_true, decide_eq_true_eq] at h
      obtain ⟨⟨⟨⟨⟨⟨rfl, h1⟩, h2⟩, h3⟩, h4⟩, h5⟩, h6⟩ := h
      exact s_app h1 h2 h3 h4 h5 ((chkE_ok e kn _).1 h6)
    · cases h
  | .ext i e, P, X, We, kn, hp, st => by
    intro h
    unfold chkS at h
    split at h
    · simp only [Bool.and_eq_true, decide_eq_true_eq] at h
      obtain ⟨⟨⟨⟨⟨⟨rfl, h1⟩, h2⟩, h3⟩, h4⟩, h5⟩, h6⟩ := h
      exact s_ext h1 h2 h3 h4 h5 ((chkE_ok e kn _).1 h6)
    · cases h
  | .setSl i a b e, P, X, We, kn, hp, st => by
    intro h
    unfold chkS at h
    split at h
    · simp only [Bool.and_eq_true, decide_eq_true_eq] at h
      obtain ⟨⟨⟨⟨⟨h1, h2⟩, h3⟩, h4⟩, h5⟩, h6⟩ := h
      exact s_setSl h1 h2 h3 ((chkE_ok e kn _).1 h4) ((chkE_ok a kn _).1 h5) ((chkE_ok b kn _).1 h6)
    · cases h
  | .setIx i a e, P, X, We, kn, hp, st => by
    intro h
    unfold chkS at h
    cases h
  | .ret e, P, X, We, kn, hp, st => by
    intro h
    unfold chkS at h
    split at h
    · exact s_ret (ps_ret ((chkE_ok e kn _).1 h))
    · cases h
  | .retO i, P, X, We, kn, hp, st => by
    intro h
    unfold chkS at h
    split at h
    · simp only [Bool.and_eq_true, decide_eq_true_eq] at h
      exact s_retO h.1.1 h.1.2 h.2
    · cases h
  | .ifs c a b, P, X, We, kn, hp, st => by
    intro h
    unfold chkS at h
    split at h
    · simp only [Bool.and_eq_true] at h
      exact s_if (st := tNext) ((chkE_ok c kn _).2 h.1.1) (chkSs_ok a kn hp _ h.1.2) (chkSs_ok b kn hp _ h.2)
    · cases h
  | .for_ tg k it b, P, X, We, kn, hp, st => by
    intro h
    unfold chkS at h
    split at h
    · simp only [Bool.and_eq_true] at h
      obtain ⟨⟨⟨⟨h1, h2⟩, h3⟩, h4⟩, hh⟩ := h
      have hh : P.hot = false := by simpa using hh
      obtain ⟨pi, hs⟩ := chkI_ok (fz := true) it kn k _ _ h2 h3
      exact s_for hp.own (kn.calm hh) pi (tgB_ok (kn.calm hh) kn.nd h1) (chkSs_ok b kn hp _ h4) hs
    · cases h
  | .whil c b, P, X, We, kn, hp, st => by
    intro h
    unfold chkS at h
    split at h
    · simp only [Bool.and_eq_true] at h
      exact s_while hp.own ((chkE_ok c kn _).2 h.1) (chkSs_ok b kn hp _ h.2)
    · cases h
  | .expr e, P, X, We, kn, hp, st => by
    intro h
    unfold chkS at h
    split at h
    · rename_i v p
      simp only [Bool.and_eq_true] at h
      refine s_expr (ps_expr ((chkE_ok e kn _).1 h.2) ?_)
      have h1 := h.1
      cases v <;> first | rfl | (simp [notComp] at h1; done)
    · cases h
  | .pass, P, X, We, kn, hp, st => by
    intro h
    unfold chkS at h
    split at h
    · exact s_pass ps_pass
    · exact s_pass ps_doc
    · cases h
  | .frz i, P, X, We, kn, hp, st => by
    intro h
    unfold chkS at h
    cases h
  | .rais x, P, X, We, kn, hp, st => by
    intro h
    unfold chkS at h
    split at h
    · simp only [Bool.and_eq_true, decide_eq_true_eq] at h
      obtain ⟨⟨⟨⟨hh, rfl⟩, h1⟩, h2⟩, h3⟩ := h
      exact s_rais kn (by simpa using hh) h1 h2 h3
    · cases h
  | .try_ b T i hd, P, X, We, kn, hp, st => by
    intro h
    have ib := fun {W : WX} {Y : Cx} (kn' : Kn Y W cl P) (sx : Sx Y) sts => chkSs_ok b kn' sx sts
    have ih := fun {W : WX} {Y : Cx} (kn' : Kn Y W cl P.hotP) (sx : Sx Y) sts => chkSs_ok hd kn' sx sts
    unfold chkS at h
    split at h
    · simp only [Bool.and_eq_true, Bool.or_eq_true, decide_eq_true_eq] at h
      obtain ⟨⟨⟨⟨⟨⟨⟨⟨hh, rfl⟩, h1⟩, h2⟩, h3⟩, h4⟩, h5⟩, h6⟩, h7⟩ := h
      refine s_try kn (by simpa using hh) hp h1 h2 (h3.imp id fun q => ⟨q.1, fun e => by rw [e] at q; simp at q⟩) h4 h5 (fun {W Y} kn' sx e1 e2 e3 => ib kn' sx _ ?_) fun {W Y} kn' sx e1 e2 e3 => ih kn' sx _ ?_
      · rw [e1, e2, e3]
        exact h6
      · rw [e1, e2, e3]
        exact h7
    · cases h
  | .never, P, X, We, kn, hp, st => by
    intro _
    refine PS_imp ps_never fun D σ H q => ?_
    obtain ⟨g, env, S, s, q⟩ := q
    unfold evS at q
    exact q.elim
theorem chkSs_ok : (b : Ss) → ∀ {P : Prog} {X : Cx} {We : WX} (kn : Kn X We cl P) (hp : Sx X) (sts : List Stmt), chkSs P X.N X.env.scope X.fn b sts = true → PSs X sts (tSt X We g0 H0 (evSs cl P b))
  | .nil, P, X, We, kn, hp, sts => by
    intro h
    unfold chkSs at h
    cases sts with
    | nil => exact ss_nil
    | cons _ _ => cases h
  | .cons a b, P, X, We, kn, hp, sts => by
    intro h
    have i2 := fun sts => chkSs_ok b kn hp sts
    have i1 := fun st => chkS_ok a kn hp st
    unfold chkSs at h
    split at h
    · exact ss_frz (i2 _ h)
    · split at h
      · rw [Bool.and_eq_true] at h
        exact ss_cons (i1 _ h.1) (i2 _ h.2)
      · cases h
end
end
end Gz
end -- GzP
section -- GzQ
/-! GzQ: defs keep what they promise. -/
namespace Gz
open PySem PySem.Spec PyProof.Rows L2 RZ
/-! ### positional parameters alone -/
theorem lookup_zip {α : Type} : ∀ (ps : List Str) (us : List α) (n : Str), us.length = ps.length → n ∈ ps → ∃ u, (ps.zip us).lookup n = some u
  | [], _, _, _, h => by cases h
  | p :: ps, [], _, h, _ => by cases h
  | p :: ps, u :: us, n, hl, h => by
    rw [List.zip_cons_cons, List.lookup_cons]
    cases e : n == p with
    | true => exact ⟨u, rfl⟩
    | false =>
      rcases List.mem_cons.mp h with rfl | h
      · simp at e
      · exact lookup_zip ps us n (by simpa using hl) h
theorem filterMap_zip {α : Type} : ∀ (ps : List Str) (us : List α) (l : List (Str × α)), ps.Nodup → us.length = ps.length → (∀ n u, (n, u) ∈ ps.zip us → l.lookup n = some u) → (ps.filterMap fun n => (l.lookup n).map (n, ·)) = ps.zip us
  | [], _, _, _, _, _ => rfl
  | p :: ps, [], _, _, h, _ => by cases h
  | p :: ps, u :: us, l, nd, hl, h => by
    rw [List.zip_cons_cons, List.filterMap_cons, h p u (by simp)]
    simp only [Option.map_some]
    rw [filterMap_zip ps us l (List.nodup_cons.mp nd).2 (by simpa using hl) fun n v hv => h n v (by rw [List.zip_cons_cons]; exact List.mem_cons_of_mem _ hv)]
theorem zip_lookup {α : Type} : ∀ (ps : List Str) (us : List α), ps.Nodup → us.length = ps.length → ∀ n u, (n, u) ∈ ps.zip us → (ps.zip us).lookup n = some u
  | [], _, _, _, _, _, h => by cases h
  | p :: ps, [], _, h, _, _, _ => by cases h
  | p :: ps, v :: us, nd, hl, n, u, h => by
    rw [List.zip_cons_cons] at h ⊢
    rw [List.lookup_cons]
    rcases List.mem_cons.mp h with e | h
    · cases e; simp
    · have : n ∈ ps := (List.of_mem_zip h).1
      have hne : (n == p) = false := by
        cases e : n == p with
        | false => rfl
        | true => exact absurd (eq_of_beq e ▸ this) (List.nodup_cons.mp nd).1
      rw [hne]
      exact zip_lookup ps us (List.nodup_cons.mp nd).2 (by simpa using hl) n u h
/-- the parameters are plain -/
def plainP (p : Arguments) : Bool := p.posonlyargs.isEmpty && p.vararg.isNone && p.kwonlyargs.isEmpty && p.kwarg.isNone
theorem bind_plain {x qual : Str} {p : Arguments} {body : List Stmt} {scope : Scope} {kV doc pm cdv ct : Value} {an : Option Addr} {us : List Value} (hp : plainP p = true) (nd : (p.args.map (·.arg)).Nodup) (hl : us.length = (p.args.map (·.arg)).length) :
    bindArgs (PySem.W.fnOf x qual p body scope .none kV doc pm an cdv ct) ⟨us, []⟩ = pure ((p.args.map (·.arg)).zip us) := by
  obtain ⟨po, ar, va, kwo, kd, kw, df⟩ := p
  unfold plainP at hp
  simp only [Bool.and_eq_true, List.isEmpty_iff, Option.isNone_iff_eq_none] at hp
  obtain ⟨⟨⟨rfl, rfl⟩, rfl⟩, rfl⟩ := hp
  simp only at nd hl
  have miss : ((ar.map (·.arg)).filter fun n => (((ar.map (·.arg)).zip us).lookup n).isNone) = [] := by
    rw [List.filter_eq_nil_iff]
    intro n hn
    obtain ⟨u, e⟩ := lookup_zip _ us n hl hn
    rw [e]
    simp
  have fm := filterMap_zip _ us _ nd hl (zip_lookup _ us nd hl)
  have hle : ¬ us.length > (ar.map (·.arg)).length := by omega
  unfold bindArgs PySem.W.fnOf
  simp only [List.map_nil, List.nil_append, List.append_nil, List.forIn_nil, pure_bind]
  have hs : seqItems? Value.none = (pure none : Sem (Option (Array Value))) := rfl
  have hd : decide (us.length > (ar.map (·.arg)).length) = false := decide_eq_false hle
  rw [hs]
  simp only [pure_bind, hd, Bool.false_and, Bool.false_eq_true, if_false, Option.getD_none, List.length_nil, Nat.zero_sub, List.drop_nil, Nat.sub_zero, List.take_length, miss, List.isEmpty_nil, Bool.not_true, List.drop_length, List.zip_nil_right, List.forIn_nil, fm]
/-! ### a def -/
structure DefI where
  x : Str
  fn : Fn
  N : List Str
  d : He.DefD
def DefI.ps (i : DefI) : List Str := i.d.params.args.map (·.arg)
def DefI.ck (P : Prog) (i : DefI) : Bool :=
  kfB i.d.scope && !i.d.scope.isCoroutine && !i.d.scope.isGenerator && decide i.N.Nodup && decide (i.N.take i.ps.length = i.ps) && (i.ps.all fun x => locB i.d.scope x) && (i.d.scope.names.all fun y => !(y.2 == .free)) &&
    decide (i.fn.slots = i.N.length) && decide (i.fn.ps = i.ps.length) && decide i.ps.Nodup && plainP i.d.params && chkSs P i.N i.d.scope (fun _ => true) i.fn.body i.d.body
theorem DefI.scope {P : Prog} {i : DefI} (h : i.ck P = true) : FnScope i.N i.ps i.d.scope ∧ i.fn.slots = i.N.length ∧ i.fn.ps = i.ps.length ∧ i.ps.Nodup ∧ plainP i.d.params = true ∧ chkSs P i.N i.d.scope (fun _ => true) i.fn.body i.d.body = true := by
  unfold DefI.ck at h
  simp only [Bool.and_eq_true, decide_eq_true_eq, Bool.not_eq_true', List.all_eq_true] at h
  obtain ⟨⟨⟨⟨⟨⟨⟨⟨⟨⟨⟨h1, h2⟩, h3⟩, h4⟩, h5⟩, h6⟩, h7⟩, h8⟩, h9⟩, h10⟩, h11⟩, h12⟩ := h
  exact ⟨⟨kfB_ok h1, h2, h3, h4, h5, fun x hx => locB_ok (h6 x hx), fun y hy e => by have := h7 y hy; rw [e] at this; cases this⟩, h8, h9, h10, h11, h12⟩
def Prog.hotB (P : Prog) : Prog := { P with hot := true, hots := [] }
/-- may be called where an error is in hand -/
def DefI.ckH (P : Prog) (i : DefI) : Bool := chkSs P.hotB i.N i.d.scope (fun _ => true) i.fn.body i.d.body
structure Wld (K : PySem.W.Frag) (mg : Str → Option Value) (w : World) (P : Prog) (items : List DefI) : Prop where
  defs : ∀ i ∈ items, mg i.x = some (.ref (He.ga K i.x)) ∧ ∃ fd, FunD K i.d.name i.d.qual i.d.params i.d.body i.d.scope [] [] (He.ga K i.x) fd
  cons : ∀ x d, P.cons.lookup x = some d → ∃ u v, mg x = some u ∧ RelV v u ∧ ∀ mex g, Is ⟨K, mg, mex⟩ g d v
  tabs : ∀ x t, P.tabs.lookup x = some t → ∃ a, mg x = some (.ref a) ∧ ∀ k f, t.lookup k = some f → ∃ fa, mg f = some (.ref fa) ∧ KDct K w a k (.ref fa)
  free : ∀ b ∈ Gz.free, mg b = none
  excs : ∀ x, x ∈ P.excs → ∃ C, ExK K mg P.excs x C
theorem lookup_mem {α β : Type} [BEq α] [LawfulBEq α] {l : List (α × β)} {a : α} {b : β} (h : l.lookup a = some b) : (a, b) ∈ l := by
  induction l with
  | nil => cases h
  | cons p l ih =>
    rw [List.lookup_cons] at h
    cases e : a == p.1 with
    | true =>
      rw [e] at h
      have := eq_of_beq e
      cases h
      rw [this]
      exact List.mem_cons_self
    | false =>
      rw [e] at h
      exact List.mem_cons_of_mem _ (ih h)
theorem start_get {N : List Str} {vs : List V} (hl : vs.length ≤ N.length) (i : Nat) : (start N vs)[i]? = if i < vs.length then (vs[i]?).map some else if i < N.length then some none else none := by
  unfold L2.start
  by_cases h : i < vs.length
  · rw [if_pos h, List.getElem?_append_left (by simpa using h), List.getElem?_map]
  · rw [if_neg h, List.getElem?_append_right (by simpa using h), List.length_map, List.getElem?_replicate]
    by_cases h2 : i < N.length
    · rw [if_pos h2, if_pos (by omega)]
    · rw [if_neg h2, if_neg (by omega)]
theorem entry_rel {W : Wx} {g : Gh} {H : Hp} {S : Store} {N : List Str} {ds : List D} {vs : List V} {k : Nat} (hr : HRel W g H S) (hi : IsL W g ds vs) (hk : k = N.length) (hl : ds.length ≤ N.length) :
    StR W g H g H S (start N vs) (ds.map Cell.fr ++ List.replicate (k - ds.length) .un) := by
  have lv := hi.length
  have get : ∀ (i : Nat) c, (ds.map Cell.fr ++ List.replicate (k - ds.length) Cell.un)[i]? = some c → (∃ d, ds[i]? = some d ∧ c = .fr d) ∨ (c = .un ∧ ds.length ≤ i ∧ i < N.length) := fun i c e => by
    by_cases h : i < ds.length
    · rw [List.getElem?_append_left (by simpa using h), List.getElem?_map, List.getElem?_eq_getElem h] at e
      cases e
      exact .inl ⟨ds[i], List.getElem?_eq_getElem h, rfl⟩
    · rw [List.getElem?_append_right (by simpa using h), List.length_map, List.getElem?_replicate] at e
      split at e
      · rename_i q
        cases e
        exact .inr ⟨rfl, by omega, by omega⟩
      · cases e
  have noOwn : ∀ (i : Nat) c, (ds.map Cell.fr ++ List.replicate (k - ds.length) Cell.un)[i]? = some c → c.isOwn = false := fun i c e => by
    rcases get i c e with ⟨d, _, rfl⟩ | ⟨rfl, _⟩ <;> rfl
  refine ⟨hr, ⟨?_, fun i c e => ?_, fun i j c c' a e1 e2 q1 q2 _ _ => ?_⟩, Ext.refl _ _, fun i c a e q _ => ?_⟩
  · unfold L2.start
    simp only [List.length_append, List.length_map, List.length_replicate]
    omega
  · rcases get i c e with ⟨d, ed, rfl⟩ | ⟨rfl, h1, h2⟩
    · obtain ⟨v, ev, hv⟩ := hi.get ed
      have hlt : i < vs.length := (List.getElem?_eq_some_iff.mp ev).1
      refine ⟨some v, by rw [start_get (by omega), if_pos hlt, ev]; rfl, ⟨v, rfl, hv⟩, fun q => by cases q⟩
    · exact ⟨none, by rw [start_get (by omega), if_neg (by omega), if_pos h2], trivial, fun q => by cases q⟩
  · rw [noOwn i c e1] at q1; cases q1
  · rw [noOwn i c e] at q; cases q
theorem den_len {P : Prog} : ∀ (n : Nat) (f : Str) (fn : Fn) (ds : List D) (S : Store), P.defs.lookup f = some fn → den P n f ds S ≠ .no → ds.length = fn.ps
  | 0, f, fn, ds, S, h, q => absurd rfl q
  | n + 1, f, fn, ds, S, h, q => by
    unfold den at q
    rw [h] at q
    unfold Fn.run at q
    by_cases hl : ds.length = fn.ps
    · exact hl
    · simp only [if_neg hl] at q
      exact absurd rfl q
theorem spD_len {W : Wx} {P : Prog} {n : Nat} {f : Str} {fn : Fn} (hf : P.defs.lookup f = some fn) {vs : List V} {H : Hp} {Q : VK} {E : XK} (h : spD W (den P n) f vs H Q E) : vs.length = fn.ps := by
  obtain ⟨g, S, ds, hr, il, q⟩ := h
  rw [il.length]
  exact den_len n f fn ds S hf fun e => by rw [e] at q; exact q
theorem room_cok {n : Nat} {X : Cx} (r : Room n X.A) : Cok X := ⟨by have := r.un; omega⟩
theorem pre_len {N ps : List Str} {sc : Scope} (S : FnScope N ps sc) : ps.length ≤ N.length := by have := congrArg List.length S.pre; rw [List.length_take] at this; omega
/-- every def keeps its promise, n deep -/
theorem defs_ok {PG : Program} {w : World} {K : PySem.W.Frag} {mg : Str → Option Value} {base : Heap} {P : Prog} {items : List DefI} (h0 : P.hot = false) (hd : P.defs = items.map fun i => (i.x, i.fn)) (hc : ∀ i ∈ items, i.ck P = true) (hH : ∀ i ∈ items, i.x ∈ P.hots → i.ckH P = true) (W : Wld K mg w P items) :
    ∀ (n : Nat) (i : DefI), i ∈ items → P.defs.lookup i.x = some i.fn → ∀ fd, FunD K i.d.name i.d.qual i.d.params i.d.body i.d.scope [] [] (He.ga K i.x) fd → FnOk PG w K mg base (L2.CX PG w) n (He.ga K i.x) fd i.ps (spD ⟨K, mg, none⟩ (den P n) i.x) ∧ Binds K fd i.ps [] ∧
      (i.x ∈ P.hots → ∀ (a C : Addr) (oe : Obj), Zc (.ref C) none oe → (∃ vs, oe.data = .fields vs) → FnH1 PG w K mg base (L2.CX PG w) n (He.ga K i.x) fd i.ps (a, oe) (spD ⟨K, mg, some (a, C)⟩ (den P n) i.x)) := by
  intro n
  induction n with
  | zero =>
    intro i hi hf fd F
    obtain ⟨S, hs, hp, nd, pp, ck⟩ := DefI.scope (hc i hi)
    refine ⟨⟨fun vs H Q E h => ?_, fun A outer s H args us vs Q E _ _ _ _ h => ?_⟩, F.bindsN fun kV doc pm an cdv ct us hl => bind_plain pp nd hl, fun _ a C oe _ _ => ⟨fun vs H Q E h => ?_, fun A outer s H args us vs Q E _ _ _ _ _ h => ?_⟩⟩
    · rw [spD_len hf h, hp]
    · obtain ⟨g, S, ds, hr, il, q⟩ := h
      exact q.elim
    · rw [spD_len hf h, hp]
    · obtain ⟨g, S, ds, hr, il, q⟩ := h
      exact q.elim
  | succ n ih =>
    intro i hi hf fd F
    obtain ⟨S, hs, hp, nd, pp, ck⟩ := DefI.scope (hc i hi)
    have nod : ∀ f ds S, P.defs.lookup f = none → den P n f ds S = .no := fun f ds S hf => by
      cases n with
      | zero => rfl
      | succ n => unfold den; rw [hf]
    -- what the run of the body gives
    have use : ∀ {W : Wx} {vs : List V} {H : Hp} {Q : VK} {E : XK}, spD W (den P (n + 1)) i.x vs H Q E → ∃ g S0 ds, HRel W g H S0 ∧ IsL W g ds vs ∧ ds.length = i.fn.ps ∧ WpS (evSs (den P n) P i.fn.body (ds.map Cell.fr ++ List.replicate (i.fn.slots - ds.length) .un) S0)
        (fun env' S' => ∀ (σ' : L2.St) g' H', GLe g g' → StR W g H g' H' S' σ' env' → Q .non H') (fun r S' => ∀ v g' H', HRel W g' H' S' → Ext g H g' H' → RvIs W H g' H' r v → Q v H') (fun x env' S' => ∀ c g' H' σ', StR W g H g' H' S' σ' env' → ExC W x c → E c none H') := fun {W vs H Q E} h => by
      obtain ⟨g, S0, ds, hrel, il, q⟩ := h
      have q' := q
      unfold den at q
      rw [hf] at q
      simp only at q
      unfold Fn.run at q
      have hlen : ds.length = i.fn.ps := den_len (n + 1) i.x i.fn ds S0 hf fun e => by rw [e] at q'; exact q'
      rw [if_pos hlen] at q
      refine ⟨g, S0, ds, hrel, il, hlen, ?_⟩
      cases e : evSs (den P n) P i.fn.body (ds.map Cell.fr ++ List.replicate (i.fn.slots - ds.length) .un) S0 with
      | nx env' S' =>
        rw [e] at q
        intro σ' g' H' l st
        exact q .non g' H' st.hr st.x (show Is _ _ _ _ from by unfold Is; rfl)
      | rt r S' =>
        rw [e] at q
        exact q
      | ex x env' S' =>
        rw [e] at q
        intro c g' H' σ' st xc
        exact q c g' H' st.hr st.x xc
      | no => rw [e] at q; exact q.elim
    refine ⟨F.ok S (fun vs H Q E h => by rw [spD_len hf h, hp]) (fun cdv A outer s H vs Q E hr h => ?_), F.bindsN fun kV doc pm an cdv ct us hl => bind_plain pp nd hl, fun hm a C oe hz hfl => ?_⟩
    · obtain ⟨g, S0, ds, hrel, il, hlen, q⟩ := use h
      have kn : Kn (cxOf (L2.CX PG w) PG w K mg base i.N i.d.qual i.d.scope (He.ga K i.x) cdv A outer s H E) (fun c d _ H' => E c d H') (den P n) P := by
        have get : ∀ f fn, P.defs.lookup f = some fn → ∃ j ∈ items, j.x = f ∧ j.fn = fn := fun f fn hf => by
          have hm := lookup_mem hf
          rw [hd] at hm
          obtain ⟨j, hj, e⟩ := List.mem_map.mp hm
          cases e
          exact ⟨j, hj, rfl, rfl⟩
        refine ⟨room_cok hr, fun _ => rfl, S.nd, takes_of rfl rfl rfl rfl, fun _ f fn hf => ?_, fun h => absurd h (by rw [h0]; decide), fun _ f fn hf hm => ?_, W.excs, fun a C e => (nomatch (show (none : Option (Addr × Addr)) = some (a, C) from e)), nod, fun x d e => ?_, W.tabs, W.free⟩
        · obtain ⟨j, hj, rfl, rfl⟩ := get f fn hf
          obtain ⟨h1, fd, F⟩ := W.defs j hj
          obtain ⟨FO, B, _⟩ := ih j hj hf fd F
          exact ⟨_, fd, j.ps, n, h1, F.kp, FO, hr, B⟩
        · obtain ⟨j, hj, rfl, rfl⟩ := get f fn hf
          obtain ⟨h1, fd, F⟩ := W.defs j hj
          obtain ⟨_, B, FH⟩ := ih j hj hf fd F
          exact ⟨_, fd, j.ps, n, h1, F.kp, fun a C oe hz hfl => FH hm a C oe hz hfl, hr, B⟩
        · obtain ⟨u, v, h1, h2, h3⟩ := W.cons x d e
          exact ⟨u, v, h1, h2, fun g => h3 _ g⟩
      exact ⟨_, chkSs_ok (g0 := g) (H0 := H) i.fn.body kn ⟨passes_of rfl, rfl, rfl⟩ i.d.body ck, g, _, S0, entry_rel (k := i.fn.slots) hrel il hs (by rw [hlen, hp]; exact pre_len S), q⟩
    · obtain ⟨oc, od, dV, kV, doc, pm, an, cdv, ct, osl, rfl, lk, hcd, _, _⟩ := F.ex
      refine fn_ofH1 lk hcd S (fun vs H Q E h => by rw [spD_len hf h, hp]) fun A outer s H vs Q E hr h => ?_
      obtain ⟨g, S0, ds, hrel, il, hlen, q⟩ := use h
      have e1 : exO false [(a, oe)] = some (a, C) := by
        unfold exO
        simp only [hz.1]
      have hw : wx (L2H.cxH (L2.CX PG w) PG w K mg base i.N i.d.qual i.d.scope (He.ga K i.x) cdv A outer s H E (a, oe)) = ⟨K, mg, some (a, C)⟩ := by
        show (⟨K, mg, exO false [(a, oe)]⟩ : Wx) = _
        rw [e1]
      have kn : Kn (L2H.cxH (L2.CX PG w) PG w K mg base i.N i.d.qual i.d.scope (He.ga K i.x) cdv A outer s H E (a, oe)) (fun c d _ H' => E c d H') (den P n) P.hotB := by
        refine ⟨⟨by have := hr.un; show A.units + 3 + _ < _; have : (A.deeper (envOfC i.d.qual i.d.scope s.heap.objs.size (He.ga K i.x) cdv)).units = A.units + 3 := rfl; omega⟩, fun h => (nomatch (show true = false from h)), S.nd, takes_of rfl rfl rfl rfl, fun h => (nomatch (show true = false from h)), fun _ f fn _ hm => absurd (show f ∈ ([] : List Str) from hm) (by simp), fun h => (nomatch (show true = false from h)), W.excs, fun a' C' e => ?_, nod, fun x d e => ?_, W.tabs, W.free⟩
        · have e : exO false [(a, oe)] = some (a', C') := e
          rw [e1] at e
          cases e
          exact ⟨oe, List.mem_cons_self, hz, hfl⟩
        · obtain ⟨u, v, h1, h2, h3⟩ := W.cons x d e
          exact ⟨u, v, h1, h2, fun g => h3 _ g⟩
      have hk := hH i hi hm
      unfold DefI.ckH at hk
      refine ⟨_, chkSs_ok (g0 := g) (H0 := H) i.fn.body kn ⟨passes_of rfl, rfl, rfl⟩ i.d.body hk, g, ds.map Cell.fr ++ List.replicate (i.fn.slots - ds.length) .un, S0, ?_, ?_⟩
      · rw [hw]
        exact entry_rel (k := i.fn.slots) hrel il hs (by rw [hlen, hp]; exact pre_len S)
      · rw [show evSs (den P n) P.hotB i.fn.body = evSs (den P n) P i.fn.body from evS_hot (den P n) P true [] i.fn.body]
        unfold nxS rtS exS
        rw [hw]
        exact q
end Gz
end -- GzQ
section -- GzR
/-! GzR: the module's facts by a Hook; a law's end. -/
namespace Gz
open PySem PySem.Spec PyProof.Rows L2 RZ He
/-! ### constants -/
mutual
def kB (K : PySem.W.Frag) : D → Value → Bool
  | .non, u => (match u with
    | .none => true
    | _ => false)
  | .bl b, u => (match u with
    | .bool c => b == c
    | _ => false)
  | .int i, u => (match u with
    | .int j _ => decide (i = j)
    | _ => false)
  | .str s, u => (match u with
    | .str z _ => decide (s = z)
    | _ => false)
  | .tup l, u => (match u with
    | .ref a => (match K.lookup a with
      | some ⟨.type c, _, .seq its _, _⟩ => decide (c = "tuple") && (decide (its.size ≤ sizeLine) && kBs K l its.toList)
      | _ => false)
    | _ => false)
  | _, _ => false
def kBs (K : PySem.W.Frag) : List D → List Value → Bool
  | [], us => us.isEmpty
  | d :: ds, us => (match us with
    | u :: us => kB K d u && kBs K ds us
    | [] => false)
end
mutual
theorem kB_ok {K : PySem.W.Frag} : ∀ (d : D) (u : Value), kB K d u = true → ∃ v, RelV v u ∧ ∀ mg mex g, Is ⟨K, mg, mex⟩ g d v
  | .non, u, h => by
    unfold kB at h
    split at h
    · exact ⟨.non, rfl, fun mg mex g => by unfold Is; rfl⟩
    · cases h
  | .bl b, u, h => by
    unfold kB at h
    split at h
    · rename_i c
      have : b = c := eq_of_beq h
      subst this
      exact ⟨.bl b, rfl, fun mg mex g => by unfold Is; rfl⟩
    · cases h
  | .int i, u, h => by
    unfold kB at h
    split at h
    · rename_i j t
      have : i = j := of_decide_eq_true h
      subst this
      exact ⟨.int i, ⟨t, rfl⟩, fun mg mex g => by unfold Is; rfl⟩
    · cases h
  | .str s, u, h => by
    unfold kB at h
    split at h
    · rename_i z t
      have : s = z := of_decide_eq_true h
      subst this
      exact ⟨.str s, ⟨t, rfl⟩, fun mg mex g => by unfold Is; rfl⟩
    · cases h
  | .tup l, u, h => by
    unfold kB at h
    split at h
    · rename_i a
      split at h
      · rename_i c od its n sl hk
        rw [Bool.and_eq_true, Bool.and_eq_true, decide_eq_true_eq, decide_eq_true_eq] at h
        obtain ⟨h1, h2, h3⟩ := h
        subst h1
        obtain ⟨vs, rv, hi⟩ := kBs_ok l its.toList h3
        exact ⟨.ref a, rfl, fun mg mex g => by unfold Is; exact ⟨a, vs, rfl, .inr ⟨_, its, n, hk, rfl, rfl, h2, rv⟩, hi mg mex g⟩⟩
      · cases h
    · cases h
  | .lst _, _, h => by unfold kB at h; cases h
  | .scr _, _, h => by unfold kB at h; cases h
  | .dct _ _, _, h => by unfold kB at h; cases h
  | .fn _, _, h => by unfold kB at h; cases h
  | .obj _, _, h => by unfold kB at h; cases h
  | .exc _, _, h => by unfold kB at h; cases h
theorem kBs_ok {K : PySem.W.Frag} : ∀ (ds : List D) (us : List Value), kBs K ds us = true → ∃ vs, Vals vs us ∧ ∀ mg mex g, IsL ⟨K, mg, mex⟩ g ds vs
  | [], us, h => by
    unfold kBs at h
    cases us with
    | nil => exact ⟨[], .nil, fun mg mex g => .nil⟩
    | cons _ _ => cases h
  | d :: ds, us, h => by
    unfold kBs at h
    cases us with
    | nil => cases h
    | cons u us =>
      simp only [Bool.and_eq_true] at h
      obtain ⟨v, r, hv⟩ := kB_ok d u h.1
      obtain ⟨vs, rs, hs⟩ := kBs_ok ds us h.2
      exact ⟨v :: vs, .cons r rs, fun mg mex g => .cons (hv mg mex g) (hs mg mex g)⟩
end
abbrev Cons := List (Str × D)
abbrev Tabs := List (Str × List (Str × Str))
def conOk (K : PySem.W.Frag) (c : Str × D) : Bool := match PySem.W.nsIn K mainGlobals c.1 with
  | some (some u) => kB K c.2 u
  | _ => false
def tabOk (K : PySem.W.Frag) (t : Str × List (Str × Str)) : Bool := He.eqO (PySem.W.nsIn K mainGlobals t.1) (some (some (.ref (ga K t.1)))) && t.2.all fun q =>
  He.eqO (PySem.W.nsIn K (ga K t.1) q.1) (some (some (.ref (ga K q.2)))) && He.eqO (PySem.W.nsIn K mainGlobals q.2) (some (some (.ref (ga K q.2))))
/-- what isinstance asks of a class of errors -/
def xcB (K : PySem.W.Frag) (D : Addr) : Bool :=
  He.eqO (PySem.W.findIn K (.ref D) "__getattribute__") (some (some (.builtin "BaseException.__getattribute__"))) && (He.eqO (PySem.W.findIn K (.ref D) "__getattr__") (some none) && (PySem.W.hasDictIn K D && (He.eqO (PySem.W.findIn K (.ref D) "__class__") (some (some (.builtin "object.__class__"))) &&
    (He.eqO (PySem.W.specialIn K (.builtin "object.__class__") "__get__") (some (some (.builtin "getset_descriptor.__get__"))) && (decide (PySem.W.takesIn K (.builtin "object.__class__") = some true) && decide (PySem.W.mroIn K D (.type "object") = some true))))))
def excB (excs : List Str) (K : PySem.W.Frag) (x : Str) : Bool :=
  (Fa.glo x).ok K && ((Fa.exc x).ok K && (xcB K (ga K x) && (decide (PySem.W.kitOne K (.ref (ga K x)) (.type "ValueError") = some true) &&
    ((("GlazeError" : Str) :: excs).all fun T => (Fa.glo T).ok K && (decide (PySem.W.kitOne K (.ref (ga K x)) (.ref (ga K T)) = some (excSub x T)) && decide (PySem.W.exmOne K (.ref (ga K x)) (.ref (ga K T)) = some (excSub x T)))))))
theorem excB_ok {K : PySem.W.Frag} {excs : List Str} {x : Str} {h : Heap} {mg : Str → Option Value} (X : K.In h) (G : h.Ns mainGlobals mg) (c : excB excs K x = true) : ExK K mg excs x (ga K x) := by
  unfold excB xcB at c
  simp only [Bool.and_eq_true, decide_eq_true_eq, List.all_eq_true] at c
  obtain ⟨c1, c2, ⟨d1, d2, d3, d4, d5, d6, d7⟩, c4, c5⟩ := c
  obtain ⟨e1, e2, e3, e4⟩ := exc_ok c2
  refine ⟨glo_ok X G c1, e2, e1, e3, e4, ⟨He.eqO_ok d1, He.eqO_ok d2, e3, d3, He.eqO_ok d4, He.eqO_ok d5, d6, d7⟩, c4, fun T hT => ?_⟩
  obtain ⟨f1, f2, f3⟩ := c5 T (by rcases hT with hT | rfl; exact List.mem_cons_of_mem _ hT; exact List.mem_cons_self)
  exact ⟨_, glo_ok X G f1, f2, f3⟩
def exOk (items : List DefI) (cons : Cons) (tabs : Tabs) (excs : List Str) (K : PySem.W.Frag) : Bool := (excs.all (excB excs K)) && (cons.all (conOk K)) && ((tabs.all (tabOk K)) && ((items.all fun i => (Fa.glo i.x).ok K) && Gz.free.all fun b => (Fa.free b).ok K))
def tabL (tabs : Tabs) : List Tab := tabs.map fun t => ((fun K => ga K t.1), t.2.map (·.1))
/-! ### the Hook -/
abbrev AlG : Type := AlT × Bool
def obsG (n : Nat) (items : List DefI) (cons : Cons) (tabs : Tabs) (excs : List Str) (g : Addr → Option Obj) : AlG :=
  (fun K => (obsT [] (items.map DefI.d) (tabL tabs) K, exOk items cons tabs excs K)) (frG g (asD g n))
def SaysG (items : List DefI) (cons : Cons) (tabs : Tabs) (excs : List Str) (w : World) (K : PySem.W.Frag) : Prop := SaysT [] (items.map DefI.d) (tabL tabs) w K ∧ exOk items cons tabs excs K = true
def hookG (n : Nat) (items : List DefI) (cons : Cons) (tabs : Tabs) (excs : List Str) : PySem.W.Hook where
  α := AlG
  obs := fun s => obsG n items cons tabs excs s.heap.get?
  val := fun w => (valT (items.map DefI.d) (tabL tabs) w, true)
  says := fun w h => ∃ K : PySem.W.Frag, K.In h ∧ SaysG items cons tabs excs w K
  of := fun _ s e => ⟨frG s.heap.get? (asD s.heap.get? n), frG_in, congrArg (fun z : AlG => z.1) e, congrArg (fun z : AlG => z.2) e⟩
  keeps := fun _ _ _ ⟨K, hK, c⟩ k => ⟨K, PySem.W.Frag.In.keeps hK k, c⟩
theorem obsG_eq {n : Nat} {items : List DefI} {cons : Cons} {tabs : Tabs} {excs : List Str} {g : Addr → Option Obj} {s : Shared} (h : ∀ a, g a = s.heap.get? a) : obsG n items cons tabs excs g = (hookG n items cons tabs excs).obs s := by
  have e : g = s.heap.get? := funext h
  rw [e] <;> rfl
def mkP (items : List DefI) (cons : Cons) (tabs : Tabs) (excs hots : List Str) : Prog := ⟨items.map fun i => (i.x, i.fn), cons, tabs, excs, hots, false⟩
/-- the datum is plain -/
def DefI.at_ (i : DefI) : Bool := decide (i.d.at_ = (i.x, none)) && i.d.dfl.isEmpty && i.d.kwd.isEmpty
theorem wld_of {items : List DefI} {cons : Cons} {tabs : Tabs} {excs hots : List Str} {w : World} {K : PySem.W.Frag} {h : Heap} {mg : Str → Option Value} (X : K.In h) (G : h.Ns mainGlobals mg) (c : SaysG items cons tabs excs w K) (ha : ∀ i ∈ items, i.at_ = true) : Wld K mg w (mkP items cons tabs excs hots) items := by
  obtain ⟨ct, ce⟩ := c
  unfold exOk at ce
  simp only [Bool.and_eq_true, List.all_eq_true] at ce
  obtain ⟨⟨c0, c1⟩, c2, c3, c4⟩ := ce
  refine ⟨fun i hi => ⟨glo_ok X G (c3 i hi), ?_⟩, fun x d e => ?_, fun x t e => ?_, fun b hb => free_ok X G (c4 b hb), fun x hx => ⟨_, excB_ok X G (c0 x hx)⟩⟩
  · obtain ⟨j, hj⟩ := List.mem_iff_getElem?.mp hi
    have at_ := ha i hi
    unfold DefI.at_ at at_
    simp only [Bool.and_eq_true, decide_eq_true_eq, List.isEmpty_iff] at at_
    obtain ⟨⟨a1, a2⟩, a3⟩ := at_
    obtain ⟨fd, F⟩ := ct.d.def_ j (d := i.d) (by rw [List.getElem?_map, hj]; rfl)
    unfold DefD.dvs DefD.kws at F
    rw [a1, a2, a3] at F
    exact ⟨fd, F⟩
  · have := c1 (x, d) (lookup_mem e)
    unfold conOk at this
    simp only at this
    split at this
    · rename_i u eu
      obtain ⟨v, rv, hi⟩ := kB_ok d u this
      exact ⟨u, v, PySem.W.mg_of X G eu, rv, hi mg⟩
    · cases this
  · have hm := lookup_mem e
    obtain ⟨j, hj⟩ := List.mem_iff_getElem?.mp hm
    have ht := c2 (x, t) hm
    unfold tabOk at ht
    simp only [Bool.and_eq_true, List.all_eq_true] at ht
    obtain ⟨t1, t2⟩ := ht
    obtain ⟨es, n, kd⟩ := ct.tab j (t := ((fun K => ga K x), t.map (·.1))) (by unfold tabL; rw [List.getElem?_map]; show Option.map _ (tabs[j]?) = _; rw [show tabs[j]? = some (x, t) from hj]; rfl)
    refine ⟨ga K x, PySem.W.mg_of X G (He.eqO_ok t1), fun k f ek => ?_⟩
    obtain ⟨h1, h2⟩ := t2 (k, f) (lookup_mem ek)
    exact ⟨ga K f, PySem.W.mg_of X G (He.eqO_ok h2), es, n, _, kd.at_, kd.lit, He.eqO_ok h1, rfl⟩
/-! ### the law's end -/
def g00 (H : Hp) : Gh := ⟨fun _ => False, H, fun _ => none, none⟩
theorem obs00 (W : Wx) (H : Hp) : ObsIs W (g00 H) H [] :=
  ⟨fun k => ⟨fun ⟨a, e⟩ => (nomatch (show (none : Option Addr) = some a from e)), fun h => absurd h (Nat.not_lt_zero k)⟩, fun k j a e => (nomatch (show (none : Option Addr) = some a from e)), fun k ob e => (by simp at e),
    fun k j ob ob' i i' n n' c c' a C dx vs C' dx' vs' e => (by simp at e)⟩
theorem hrel00 (W : Wx) (H : Hp) : HRel W (g00 H) H [] := ⟨Same.refl _, fun _ h => h.elim, fun _ h => h.elim, obs00 W H⟩
theorem walk_law {l : PySem.W.OpenLaw} {n k : Nat} {q : Program} {loose : List Str} {XP : (Str → Option Value) → Heap → Prop} {d : DefRec} {x : Str} {items : List DefI} {cons : Cons} {tabs : Tabs} {excs hots : List Str} {fn : Fn}
    (hn : l.most = some n) (hn2 : n ≤ sizeLine) (hdf : d.params.defaults = []) (hr : Room k callerA) (hc : ∀ i ∈ items, i.ck (mkP items cons tabs excs hots) = true ∧ i.at_ = true) (hH : ∀ i ∈ items, i.x ∈ hots → i.ckH (mkP items cons tabs excs hots) = true) (hf : (mkP items cons tabs excs hots).defs.lookup d.name = some fn) (hx : ∀ i ∈ items, i.x = d.name → i.ps = [x])
    (ans : ∀ ns : List Int, ns.length ≤ n → ∃ S', den (mkP items cons tabs excs hots) k d.name [.scr ns] [] = .ok (.fr (.bl true)) S') :
    PySem.W.WalkO q loose XP (hookG 4 items cons tabs excs).says l.row.toRowW d [] (fun f vs => PySem.call f vs) := by
  refine Att.attach_call hn hdf fun w s₀ s₁ mg mb fa o pm cd doc a vs ns G Y ho hd hcd hmg hobj hints hlen hg => ?_
  obtain ⟨K, KX, c⟩ := Y
  have W := wld_of (hots := hots) KX G.T.g c fun i hi => (hc i hi).2
  have hm := lookup_mem hf
  obtain ⟨i, hi, e⟩ := List.mem_map.mp hm
  have ex : i.x = d.name := congrArg Prod.fst e
  obtain ⟨h1, fd, F⟩ := W.defs i hi
  obtain ⟨S, hs, hp, nd, pp, ck⟩ := DefI.scope (hc i hi).1
  have hps := hx i hi ex
  have hfa : He.ga K i.x = fa := by
    have h2 : mg d.name = some (.ref fa) := hmg
    rw [ex] at h1 ⊢
    rw [h1] at h2
    cases h2
    rfl
  have FO : ∀ base : Heap, FnOk l.prog w K mg base (L2.CX l.prog w) k fa fd [x] (spD ⟨K, mg, none⟩ (den (mkP items cons tabs excs hots) k) d.name) := fun base => by
    have hl : (mkP items cons tabs excs hots).defs.lookup i.x = some i.fn := by
      have e2 : i.fn = fn := congrArg Prod.snd e
      rw [ex, hf, e2]
    obtain ⟨FO, _⟩ := defs_ok (PG := l.prog) (base := base) (P := mkP items cons tabs excs hots) (items := items) rfl rfl (fun i hi => (hc i hi).1) hH W k i hi hl fd F
    rw [hps, ex] at FO
    rw [ex] at hfa
    rw [hfa] at FO
    exact FO
  have hb : ∀ (s : Shared) (u : Value), BindsTo s fd ⟨[u], []⟩ [(x, u)] := fun s u => by
    have := F.bindsA (ps := i.ps) (fun kV doc pm an cdv ct us hl => bind_plain pp nd hl) s [u] (by rw [hps]; rfl)
    rw [hps] at this
    exact this
  refine law_call KX G.T.g G.T.b G.T.builtins G.T.nolimit hg hobj hints (Nat.le_trans hlen hn2) hr (fun base _ _ => FO base) hb (fun H hO hS => ?_) fun H e s' h => ?_
  · obtain ⟨S', ea⟩ := ans ns hlen
    refine ⟨g00 H, [], [.scr ns], hrel00 _ H, .cons (by unfold Is; exact ⟨a, rfl, hS⟩) .nil, ?_⟩
    rw [ea]
    intro v g' H' _ _ rv
    have hv : Is ⟨K, mg, none⟩ g' (.bl true) v := rv
    unfold Is at hv
    exact hv
  · obtain ⟨_, _, _, _, _, _, _, _, _, _, _, _, z⟩ := h
    exact z.elim
end Gz
end -- GzR
section -- GzDefs
/-! the distinct defs of all laws in the small language (printed by wip/irp.py) -/
namespace GzL
open PySem PySem.Spec PyProof.Rows L2 Gz
/-- is_whole (law_k01_spots_known) -/
def f_is_whole : Fn := ⟨1, 1, .cons (.ret (.and (.isi .int (.var 0)) (.not (.isi .bool (.var 0))))) .nil⟩
/-- common (law_k01_spots_known) -/
def f_common : Fn := ⟨2, 2, .cons (.whil (.cmp .gt (.var 1) (.int 0)) (.cons (.par 0 1 (.var 1) (.bin .mod (.var 0) (.var 1))) .nil)) (.cons (.ret (.var 0)) .nil)⟩
/-- fraction (law_k01_spots_known) -/
def f_fraction : Fn := ⟨2, 3, .cons (.asg 2 (.call "common" (.cons (.var 0) (.cons (.var 1) .nil)))) (.cons (.ret (.tup (.cons (.bin .fdiv (.var 0) (.var 2)) (.cons (.bin .fdiv (.var 1) (.var 2)) .nil)))) .nil)⟩
/-- is_share (law_k01_spots_known) -/
def f_is_share : Fn := ⟨1, 1, .cons (.ifs (.or (.not (.isi .tuple (.var 0))) (.or (.cmp .ne (.bi .len (.cons (.var 0) .nil)) (.int 2)) (.or (.not (.call "is_whole" (.cons (.idx (.var 0) (.int 0)) .nil))) (.not (.call "is_whole" (.cons (.idx (.var 0) (.int 1)) .nil)))))) (.cons (.ret (.bl false)) .nil) (.nil)) (.cons (.ret (.and (.chain .le .le (.int 0) (.idx (.var 0) (.int 0)) (.idx (.var 0) (.int 1))) (.and (.cmp .gt (.idx (.var 0) (.int 1)) (.int 0)) (.cmp .eq (.call "common" (.cons (.idx (.var 0) (.int 0)) (.cons (.idx (.var 0) (.int 1)) .nil))) (.int 1))))) .nil)⟩
/-- times (law_k01_spots_known) -/
def f_times : Fn := ⟨2, 2, .cons (.ret (.call "fraction" (.cons (.bin .mul (.idx (.var 0) (.int 0)) (.idx (.var 1) (.int 0))) (.cons (.bin .mul (.idx (.var 0) (.int 1)) (.idx (.var 1) (.int 1))) .nil)))) .nil⟩
/-- is_over (law_k01_spots_known) -/
def f_is_over : Fn := ⟨2, 2, .cons (.ret (.cmp .gt (.bin .mul (.idx (.var 0) (.int 0)) (.idx (.var 1) (.int 1))) (.bin .mul (.idx (.var 1) (.int 0)) (.idx (.var 0) (.int 1))))) .nil⟩
/-- is_spot (law_k01_spots_known) -/
def f_is_spot : Fn := ⟨1, 2, .cons (.ifs (.or (.not (.isi .tuple (.var 0))) (.or (.cmp .ne (.bi .len (.cons (.var 0) .nil)) (.int 4)) (.not (.bi .all (.cons (.lc [("part", 1)] (.one 1) .seq (.cons (.var 0) .nil) (.nil) (.call "is_share" (.cons (.var 1) .nil))) .nil))))) (.cons (.ret (.bl false)) .nil) (.nil)) (.cons (.ret (.not (.bi .any (.cons (.lc [("part", 1)] (.one 1) .seq (.cons (.var 0) .nil) (.nil) (.call "is_over" (.cons (.var 1) (.cons (.idx (.var 0) (.int 0)) .nil)))) .nil)))) .nil)⟩
/-- weighted (law_k01_spots_known) -/
def f_weighted : Fn := ⟨2, 3, .cons (.ret (.bi .tuple (.cons (.lc [("part", 2)] (.one 2) .seq (.cons (.var 0) .nil) (.nil) (.call "times" (.cons (.var 2) (.cons (.var 1) .nil)))) .nil))) .nil⟩
/-- _law_cell (law_k01_spots_known) -/
def f__law_cell : Fn := ⟨2, 2, .cons (.ifs (.cmp .eq (.var 0) (.lst (.nil))) (.cons (.ret (.bin .mul (.int 7) (.var 1))) .nil) (.nil)) (.cons (.ret (.bin .add (.idx (.var 0) (.bin .mod (.var 1) (.bi .len (.cons (.var 0) .nil)))) (.bin .mul (.int 6553) (.bin .fdiv (.var 1) (.bi .len (.cons (.var 0) .nil)))))) .nil)⟩
/-- _law_drawn (law_k01_spots_known) -/
def f__law_drawn : Fn := ⟨3, 4, .cons (.asg 3 (.bin .mod (.bin .add (.bin .mul (.bin .mod (.call "_law_cell" (.cons (.var 0) (.cons (.var 1) .nil))) (.int 2147483563)) (.int 69069)) (.bin .mul (.int 104723) (.bin .add (.var 1) (.int 1)))) (.int 2147483563))) (.cons (.asg 3 (.bin .mod (.bin .add (.bin .mul (.var 3) (.var 3)) (.bin .fdiv (.var 3) (.int 3))) (.int 2147483399))) (.cons (.ret (.bin .mod (.bin .fdiv (.bin .mod (.bin .add (.bin .mul (.var 3) (.var 3)) (.bin .fdiv (.var 3) (.int 7))) (.int 2147483647)) (.int 11)) (.var 2))) .nil))⟩
/-- _law_made (law_k01_spots_known) -/
def f__law_made : Fn := ⟨2, 4, .cons (.asg 2 (.var 0)) (.cons (.asg 3 (.var 1)) (.cons (.whil (.cmp .gt (.var 2) (.int 0)) (.cons (.par 2 3 (.bin .mod (.var 3) (.var 2)) (.var 2)) .nil)) (.cons (.ret (.tup (.cons (.bin .fdiv (.var 0) (.var 3)) (.cons (.bin .fdiv (.var 1) (.var 3)) .nil)))) .nil)))⟩
/-- _law_plus (law_k01_spots_known) -/
def f__law_plus : Fn := ⟨2, 2, .cons (.ret (.call "_law_made" (.cons (.bin .add (.bin .mul (.idx (.var 0) (.int 0)) (.idx (.var 1) (.int 1))) (.bin .mul (.idx (.var 1) (.int 0)) (.idx (.var 0) (.int 1)))) (.cons (.bin .mul (.idx (.var 0) (.int 1)) (.idx (.var 1) (.int 1))) .nil)))) .nil⟩
/-- _law_times (law_k01_spots_known) -/
def f__law_times : Fn := ⟨2, 2, .cons (.ret (.call "_law_made" (.cons (.bin .mul (.idx (.var 0) (.int 0)) (.idx (.var 1) (.int 0))) (.cons (.bin .mul (.idx (.var 0) (.int 1)) (.idx (.var 1) (.int 1))) .nil)))) .nil⟩
/-- _law_rest (law_k01_spots_known) -/
def f__law_rest : Fn := ⟨1, 1, .cons (.ret (.call "_law_made" (.cons (.bin .sub (.idx (.var 0) (.int 1)) (.idx (.var 0) (.int 0))) (.cons (.idx (.var 0) (.int 1)) .nil)))) .nil⟩
/-- _law_share (law_k01_spots_known) -/
def f__law_share : Fn := ⟨2, 4, .cons (.asg 2 (.bin .add (.int 1) (.call "_law_drawn" (.cons (.var 0) (.cons (.var 1) (.cons (.int 12) .nil)))))) (.cons (.asg 3 (.call "_law_made" (.cons (.call "_law_drawn" (.cons (.var 0) (.cons (.bin .add (.var 1) (.int 1)) (.cons (.bin .add (.var 2) (.int 1)) .nil)))) (.cons (.var 2) .nil)))) (.cons (.ret (.idx (.lst (.cons (.var 3) (.cons (.var 3) (.cons (.var 3) (.cons (.tup (.cons (.int 0) (.cons (.int 1) .nil))) (.cons (.tup (.cons (.int 1) (.cons (.int 1) .nil))) .nil)))))) (.call "_law_drawn" (.cons (.var 0) (.cons (.bin .add (.var 1) (.int 2)) (.cons (.int 5) .nil)))))) .nil))⟩
/-- _law_spot (law_k01_spots_known) -/
def f__law_spot : Fn := ⟨2, 4, .cons (.asg 2 (.call "_law_share" (.cons (.var 0) (.cons (.var 1) .nil)))) (.cons (.ret (.bin .add (.tup (.cons (.var 2) .nil)) (.bi .tuple (.cons (.lc [("_law_k", 3)] (.one 3) .rng (.cons (.int 3) .nil) (.nil) (.call "_law_times" (.cons (.var 2) (.cons (.call "_law_share" (.cons (.var 0) (.cons (.bin .add (.bin .add (.var 1) (.int 3)) (.bin .mul (.int 3) (.var 3))) .nil))) .nil)))) .nil)))) .nil)⟩
/-- plus (law_k02_blends) -/
def f_plus : Fn := ⟨2, 2, .cons (.ret (.call "fraction" (.cons (.bin .add (.bin .mul (.idx (.var 0) (.int 0)) (.idx (.var 1) (.int 1))) (.bin .mul (.idx (.var 1) (.int 0)) (.idx (.var 0) (.int 1)))) (.cons (.bin .mul (.idx (.var 0) (.int 1)) (.idx (.var 1) (.int 1))) .nil)))) .nil⟩
/-- less (law_k02_blends) -/
def f_less : Fn := ⟨2, 2, .cons (.ret (.call "fraction" (.cons (.bin .sub (.bin .mul (.idx (.var 0) (.int 0)) (.idx (.var 1) (.int 1))) (.bin .mul (.idx (.var 1) (.int 0)) (.idx (.var 0) (.int 1)))) (.cons (.bin .mul (.idx (.var 0) (.int 1)) (.idx (.var 1) (.int 1))) .nil)))) .nil⟩
/-- rest (law_k02_blends) -/
def f_rest : Fn := ⟨1, 1, .cons (.ret (.call "less" (.cons (.glob "ALL") (.cons (.var 0) .nil)))) .nil⟩
/-- at_most (law_k02_blends) -/
def f_at_most : Fn := ⟨1, 1, .cons (.ret (.ite (.call "is_over" (.cons (.var 0) (.cons (.glob "ALL") .nil))) (.glob "ALL") (.var 0))) .nil⟩
/-- over (law_k02_blends) -/
def f_over : Fn := ⟨2, 5, .cons (.asg 2 (.call "rest" (.cons (.idx (.var 0) (.int 0)) .nil))) (.cons (.ret (.bi .tuple (.cons (.lc [("mine", 3), ("yours", 4)] (.many [3, 4]) .zip (.cons (.var 0) (.cons (.var 1) .nil)) (.nil) (.call "plus" (.cons (.var 3) (.cons (.call "times" (.cons (.var 4) (.cons (.var 2) .nil))) .nil)))) .nil))) .nil)⟩
/-- multiply (law_k02_blends) -/
def f_multiply : Fn := ⟨2, 7, .cons (.asg 2 (.call "rest" (.cons (.idx (.var 0) (.int 0)) .nil))) (.cons (.asg 3 (.call "rest" (.cons (.idx (.var 1) (.int 0)) .nil))) (.cons (.asgO 4 (.lst (.cons (.call "plus" (.cons (.idx (.var 0) (.int 0)) (.cons (.call "times" (.cons (.idx (.var 1) (.int 0)) (.cons (.var 2) .nil))) .nil))) .nil))) (.cons (.for_ (.many [5, 6]) .zip (.cons (.slL (.var 0) (.int 1)) (.cons (.slL (.var 1) (.int 1)) .nil)) (.cons (.app 4 (.call "plus" (.cons (.call "times" (.cons (.var 5) (.cons (.var 6) .nil))) (.cons (.call "plus" (.cons (.call "times" (.cons (.var 5) (.cons (.var 3) .nil))) (.cons (.call "times" (.cons (.var 6) (.cons (.var 2) .nil))) .nil))) .nil)))) .nil)) (.cons (.ret (.bi .tuple (.cons (.var 4) .nil))) .nil))))⟩
/-- screen (law_k02_blends) -/
def f_screen : Fn := ⟨2, 4, .cons (.ret (.bi .tuple (.cons (.lc [("mine", 2), ("yours", 3)] (.many [2, 3]) .zip (.cons (.var 0) (.cons (.var 1) .nil)) (.nil) (.call "plus" (.cons (.var 2) (.cons (.call "times" (.cons (.var 3) (.cons (.call "rest" (.cons (.var 2) .nil)) .nil))) .nil)))) .nil))) .nil⟩
/-- added (law_k02_blends) -/
def f_added : Fn := ⟨2, 4, .cons (.ret (.bi .tuple (.cons (.lc [("mine", 2), ("yours", 3)] (.many [2, 3]) .zip (.cons (.var 0) (.cons (.var 1) .nil)) (.nil) (.call "at_most" (.cons (.call "plus" (.cons (.var 2) (.cons (.var 3) .nil))) .nil))) .nil))) .nil⟩
/-- atop (law_k02_blends) -/
def f_atop : Fn := ⟨2, 6, .cons (.asg 2 (.call "rest" (.cons (.idx (.var 0) (.int 0)) .nil))) (.cons (.asgO 3 (.lst (.cons (.idx (.var 1) (.int 0)) .nil))) (.cons (.for_ (.many [4, 5]) .zip (.cons (.slL (.var 0) (.int 1)) (.cons (.slL (.var 1) (.int 1)) .nil)) (.cons (.app 3 (.call "plus" (.cons (.call "times" (.cons (.var 4) (.cons (.idx (.var 1) (.int 0)) .nil))) (.cons (.call "times" (.cons (.var 5) (.cons (.var 2) .nil))) .nil)))) .nil)) (.cons (.ret (.bi .tuple (.cons (.var 3) .nil))) .nil)))⟩
/-- cut (law_k02_blends) -/
def f_cut : Fn := ⟨2, 2, .cons (.ret (.call "weighted" (.cons (.var 1) (.cons (.call "rest" (.cons (.idx (.var 0) (.int 0)) .nil)) .nil)))) .nil⟩
/-- blended (law_k02_blends) -/
def f_blended : Fn := ⟨3, 4, .cons (.asg 3 (.gix "BLENDS" (.var 0))) (.cons (.ret (.callv 3 (.cons (.var 1) (.cons (.var 2) .nil)))) .nil)⟩
/-- _law_blend (law_k02_blends) -/
def f__law_blend : Fn := ⟨3, 12, .cons (.asg 3 (.idx (.var 1) (.int 0))) (.cons (.asg 4 (.idx (.var 2) (.int 0))) (.cons (.asg 5 (.call "_law_rest" (.cons (.var 3) .nil))) (.cons (.ifs (.or (.cmp .eq (.var 0) (.str "atop")) (.cmp .eq (.var 0) (.str "cut"))) (.cons (.asg 7 (.idx (.lst (.cons (.var 4) (.cons (.call "_law_times" (.cons (.var 4) (.cons (.var 5) .nil))) .nil))) (.bi .int (.cons (.cmp .eq (.var 0) (.str "cut")) .nil)))) .nil) (.cons (.asg 7 (.call "_law_plus" (.cons (.var 3) (.cons (.call "_law_times" (.cons (.var 4) (.cons (.var 5) .nil))) .nil)))) .nil)) (.cons (.ifs (.cmp .eq (.var 0) (.str "plus")) (.cons (.asg 7 (.call "_law_plus" (.cons (.var 3) (.cons (.var 4) .nil)))) .nil) (.nil)) (.cons (.asgO 6 (.lst (.cons (.var 7) .nil))) (.cons (.for_ (.many [8, 9]) .zip (.cons (.slL (.var 1) (.int 1)) (.cons (.slL (.var 2) (.int 1)) .nil)) (.cons (.asg 10 (.call "_law_times" (.cons (.var 9) (.cons (.var 5) .nil)))) (.cons (.ifs (.cmp .eq (.var 0) (.str "over")) (.cons (.app 6 (.call "_law_plus" (.cons (.var 8) (.cons (.var 10) .nil)))) .nil) (.nil)) (.cons (.ifs (.cmp .eq (.var 0) (.str "multiply")) (.cons (.app 6 (.call "_law_plus" (.cons (.call "_law_times" (.cons (.var 8) (.cons (.var 9) .nil))) (.cons (.call "_law_plus" (.cons (.call "_law_times" (.cons (.var 8) (.cons (.call "_law_rest" (.cons (.var 4) .nil)) .nil))) (.cons (.var 10) .nil))) .nil)))) .nil) (.nil)) (.cons (.ifs (.cmp .eq (.var 0) (.str "screen")) (.cons (.app 6 (.call "_law_plus" (.cons (.var 8) (.cons (.call "_law_times" (.cons (.var 9) (.cons (.call "_law_rest" (.cons (.var 8) .nil)) .nil))) .nil)))) .nil) (.nil)) (.cons (.ifs (.cmp .eq (.var 0) (.str "plus")) (.cons (.app 6 (.call "_law_plus" (.cons (.var 8) (.cons (.var 9) .nil)))) .nil) (.nil)) (.cons (.ifs (.cmp .eq (.var 0) (.str "atop")) (.cons (.app 6 (.call "_law_plus" (.cons (.call "_law_times" (.cons (.var 8) (.cons (.var 4) .nil))) (.cons (.var 10) .nil)))) .nil) (.nil)) (.cons (.ifs (.cmp .eq (.var 0) (.str "cut")) (.cons (.app 6 (.var 10)) .nil) (.nil)) .nil)))))))) (.cons (.ret (.bi .tuple (.cons (.lc [("_law_share_here", 11)] (.one 11) .seq (.cons (.var 6) .nil) (.nil) (.idx (.lst (.cons (.var 11) (.cons (.tup (.cons (.int 1) (.cons (.int 1) .nil))) .nil))) (.bi .int (.cons (.cmp .gt (.idx (.var 11) (.int 0)) (.idx (.var 11) (.int 1))) .nil)))) .nil))) .nil)))))))⟩
/-- between (law_k04_tones_and_levels) -/
def f_between : Fn := ⟨3, 3, .cons (.ret (.call "plus" (.cons (.call "times" (.cons (.var 0) (.cons (.var 2) .nil))) (.cons (.call "times" (.cons (.var 1) (.cons (.call "rest" (.cons (.var 2) .nil)) .nil))) .nil)))) .nil⟩
/-- by_rule (law_k04_tones_and_levels) -/
def f_by_rule : Fn := ⟨2, 7, .cons (.asgT [3, 4, 5, 6] (.var 1)) (.cons (.ifs (.cmp .eq (.var 0) (.str "turn")) (.cons (.ret (.tup (.cons (.var 3) (.cons (.call "less" (.cons (.var 3) (.cons (.var 4) .nil))) (.cons (.call "less" (.cons (.var 3) (.cons (.var 5) .nil))) (.cons (.call "less" (.cons (.var 3) (.cons (.var 6) .nil))) .nil)))))) .nil) (.nil)) (.cons (.ifs (.cmp .eq (.var 0) (.str "round")) (.cons (.ret (.tup (.cons (.var 3) (.cons (.var 5) (.cons (.var 6) (.cons (.var 4) .nil)))))) .nil) (.nil)) (.cons (.asg 2 (.call "times" (.cons (.call "plus" (.cons (.var 4) (.cons (.call "plus" (.cons (.var 5) (.cons (.var 6) .nil))) .nil))) (.cons (.tup (.cons (.int 1) (.cons (.int 3) .nil))) .nil)))) (.cons (.ret (.tup (.cons (.var 3) (.cons (.var 2) (.cons (.var 2) (.cons (.var 2) .nil)))))) .nil))))⟩
/-- toned (law_k04_tones_and_levels) -/
def f_toned : Fn := ⟨3, 5, .cons (.ret (.bi .tuple (.cons (.lc [("one", 3), ("other", 4)] (.many [3, 4]) .zip (.cons (.call "by_rule" (.cons (.var 0) (.cons (.var 1) .nil))) (.cons (.var 1) .nil)) (.nil) (.call "between" (.cons (.var 3) (.cons (.var 4) (.cons (.var 2) .nil))))) .nil))) .nil⟩
/-- _law_tone (law_k04_tones_and_levels) -/
def f__law_tone : Fn := ⟨3, 12, .cons (.asgT [6, 7, 8, 9] (.var 1)) (.cons (.asg 3 (.call "_law_times" (.cons (.call "_law_plus" (.cons (.var 7) (.cons (.call "_law_plus" (.cons (.var 8) (.cons (.var 9) .nil))) .nil))) (.cons (.tup (.cons (.int 1) (.cons (.int 3) .nil))) .nil)))) (.cons (.asg 4 (.tup (.cons (.var 6) (.cons (.var 3) (.cons (.var 3) (.cons (.var 3) .nil)))))) (.cons (.ifs (.cmp .eq (.var 0) (.str "turn")) (.cons (.asg 4 (.bin .add (.tup (.cons (.var 6) .nil)) (.bi .tuple (.cons (.lc [("_law_x", 10)] (.one 10) .seq (.cons (.slL (.var 1) (.int 1)) .nil) (.nil) (.call "_law_made" (.cons (.bin .sub (.bin .mul (.idx (.var 6) (.int 0)) (.idx (.var 10) (.int 1))) (.bin .mul (.idx (.var 10) (.int 0)) (.idx (.var 6) (.int 1)))) (.cons (.bin .mul (.idx (.var 6) (.int 1)) (.idx (.var 10) (.int 1))) .nil)))) .nil)))) .nil) (.nil)) (.cons (.ifs (.cmp .eq (.var 0) (.str "round")) (.cons (.asg 4 (.tup (.cons (.var 6) (.cons (.var 8) (.cons (.var 9) (.cons (.var 7) .nil)))))) .nil) (.nil)) (.cons (.asg 5 (.call "_law_rest" (.cons (.var 2) .nil))) (.cons (.ret (.bi .tuple (.cons (.lc [("_law_x", 10), ("_law_y", 11)] (.many [10, 11]) .zip (.cons (.var 4) (.cons (.var 1) .nil)) (.nil) (.call "_law_plus" (.cons (.call "_law_times" (.cons (.var 10) (.cons (.var 2) .nil))) (.cons (.call "_law_times" (.cons (.var 11) (.cons (.var 5) .nil))) .nil)))) .nil))) .nil))))))⟩
/-- is_side (law_k10_sheets) -/
def f_is_side : Fn := ⟨1, 1, .cons (.ret (.and (.call "is_whole" (.cons (.var 0) .nil)) (.chain .le .le (.int 1) (.var 0) (.glob "MOST_SIDE")))) .nil⟩
/-- is_sheet (law_k10_sheets) -/
def f_is_sheet : Fn := ⟨1, 3, .cons (.ifs (.or (.not (.isi .tuple (.var 0))) (.or (.cmp .ne (.bi .len (.cons (.var 0) .nil)) (.int 3)) (.or (.not (.call "is_side" (.cons (.idx (.var 0) (.int 0)) .nil))) (.not (.call "is_side" (.cons (.idx (.var 0) (.int 1)) .nil)))))) (.cons (.ret (.bl false)) .nil) (.nil)) (.cons (.asg 1 (.idx (.var 0) (.int 2))) (.cons (.ret (.and (.isi .tuple (.var 1)) (.and (.cmp .eq (.bi .len (.cons (.var 1) .nil)) (.bin .mul (.idx (.var 0) (.int 0)) (.idx (.var 0) (.int 1)))) (.bi .all (.cons (.lc [("spot", 2)] (.one 2) .seq (.cons (.var 1) .nil) (.nil) (.call "is_spot" (.cons (.var 2) .nil))) .nil))))) .nil))⟩
/-- is_on (law_k10_sheets) -/
def f_is_on : Fn := ⟨4, 4, .cons (.ret (.and (.chain .le .lt (.int 0) (.var 2) (.var 0)) (.chain .le .lt (.int 0) (.var 3) (.var 1)))) .nil⟩
/-- spot_at (law_k10_sheets) -/
def f_spot_at : Fn := ⟨3, 6, .cons (.asgT [3, 4, 5] (.var 0)) (.cons (.ret (.ite (.call "is_on" (.cons (.var 3) (.cons (.var 4) (.cons (.var 1) (.cons (.var 2) .nil))))) (.idx (.var 5) (.bin .add (.bin .mul (.var 2) (.var 3)) (.var 1))) (.glob "CLEAR"))) .nil)⟩
/-- places (law_k10_sheets) -/
def f_places : Fn := ⟨2, 3, .cons (.ret (.lc [("at", 2)] (.one 2) .rng (.cons (.bin .mul (.var 0) (.var 1)) .nil) (.nil) (.tup (.cons (.bin .mod (.var 2) (.var 0)) (.cons (.bin .fdiv (.var 2) (.var 0)) .nil))))) .nil⟩
/-- blended_sheets (law_k10_sheets) -/
def f_blended_sheets : Fn := ⟨3, 6, .cons (.asg 3 (.lc [("mine", 4), ("yours", 5)] (.many [4, 5]) .zip (.cons (.idx (.var 1) (.int 2)) (.cons (.idx (.var 2) (.int 2)) .nil)) (.nil) (.call "blended" (.cons (.var 0) (.cons (.var 4) (.cons (.var 5) .nil)))))) (.cons (.ret (.tup (.cons (.idx (.var 1) (.int 0)) (.cons (.idx (.var 1) (.int 1)) (.cons (.bi .tuple (.cons (.var 3) .nil)) .nil))))) .nil)⟩
/-- _law_sheet (law_k10_sheets) -/
def f__law_sheet : Fn := ⟨4, 6, .cons (.asg 4 (.lc [("_law_k", 5)] (.one 5) .rng (.cons (.bin .mul (.var 2) (.var 3)) .nil) (.nil) (.call "_law_spot" (.cons (.var 0) (.cons (.bin .add (.var 1) (.bin .mul (.int 12) (.var 5))) .nil))))) (.cons (.ifs (.cmp .eq (.call "_law_drawn" (.cons (.var 0) (.cons (.bin .add (.var 1) (.int 7)) (.cons (.int 3) .nil)))) (.int 0)) (.cons (.asg 4 (.bin .mul (.slU (.var 4) (.int 1)) (.bin .mul (.var 2) (.var 3)))) .nil) (.nil)) (.cons (.ret (.tup (.cons (.var 2) (.cons (.var 3) (.cons (.bi .tuple (.cons (.var 4) .nil)) .nil))))) .nil))⟩
/-- clipped (law_k12_counts) -/
def f_clipped : Fn := ⟨4, 4, .cons (.ret (.ite (.and (.cmp .lt (.var 0) (.var 2)) (.cmp .lt (.var 1) (.var 3))) (.tup (.cons (.var 0) (.cons (.var 1) (.cons (.bin .sub (.var 2) (.var 0)) (.cons (.bin .sub (.var 3) (.var 1)) .nil))))) (.non))) .nil⟩
/-- joined_box (law_k12_counts) -/
def f_joined_box : Fn := ⟨2, 4, .cons (.ifs (.or (.cmp .is (.var 0) (.non)) (.cmp .is (.var 1) (.non))) (.cons (.ret (.ite (.cmp .is (.var 0) (.non)) (.var 1) (.var 0))) .nil) (.nil)) (.cons (.asg 2 (.bi .min (.cons (.idx (.var 0) (.int 0)) (.cons (.idx (.var 1) (.int 0)) .nil)))) (.cons (.asg 3 (.bi .min (.cons (.idx (.var 0) (.int 1)) (.cons (.idx (.var 1) (.int 1)) .nil)))) (.cons (.ret (.call "clipped" (.cons (.var 2) (.cons (.var 3) (.cons (.bi .max (.cons (.bin .add (.idx (.var 0) (.int 0)) (.idx (.var 0) (.int 2))) (.cons (.bin .add (.idx (.var 1) (.int 0)) (.idx (.var 1) (.int 2))) .nil))) (.cons (.bi .max (.cons (.bin .add (.idx (.var 0) (.int 1)) (.idx (.var 0) (.int 3))) (.cons (.bin .add (.idx (.var 1) (.int 1)) (.idx (.var 1) (.int 3))) .nil))) .nil)))))) .nil)))⟩
/-- is_name (law_k20_pictures_known) -/
def f_is_name : Fn := ⟨1, 2, .cons (.ret (.and (.isi .str (.var 0)) (.and (.chain .le .le (.int 1) (.bi .len (.cons (.var 0) .nil)) (.glob "MOST_LETTERS")) (.bi .all (.cons (.lc [("sign", 1)] (.one 1) .seq (.cons (.var 0) .nil) (.nil) (.cmp .isin (.var 1) (.glob "LETTERS"))) .nil))))) .nil⟩
/-- is_away (law_k20_pictures_known) -/
def f_is_away : Fn := ⟨1, 1, .cons (.ret (.and (.call "is_whole" (.cons (.var 0) .nil)) (.chain .le .le (.bin .sub (.int 0) (.glob "MOST_AWAY")) (.var 0) (.glob "MOST_AWAY")))) .nil⟩
/-- is_mask (law_k20_pictures_known) -/
def f_is_mask : Fn := ⟨2, 3, .cons (.ifs (.cmp .is (.var 0) (.non)) (.cons (.ret (.bl true)) .nil) (.nil)) (.cons (.ret (.and (.isi .tuple (.var 0)) (.and (.cmp .eq (.bi .len (.cons (.var 0) .nil)) (.bi .len (.cons (.idx (.var 1) (.int 2)) .nil))) (.bi .all (.cons (.lc [("share", 2)] (.one 2) .seq (.cons (.var 0) .nil) (.nil) (.call "is_share" (.cons (.var 2) .nil))) .nil))))) .nil)⟩
/-- has_head (law_k20_pictures_known) -/
def f_has_head : Fn := ⟨2, 2, .cons (.ret (.and (.call "is_name" (.cons (.idx (.var 0) (.int 1)) .nil)) (.and (.isi .str (.idx (.var 0) (.int 2))) (.and (.cmp .isin (.idx (.var 0) (.int 2)) (.var 1)) (.and (.call "is_share" (.cons (.idx (.var 0) (.int 3)) .nil)) (.isi .bool (.idx (.var 0) (.int 4)))))))) .nil⟩
/-- is_layer (law_k20_pictures_known) -/
def f_is_layer : Fn := ⟨1, 1, .cons (.ifs (.or (.cmp .ne (.bi .len (.cons (.var 0) .nil)) (.int 9)) (.or (.not (.call "has_head" (.cons (.var 0) (.cons (.glob "MANNERS") .nil)))) (.or (.not (.call "is_away" (.cons (.idx (.var 0) (.int 5)) .nil))) (.not (.call "is_away" (.cons (.idx (.var 0) (.int 6)) .nil)))))) (.cons (.ret (.bl false)) .nil) (.nil)) (.cons (.ret (.and (.call "is_sheet" (.cons (.idx (.var 0) (.int 8)) .nil)) (.call "is_mask" (.cons (.idx (.var 0) (.int 7)) (.cons (.idx (.var 0) (.int 8)) .nil))))) .nil)⟩
/-- is_node_in (law_k20_pictures_known) -/
def f_is_node_in : Fn := ⟨2, 3, .cons (.ifs (.or (.not (.isi .tuple (.var 0))) (.cmp .lt (.bi .len (.cons (.var 0) .nil)) (.int 5))) (.cons (.ret (.bl false)) .nil) (.nil)) (.cons (.ifs (.cmp .eq (.idx (.var 0) (.int 0)) (.str "layer")) (.cons (.ret (.call "is_layer" (.cons (.var 0) .nil))) .nil) (.nil)) (.cons (.ifs (.cmp .eq (.idx (.var 0) (.int 0)) (.str "tone")) (.cons (.ret (.and (.cmp .eq (.bi .len (.cons (.var 0) .nil)) (.int 5)) (.call "has_head" (.cons (.var 0) (.cons (.glob "RULES") .nil))))) .nil) (.nil)) (.cons (.ifs (.or (.cmp .ne (.idx (.var 0) (.int 0)) (.str "group")) (.or (.cmp .ne (.bi .len (.cons (.var 0) .nil)) (.int 6)) (.or (.cmp .eq (.var 1) (.int 0)) (.not (.call "has_head" (.cons (.var 0) (.cons (.glob "MANNERS") .nil))))))) (.cons (.ret (.bl false)) .nil) (.nil)) (.cons (.ret (.and (.isi .tuple (.idx (.var 0) (.int 5))) (.bi .all (.cons (.lc [("node", 2)] (.one 2) .seq (.cons (.idx (.var 0) (.int 5)) .nil) (.nil) (.call "is_node_in" (.cons (.var 2) (.cons (.bin .sub (.var 1) (.int 1)) .nil)))) .nil)))) .nil))))⟩
/-- names_of (law_k20_pictures_known) -/
def f_names_of : Fn := ⟨1, 1, .cons (.ret (.bin .add (.lst (.cons (.idx (.var 0) (.int 1)) .nil)) (.ite (.cmp .eq (.idx (.var 0) (.int 0)) (.str "group")) (.call "names_of_all" (.cons (.idx (.var 0) (.int 5)) .nil)) (.lst (.nil))))) .nil⟩
/-- names_of_all (law_k20_pictures_known) -/
def f_names_of_all : Fn := ⟨1, 3, .cons (.asgO 1 (.lst (.nil))) (.cons (.for_ (.one 2) .seq (.cons (.var 0) .nil) (.cons (.ext 1 (.call "names_of" (.cons (.var 2) .nil))) .nil)) (.cons (.retO 1) .nil))⟩
/-- is_picture (law_k20_pictures_known) -/
def f_is_picture : Fn := ⟨1, 3, .cons (.ifs (.or (.not (.isi .tuple (.var 0))) (.or (.cmp .ne (.bi .len (.cons (.var 0) .nil)) (.int 3)) (.or (.not (.call "is_side" (.cons (.idx (.var 0) (.int 0)) .nil))) (.not (.call "is_side" (.cons (.idx (.var 0) (.int 1)) .nil)))))) (.cons (.ret (.bl false)) .nil) (.nil)) (.cons (.ifs (.or (.not (.isi .tuple (.idx (.var 0) (.int 2)))) (.not (.bi .all (.cons (.lc [("node", 2)] (.one 2) .seq (.cons (.idx (.var 0) (.int 2)) .nil) (.nil) (.call "is_node_in" (.cons (.var 2) (.cons (.glob "DEEP") .nil)))) .nil)))) (.cons (.ret (.bl false)) .nil) (.nil)) (.cons (.asg 1 (.call "names_of_all" (.cons (.idx (.var 0) (.int 2)) .nil))) (.cons (.ret (.cmp .eq (.lenS (.var 1)) (.bi .len (.cons (.var 1) .nil)))) .nil)))⟩
/-- _law_names (law_k20_pictures_known) -/
def f__law_names : Fn := ⟨3, 8, .cons (.asg 3 (.cmp .eq (.call "_law_drawn" (.cons (.var 0) (.cons (.var 1) (.cons (.int 2) .nil)))) (.int 0))) (.cons (.asgO 4 (.lst (.nil))) (.cons (.for_ (.one 5) .rng (.cons (.var 2) .nil) (.cons (.asg 6 (.mt .join (.str "") (.cons (.lc [("_law_j", 7)] (.one 7) .rng (.cons (.int 2) .nil) (.nil) (.idx (.str "abcdefghijklmnopqrstuvwxyz") (.call "_law_drawn" (.cons (.var 0) (.cons (.bin .add (.bin .add (.bin .add (.var 1) (.int 1)) (.bin .mul (.int 3) (.var 5))) (.var 7)) (.cons (.int 26) .nil)))))) .nil))) (.cons (.asg 6 (.bin .mul (.slU (.var 6) (.call "_law_drawn" (.cons (.var 0) (.cons (.bin .add (.bin .add (.var 1) (.int 3)) (.bin .mul (.int 3) (.var 5))) (.cons (.int 3) .nil))))) (.idx (.lst (.cons (.int 1) (.cons (.int 2) .nil))) (.call "_law_drawn" (.cons (.var 0) (.cons (.bin .add (.bin .add (.var 1) (.int 2)) (.bin .mul (.int 3) (.var 5))) (.cons (.int 2) .nil))))))) (.cons (.app 4 (.idx (.lst (.cons (.bin .add (.var 6) (.idx (.str "abcdefghijklmn") (.var 5))) (.cons (.bin .add (.idx (.str "abcdefghijklmn") (.var 5)) (.var 6)) .nil))) (.bi .int (.cons (.var 3) .nil)))) .nil)))) (.cons (.retO 4) .nil)))⟩
/-- _law_leaf (law_k20_pictures_known) -/
def f__law_leaf : Fn := ⟨4, 14, .cons (.asg 4 (.call "_law_share" (.cons (.var 0) (.cons (.var 1) .nil)))) (.cons (.asg 5 (.cmp .gt (.call "_law_drawn" (.cons (.var 0) (.cons (.bin .add (.var 1) (.int 3)) (.cons (.int 6) .nil)))) (.int 0))) (.cons (.ifs (.cmp .eq (.call "_law_drawn" (.cons (.var 0) (.cons (.bin .add (.var 1) (.int 4)) (.cons (.int 6) .nil)))) (.int 0)) (.cons (.ret (.tup (.cons (.str "tone") (.cons (.var 2) (.cons (.idx (.lst (.cons (.str "turn") (.cons (.str "grey") (.cons (.str "round") .nil)))) (.call "_law_drawn" (.cons (.var 0) (.cons (.bin .add (.var 1) (.int 5)) (.cons (.int 3) .nil))))) (.cons (.var 4) (.cons (.var 5) .nil))))))) .nil) (.nil)) (.cons (.asg 6 (.idx (.lst (.cons (.str "over") (.cons (.str "multiply") (.cons (.str "screen") (.cons (.str "plus") (.cons (.str "atop") (.cons (.str "cut") .nil))))))) (.call "_law_drawn" (.cons (.var 0) (.cons (.bin .add (.var 1) (.int 5)) (.cons (.int 6) .nil)))))) (.cons (.ifs (.cmp .gt (.call "_law_drawn" (.cons (.var 0) (.cons (.bin .add (.var 1) (.int 6)) (.cons (.int 3) .nil)))) (.int 0)) (.cons (.asg 6 (.var 3)) .nil) (.nil)) (.cons (.asg 7 (.bin .add (.int 1) (.call "_law_drawn" (.cons (.var 0) (.cons (.bin .add (.var 1) (.int 7)) (.cons (.int 3) .nil)))))) (.cons (.asg 8 (.bin .add (.int 1) (.call "_law_drawn" (.cons (.var 0) (.cons (.bin .add (.var 1) (.int 8)) (.cons (.int 3) .nil)))))) (.cons (.asg 9 (.non)) (.cons (.ifs (.cmp .eq (.call "_law_drawn" (.cons (.var 0) (.cons (.bin .add (.var 1) (.int 9)) (.cons (.int 3) .nil)))) (.int 0)) (.cons (.asg 9 (.bi .tuple (.cons (.lc [("_law_k", 13)] (.one 13) .rng (.cons (.bin .mul (.var 7) (.var 8)) .nil) (.nil) (.call "_law_share" (.cons (.var 0) (.cons (.bin .add (.bin .add (.var 1) (.int 20)) (.bin .mul (.int 3) (.var 13))) .nil)))) .nil))) .nil) (.nil)) (.cons (.asg 10 (.bin .sub (.call "_law_drawn" (.cons (.var 0) (.cons (.bin .add (.var 1) (.int 10)) (.cons (.int 4) .nil)))) (.int 1))) (.cons (.asg 11 (.bin .sub (.call "_law_drawn" (.cons (.var 0) (.cons (.bin .add (.var 1) (.int 11)) (.cons (.int 4) .nil)))) (.int 1))) (.cons (.ifs (.cmp .eq (.call "_law_drawn" (.cons (.var 0) (.cons (.bin .add (.var 1) (.int 12)) (.cons (.int 3) .nil)))) (.int 0)) (.cons (.asgT [7, 8, 10, 11, 9] (.tup (.cons (.int 3) (.cons (.int 3) (.cons (.int 0) (.cons (.int 0) (.cons (.non) .nil))))))) .nil) (.nil)) (.cons (.asg 12 (.call "_law_sheet" (.cons (.var 0) (.cons (.bin .add (.var 1) (.int 50)) (.cons (.var 7) (.cons (.var 8) .nil)))))) (.cons (.ret (.tup (.cons (.str "layer") (.cons (.var 2) (.cons (.var 6) (.cons (.var 4) (.cons (.var 5) (.cons (.var 10) (.cons (.var 11) (.cons (.var 9) (.cons (.var 12) .nil))))))))))) .nil)))))))))))))⟩
/-- _law_nodes (law_k20_pictures_known) -/
def f__law_nodes : Fn := ⟨4, 13, .cons (.asg 4 (.idx (.lst (.cons (.str "over") (.cons (.str "multiply") (.cons (.str "screen") (.cons (.str "plus") .nil))))) (.call "_law_drawn" (.cons (.var 0) (.cons (.var 1) (.cons (.int 4) .nil)))))) (.cons (.asg 5 (.call "_law_drawn" (.cons (.var 0) (.cons (.bin .add (.var 1) (.int 1)) (.cons (.bin .add (.var 2) (.int 1)) .nil))))) (.cons (.asgO 6 (.lc [("_law_k", 7)] (.one 7) .rng (.cons (.var 5) .nil) (.nil) (.call "_law_leaf" (.cons (.var 0) (.cons (.bin .add (.bin .add (.var 1) (.int 20)) (.bin .mul (.int 170) (.var 7))) (.cons (.idx (.var 3) (.var 7)) (.cons (.var 4) .nil))))))) (.cons (.for_ (.one 7) .rng (.cons (.call "_law_drawn" (.cons (.var 0) (.cons (.bin .add (.var 1) (.int 2)) (.cons (.int 3) .nil)))) .nil) (.cons (.asg 8 (.call "_law_drawn" (.cons (.var 0) (.cons (.bin .add (.bin .add (.var 1) (.int 3)) (.bin .mul (.int 5) (.var 7))) (.cons (.bin .add (.bi .len (.cons (.var 6) .nil)) (.int 1)) .nil))))) (.cons (.asg 9 (.bin .add (.var 8) (.call "_law_drawn" (.cons (.var 0) (.cons (.bin .add (.bin .add (.var 1) (.int 4)) (.bin .mul (.int 5) (.var 7))) (.cons (.int 3) .nil)))))) (.cons (.asg 10 (.idx (.lst (.cons (.tup (.cons (.int 1) (.cons (.int 1) .nil))) (.cons (.call "_law_share" (.cons (.var 0) (.cons (.bin .add (.bin .add (.var 1) (.int 5)) (.bin .mul (.int 5) (.var 7))) .nil))) .nil))) (.call "_law_drawn" (.cons (.var 0) (.cons (.bin .add (.bin .add (.var 1) (.int 6)) (.bin .mul (.int 5) (.var 7))) (.cons (.int 2) .nil)))))) (.cons (.asg 11 (.idx (.lst (.cons (.var 4) (.cons (.str "atop") (.cons (.var 4) (.cons (.str "cut") .nil))))) (.call "_law_drawn" (.cons (.var 0) (.cons (.bin .add (.bin .add (.var 1) (.int 7)) (.bin .mul (.int 5) (.var 7))) (.cons (.int 4) .nil)))))) (.cons (.asg 12 (.tup (.cons (.str "group") (.cons (.idx (.var 3) (.bin .add (.var 2) (.var 7))) (.cons (.var 11) (.cons (.var 10) (.cons (.cmp .gt (.call "_law_drawn" (.cons (.var 0) (.cons (.bin .add (.bin .add (.var 1) (.int 14)) (.var 7)) (.cons (.int 7) .nil)))) (.int 0)) .nil))))))) (.cons (.setSl 6 (.var 8) (.var 9) (.lst (.cons (.bin .add (.var 12) (.tup (.cons (.bi .tuple (.cons (.slB (.var 6) (.var 8) (.var 9)) .nil)) .nil))) .nil))) .nil))))))) (.cons (.ret (.bi .tuple (.cons (.var 6) .nil))) .nil))))⟩
/-- _law_picture (law_k20_pictures_known) -/
def f__law_picture : Fn := ⟨4, 6, .cons (.asg 4 (.bin .add (.int 1) (.call "_law_drawn" (.cons (.var 0) (.cons (.var 1) (.cons (.int 3) .nil)))))) (.cons (.asg 5 (.bin .add (.int 1) (.call "_law_drawn" (.cons (.var 0) (.cons (.bin .add (.var 1) (.int 1)) (.cons (.int 3) .nil)))))) (.cons (.ret (.tup (.cons (.var 4) (.cons (.var 5) (.cons (.call "_law_nodes" (.cons (.var 0) (.cons (.bin .add (.var 1) (.int 2)) (.cons (.var 2) (.cons (.var 3) .nil))))) .nil))))) .nil))⟩
/-- _law_all (law_k20_pictures_known) -/
def f__law_all : Fn := ⟨1, 3, .cons (.asgO 1 (.lst (.nil))) (.cons (.for_ (.one 2) .seq (.cons (.var 0) .nil) (.cons (.app 1 (.var 2)) (.cons (.ifs (.cmp .eq (.idx (.var 2) (.int 0)) (.str "group")) (.cons (.asgO 1 (.bin .add (.var 1) (.call "_law_all" (.cons (.idx (.var 2) (.int 5)) .nil)))) .nil) (.nil)) .nil))) (.cons (.retO 1) .nil))⟩
/-- names_in (law_k21_names) -/
def f_names_in : Fn := ⟨1, 1, .cons (.ret (.call "names_of_all" (.cons (.idx (.var 0) (.int 2)) .nil))) .nil⟩
/-- all_nodes (law_k21_names) -/
def f_all_nodes : Fn := ⟨1, 3, .cons (.asgO 1 (.lst (.nil))) (.cons (.for_ (.one 2) .seq (.cons (.var 0) .nil) (.cons (.app 1 (.var 2)) (.cons (.ifs (.cmp .eq (.idx (.var 2) (.int 0)) (.str "group")) (.cons (.ext 1 (.call "all_nodes" (.cons (.idx (.var 2) (.int 5)) .nil))) .nil) (.nil)) .nil))) (.cons (.retO 1) .nil))⟩
/-- node_named (law_k21_names) -/
def f_node_named : Fn := ⟨2, 4, .cons (.asg 2 (.lc [("node", 3)] (.one 3) .seq (.cons (.call "all_nodes" (.cons (.idx (.var 0) (.int 2)) .nil)) .nil) (.cons (.cmp .eq (.idx (.var 3) (.int 1)) (.var 1)) .nil) (.var 3))) (.cons (.ifs (.cmp .eq (.var 2) (.lst (.nil))) (.cons (.rais "NoName") .nil) (.nil)) (.cons (.ret (.idx (.var 2) (.int 0))) .nil))⟩
/-- list_with (law_k21_names) -/
def f_list_with : Fn := ⟨2, 4, .cons (.ifs (.cmp .isin (.var 1) (.lc [("node", 2)] (.one 2) .seq (.cons (.var 0) .nil) (.nil) (.idx (.var 2) (.int 1)))) (.cons (.ret (.var 0)) .nil) (.nil)) (.cons (.for_ (.one 2) .seq (.cons (.var 0) .nil) (.cons (.ifs (.cmp .eq (.idx (.var 2) (.int 0)) (.str "group")) (.cons (.asg 3 (.call "list_with" (.cons (.idx (.var 2) (.int 5)) (.cons (.var 1) .nil)))) (.cons (.ifs (.cmp .isnot (.var 3) (.non)) (.cons (.ret (.var 3)) .nil) (.nil)) .nil)) (.nil)) .nil)) (.cons (.ret (.non)) .nil))⟩
/-- lists_changed (law_k21_names) -/
def f_lists_changed : Fn := ⟨3, 5, .cons (.ifs (.cmp .isin (.var 1) (.lc [("node", 4)] (.one 4) .seq (.cons (.var 0) .nil) (.nil) (.idx (.var 4) (.int 1)))) (.cons (.ret (.var 2)) .nil) (.nil)) (.cons (.asgO 3 (.lst (.nil))) (.cons (.for_ (.one 4) .seq (.cons (.var 0) .nil) (.cons (.app 3 (.ite (.cmp .eq (.idx (.var 4) (.int 0)) (.str "group")) (.bin .add (.slU (.var 4) (.int 5)) (.tup (.cons (.call "lists_changed" (.cons (.idx (.var 4) (.int 5)) (.cons (.var 1) (.cons (.var 2) .nil)))) .nil))) (.var 4))) .nil)) (.cons (.ret (.bi .tuple (.cons (.var 3) .nil))) .nil)))⟩
/-- place_of (law_k21_names) -/
def f_place_of : Fn := ⟨2, 3, .cons (.ret (.mt .index (.lc [("node", 2)] (.one 2) .seq (.cons (.var 0) .nil) (.nil) (.idx (.var 2) (.int 1))) (.cons (.var 1) .nil))) .nil⟩
/-- around (law_k21_names) -/
def f_around : Fn := ⟨2, 3, .cons (.expr (.call "node_named" (.cons (.var 0) (.cons (.var 1) .nil)))) (.cons (.asg 2 (.call "list_with" (.cons (.idx (.var 0) (.int 2)) (.cons (.var 1) .nil)))) (.cons (.ret (.tup (.cons (.var 2) (.cons (.call "place_of" (.cons (.var 2) (.cons (.var 1) .nil))) .nil)))) .nil))⟩
/-- with_list (law_k21_names) -/
def f_with_list : Fn := ⟨3, 3, .cons (.ret (.bin .add (.slU (.var 0) (.int 2)) (.tup (.cons (.call "lists_changed" (.cons (.idx (.var 0) (.int 2)) (.cons (.var 1) (.cons (.var 2) .nil)))) .nil)))) .nil⟩
/-- _law_with (law_k21_names) -/
def f__law_with : Fn := ⟨3, 5, .cons (.asgO 3 (.lst (.nil))) (.cons (.for_ (.one 4) .seq (.cons (.var 0) .nil) (.cons (.ifs (.cmp .eq (.idx (.var 4) (.int 1)) (.var 1)) (.cons (.ext 3 (.var 2)) .nil) (.cons (.ifs (.cmp .eq (.idx (.var 4) (.int 0)) (.str "group")) (.cons (.app 3 (.bin .add (.slU (.var 4) (.int 5)) (.tup (.cons (.call "_law_with" (.cons (.idx (.var 4) (.int 5)) (.cons (.var 1) (.cons (.var 2) .nil)))) .nil)))) .nil) (.cons (.app 3 (.var 4)) .nil)) .nil)) .nil)) (.cons (.ret (.bi .tuple (.cons (.var 3) .nil))) .nil))⟩
/-- mask_at (law_k30_flats) -/
def f_mask_at : Fn := ⟨3, 6, .cons (.asgT [3, 4, 5] (.idx (.var 0) (.int 8))) (.cons (.ifs (.or (.cmp .is (.idx (.var 0) (.int 7)) (.non)) (.not (.call "is_on" (.cons (.var 3) (.cons (.var 4) (.cons (.var 1) (.cons (.var 2) .nil))))))) (.cons (.ret (.glob "ALL")) .nil) (.nil)) (.cons (.ret (.idx (.idx (.var 0) (.int 7)) (.bin .add (.bin .mul (.var 2) (.var 3)) (.var 1)))) .nil))⟩
/-- spot_of (law_k30_flats) -/
def f_spot_of : Fn := ⟨3, 4, .cons (.ifs (.cmp .eq (.idx (.var 0) (.int 0)) (.str "group")) (.cons (.ret (.call "weighted" (.cons (.call "shown_by" (.cons (.idx (.var 0) (.int 5)) (.cons (.var 1) (.cons (.var 2) .nil)))) (.cons (.idx (.var 0) (.int 3)) .nil)))) .nil) (.nil)) (.cons (.asg 3 (.tup (.cons (.bin .sub (.var 1) (.idx (.var 0) (.int 5))) (.cons (.bin .sub (.var 2) (.idx (.var 0) (.int 6))) .nil)))) (.cons (.ret (.call "weighted" (.cons (.call "spot_at" (.cons (.idx (.var 0) (.int 8)) (.cons (.idx (.var 3) (.int 0)) (.cons (.idx (.var 3) (.int 1)) .nil)))) (.cons (.call "times" (.cons (.call "mask_at" (.cons (.var 0) (.cons (.idx (.var 3) (.int 0)) (.cons (.idx (.var 3) (.int 1)) .nil)))) (.cons (.idx (.var 0) (.int 3)) .nil))) .nil)))) .nil))⟩
/-- shown_on (law_k30_flats) -/
def f_shown_on : Fn := ⟨4, 4, .cons (.ifs (.not (.idx (.var 0) (.int 4))) (.cons (.ret (.var 3)) .nil) (.nil)) (.cons (.ifs (.cmp .eq (.idx (.var 0) (.int 0)) (.str "tone")) (.cons (.ret (.call "toned" (.cons (.idx (.var 0) (.int 2)) (.cons (.var 3) (.cons (.idx (.var 0) (.int 3)) .nil))))) .nil) (.nil)) (.cons (.ret (.call "blended" (.cons (.idx (.var 0) (.int 2)) (.cons (.call "spot_of" (.cons (.var 0) (.cons (.var 1) (.cons (.var 2) .nil)))) (.cons (.var 3) .nil))))) .nil))⟩
/-- shown_by (law_k30_flats) -/
def f_shown_by : Fn := ⟨3, 5, .cons (.asg 3 (.glob "CLEAR")) (.cons (.for_ (.one 4) .seq (.cons (.var 0) .nil) (.cons (.asg 3 (.call "shown_on" (.cons (.var 4) (.cons (.var 1) (.cons (.var 2) (.cons (.var 3) .nil)))))) .nil)) (.cons (.ret (.var 3)) .nil))⟩
/-- flat (law_k30_flats) -/
def f_flat : Fn := ⟨1, 6, .cons (.asgT [1, 2, 3] (.var 0)) (.cons (.ret (.tup (.cons (.var 1) (.cons (.var 2) (.cons (.bi .tuple (.cons (.lc [("x", 4), ("y", 5)] (.many [4, 5]) .seq (.cons (.call "places" (.cons (.var 1) (.cons (.var 2) .nil))) .nil) (.nil) (.call "shown_by" (.cons (.var 3) (.cons (.var 4) (.cons (.var 5) .nil))))) .nil)) .nil))))) .nil)⟩
/-- _law_brought (law_k30_flats) -/
def f__law_brought : Fn := ⟨3, 10, .cons (.ifs (.cmp .eq (.idx (.var 0) (.int 0)) (.str "group")) (.cons (.ret (.bi .tuple (.cons (.lc [("_law_part", 9)] (.one 9) .seq (.cons (.call "_law_shown" (.cons (.idx (.var 0) (.int 5)) (.cons (.var 1) (.cons (.var 2) .nil)))) .nil) (.nil) (.call "_law_times" (.cons (.var 9) (.cons (.idx (.var 0) (.int 3)) .nil)))) .nil))) .nil) (.nil)) (.cons (.asgT [6, 7, 8] (.idx (.var 0) (.int 8))) (.cons (.asg 3 (.bin .sub (.var 1) (.idx (.var 0) (.int 5)))) (.cons (.asg 4 (.bin .sub (.var 2) (.idx (.var 0) (.int 6)))) (.cons (.ifs (.or (.not (.chain .le .lt (.int 0) (.var 3) (.var 6))) (.not (.chain .le .lt (.int 0) (.var 4) (.var 7)))) (.cons (.ret (.bin .mul (.tup (.cons (.tup (.cons (.int 0) (.cons (.int 1) .nil))) .nil)) (.int 4))) .nil) (.nil)) (.cons (.asg 5 (.idx (.var 0) (.int 3))) (.cons (.ifs (.cmp .isnot (.idx (.var 0) (.int 7)) (.non)) (.cons (.asg 5 (.call "_law_times" (.cons (.var 5) (.cons (.idx (.idx (.var 0) (.int 7)) (.bin .add (.bin .mul (.var 4) (.var 6)) (.var 3))) .nil)))) .nil) (.nil)) (.cons (.ret (.bi .tuple (.cons (.lc [("_law_part", 9)] (.one 9) .seq (.cons (.idx (.var 8) (.bin .add (.bin .mul (.var 4) (.var 6)) (.var 3))) .nil) (.nil) (.call "_law_times" (.cons (.var 9) (.cons (.var 5) .nil)))) .nil))) .nil)))))))⟩
/-- _law_shown (law_k30_flats) -/
def f__law_shown : Fn := ⟨3, 5, .cons (.asg 3 (.bin .mul (.tup (.cons (.tup (.cons (.int 0) (.cons (.int 1) .nil))) .nil)) (.int 4))) (.cons (.for_ (.one 4) .seq (.cons (.var 0) .nil) (.cons (.ifs (.and (.idx (.var 4) (.int 4)) (.cmp .eq (.idx (.var 4) (.int 0)) (.str "tone"))) (.cons (.asg 3 (.call "_law_tone" (.cons (.idx (.var 4) (.int 2)) (.cons (.var 3) (.cons (.idx (.var 4) (.int 3)) .nil))))) .nil) (.cons (.ifs (.idx (.var 4) (.int 4)) (.cons (.asg 3 (.call "_law_blend" (.cons (.idx (.var 4) (.int 2)) (.cons (.call "_law_brought" (.cons (.var 4) (.cons (.var 1) (.cons (.var 2) .nil)))) (.cons (.var 3) .nil))))) .nil) (.nil)) .nil)) .nil)) (.cons (.ret (.var 3)) .nil))⟩
/-- spots_of (law_k40_needless) -/
def f_spots_of : Fn := ⟨2, 4, .cons (.ret (.lc [("x", 2), ("y", 3)] (.many [2, 3]) .seq (.cons (.call "places" (.cons (.idx (.var 0) (.int 0)) (.cons (.idx (.var 0) (.int 1)) .nil))) .nil) (.nil) (.call "spot_of" (.cons (.var 1) (.cons (.var 2) (.cons (.var 3) .nil)))))) .nil⟩
/-- is_idle (law_k40_needless) -/
def f_is_idle : Fn := ⟨2, 3, .cons (.ifs (.or (.not (.idx (.var 1) (.int 4))) (.cmp .eq (.idx (.var 1) (.int 3)) (.glob "NONE"))) (.cons (.ret (.bl true)) .nil) (.nil)) (.cons (.ret (.and (.cmp .ne (.idx (.var 1) (.int 0)) (.str "tone")) (.bi .all (.cons (.lc [("spot", 2)] (.one 2) .seq (.cons (.call "spots_of" (.cons (.var 0) (.cons (.var 1) .nil))) .nil) (.nil) (.cmp .eq (.var 2) (.glob "CLEAR"))) .nil)))) .nil)⟩
/-- covers (law_k40_needless) -/
def f_covers : Fn := ⟨2, 3, .cons (.ifs (.or (.not (.idx (.var 1) (.int 4))) (.or (.cmp .eq (.idx (.var 1) (.int 0)) (.str "tone")) (.cmp .ne (.idx (.var 1) (.int 2)) (.str "over")))) (.cons (.ret (.bl false)) .nil) (.nil)) (.cons (.ret (.bi .all (.cons (.lc [("spot", 2)] (.one 2) .seq (.cons (.call "spots_of" (.cons (.var 0) (.cons (.var 1) .nil))) .nil) (.nil) (.cmp .eq (.idx (.var 2) (.int 0)) (.glob "ALL"))) .nil))) .nil)⟩
/-- needless_in (law_k40_needless) -/
def f_needless_in : Fn := ⟨2, 6, .cons (.asgO 2 (.lst (.nil))) (.cons (.for_ (.many [3, 4]) .enum (.cons (.var 1) .nil) (.cons (.ifs (.or (.call "is_idle" (.cons (.var 0) (.cons (.var 4) .nil))) (.bi .any (.cons (.lc [("other", 5)] (.one 5) .seq (.cons (.slL (.var 1) (.bin .add (.var 3) (.int 1))) .nil) (.nil) (.call "covers" (.cons (.var 0) (.cons (.var 5) .nil)))) .nil))) (.cons (.app 2 (.idx (.var 4) (.int 1))) .nil) (.cons (.ifs (.cmp .eq (.idx (.var 4) (.int 0)) (.str "group")) (.cons (.ext 2 (.call "needless_in" (.cons (.var 0) (.cons (.idx (.var 4) (.int 5)) .nil)))) .nil) (.nil)) .nil)) .nil)) (.cons (.retO 2) .nil))⟩
/-- needless (law_k40_needless) -/
def f_needless : Fn := ⟨1, 1, .cons (.ret (.call "needless_in" (.cons (.var 0) (.cons (.idx (.var 0) (.int 2)) .nil)))) .nil⟩
/-- is_plain (law_k50_made_one) -/
def f_is_plain : Fn := ⟨2, 2, .cons (.ret (.and (.cmp .ne (.idx (.var 0) (.int 0)) (.str "tone")) (.and (.idx (.var 0) (.int 4)) (.cmp .eq (.idx (.var 0) (.int 2)) (.var 1))))) .nil⟩
/-- sheet_of (law_k50_made_one) -/
def f_sheet_of : Fn := ⟨2, 2, .cons (.ret (.tup (.cons (.idx (.var 0) (.int 0)) (.cons (.idx (.var 0) (.int 1)) (.cons (.bi .tuple (.cons (.call "spots_of" (.cons (.var 0) (.cons (.var 1) .nil))) .nil)) .nil))))) .nil⟩
/-- merged (law_k50_made_one) -/
def f_merged : Fn := ⟨2, 7, .cons (.asgT [5, 6] (.call "around" (.cons (.var 0) (.cons (.var 1) .nil)))) (.cons (.asg 2 (.idx (.idx (.var 5) (.var 6)) (.int 2))) (.cons (.ifs (.or (.cmp .eq (.var 6) (.int 0)) (.or (.cmp .notin (.var 2) (.glob "JOINING")) (.or (.not (.call "is_plain" (.cons (.idx (.var 5) (.var 6)) (.cons (.var 2) .nil)))) (.not (.call "is_plain" (.cons (.idx (.var 5) (.bin .sub (.var 6) (.int 1))) (.cons (.var 2) .nil))))))) (.cons (.rais "NoMerge") .nil) (.nil)) (.cons (.asg 3 (.call "blended_sheets" (.cons (.var 2) (.cons (.call "sheet_of" (.cons (.var 0) (.cons (.idx (.var 5) (.var 6)) .nil))) (.cons (.call "sheet_of" (.cons (.var 0) (.cons (.idx (.var 5) (.bin .sub (.var 6) (.int 1))) .nil))) .nil))))) (.cons (.asg 4 (.tup (.cons (.str "layer") (.cons (.idx (.idx (.var 5) (.bin .sub (.var 6) (.int 1))) (.int 1)) (.cons (.var 2) (.cons (.glob "ALL") (.cons (.bl true) (.cons (.int 0) (.cons (.int 0) (.cons (.non) (.cons (.var 3) .nil))))))))))) (.cons (.ret (.call "with_list" (.cons (.var 0) (.cons (.var 1) (.cons (.bin .add (.bin .add (.slU (.var 5) (.bin .sub (.var 6) (.int 1))) (.tup (.cons (.var 4) .nil))) (.slL (.var 5) (.bin .add (.var 6) (.int 1)))) .nil))))) .nil)))))⟩
/-- opened (law_k50_made_one) -/
def f_opened : Fn := ⟨2, 6, .cons (.asgT [3, 4] (.call "around" (.cons (.var 0) (.cons (.var 1) .nil)))) (.cons (.asg 2 (.idx (.var 3) (.var 4))) (.cons (.ifs (.or (.cmp .ne (.idx (.var 2) (.int 0)) (.str "group")) (.or (.not (.idx (.var 2) (.int 4))) (.or (.cmp .ne (.idx (.var 2) (.int 3)) (.glob "ALL")) (.cmp .notin (.idx (.var 2) (.int 2)) (.glob "JOINING"))))) (.cons (.rais "NoOpen") .nil) (.nil)) (.cons (.ifs (.not (.bi .all (.cons (.lc [("one", 5)] (.one 5) .seq (.cons (.idx (.var 2) (.int 5)) .nil) (.cons (.idx (.var 5) (.int 4)) .nil) (.call "is_plain" (.cons (.var 5) (.cons (.idx (.var 2) (.int 2)) .nil)))) .nil))) (.cons (.rais "NoOpen") .nil) (.nil)) (.cons (.ret (.call "with_list" (.cons (.var 0) (.cons (.var 1) (.cons (.bin .add (.bin .add (.slU (.var 3) (.var 4)) (.idx (.var 2) (.int 5))) (.slL (.var 3) (.bin .add (.var 4) (.int 1)))) .nil))))) .nil))))⟩
/-- swapped (law_k50_made_one) -/
def f_swapped : Fn := ⟨2, 7, .cons (.asgT [2, 3] (.call "around" (.cons (.var 0) (.cons (.var 1) .nil)))) (.cons (.ifs (.cmp .eq (.var 3) (.bin .sub (.bi .len (.cons (.var 2) .nil)) (.int 1))) (.cons (.rais "NoSwap") .nil) (.nil)) (.cons (.asgT [4, 5] (.slB (.var 2) (.var 3) (.bin .add (.var 3) (.int 2)))) (.cons (.ifs (.and (.idx (.var 4) (.int 4)) (.idx (.var 5) (.int 4))) (.cons (.asg 6 (.idx (.var 4) (.int 2))) (.cons (.ifs (.or (.cmp .notin (.var 6) (.glob "TURNING")) (.or (.not (.call "is_plain" (.cons (.var 4) (.cons (.var 6) .nil)))) (.not (.call "is_plain" (.cons (.var 5) (.cons (.var 6) .nil)))))) (.cons (.rais "NoSwap") .nil) (.nil)) .nil)) (.nil)) (.cons (.ret (.call "with_list" (.cons (.var 0) (.cons (.var 1) (.cons (.bin .add (.bin .add (.slU (.var 2) (.var 3)) (.tup (.cons (.var 5) (.cons (.var 4) .nil)))) (.slL (.var 2) (.bin .add (.var 3) (.int 2)))) .nil))))) .nil))))⟩
/-- _law_beside (law_k50_made_one) -/
def f__law_beside : Fn := ⟨2, 4, .cons (.ifs (.cmp .isin (.var 1) (.lc [("_law_node", 2)] (.one 2) .seq (.cons (.var 0) .nil) (.nil) (.idx (.var 2) (.int 1)))) (.cons (.ret (.tup (.cons (.var 0) (.cons (.mt .index (.lc [("_law_node", 2)] (.one 2) .seq (.cons (.var 0) .nil) (.nil) (.idx (.var 2) (.int 1))) (.cons (.var 1) .nil)) .nil)))) .nil) (.nil)) (.cons (.for_ (.one 2) .seq (.cons (.var 0) .nil) (.cons (.ifs (.and (.cmp .eq (.idx (.var 2) (.int 0)) (.str "group")) (.cmp .isin (.var 1) (.lc [("_law_one", 3)] (.one 3) .seq (.cons (.call "_law_all" (.cons (.idx (.var 2) (.int 5)) .nil)) .nil) (.nil) (.idx (.var 3) (.int 1))))) (.cons (.ret (.call "_law_beside" (.cons (.idx (.var 2) (.int 5)) (.cons (.var 1) .nil)))) .nil) (.nil)) .nil)) (.cons (.ret (.tup (.cons (.tup (.nil)) (.cons (.int 0) .nil)))) .nil))⟩
/-- _law_refused (law_k50_made_one) -/
def f__law_refused_k50 : Fn := ⟨1, 2, .cons (.asg 1 (.lst (.cons (.isx "NoName" (.var 0)) (.cons (.isx "NoMerge" (.var 0)) (.cons (.isx "NoOpen" (.var 0)) .nil))))) (.cons (.asg 1 (.bin .add (.var 1) (.lst (.cons (.isx "NoSwap" (.var 0)) .nil)))) (.cons (.ifs (.or (.cmp .ne (.mt .count (.var 1) (.cons (.bl true) .nil)) (.int 1)) (.not (.isx "ValueError" (.var 0)))) (.cons (.ret (.tup (.cons (.str "refused") (.cons (.int (-1)) .nil)))) .nil) (.nil)) (.cons (.ret (.tup (.cons (.str "refused") (.cons (.mt .index (.var 1) (.cons (.bl true) .nil)) .nil)))) .nil)))⟩
/-- _law_told (law_k50_made_one) -/
def f__law_told_k50 : Fn := ⟨3, 4, .cons (.try_ (.cons (.ret (.calle (.idx (.lst (.cons (.fnv "merged") (.cons (.fnv "opened") (.cons (.fnv "swapped") .nil)))) (.var 0)) (.cons (.var 1) (.cons (.var 2) .nil)))) .nil) "GlazeError" 3 (.cons (.ret (.call "_law_refused" (.cons (.var 3) .nil))) .nil)) .nil⟩
/-- _law_is_plain (law_k50_made_one) -/
def f__law_is_plain : Fn := ⟨2, 2, .cons (.ret (.and (.cmp .ne (.idx (.var 0) (.int 0)) (.str "tone")) (.and (.idx (.var 0) (.int 4)) (.cmp .eq (.idx (.var 0) (.int 2)) (.var 1))))) .nil⟩
/-- _law_merged (law_k50_made_one) -/
def f__law_merged : Fn := ⟨3, 11, .cons (.asgT [7, 8, 9] (.var 0)) (.cons (.asg 3 (.idx (.idx (.var 1) (.var 2)) (.int 2))) (.cons (.ifs (.or (.cmp .eq (.var 2) (.int 0)) (.cmp .notin (.var 3) (.tup (.cons (.str "over") (.cons (.str "multiply") (.cons (.str "screen") (.cons (.str "plus") .nil))))))) (.cons (.ret (.tup (.cons (.str "refused") (.cons (.int 1) .nil)))) .nil) (.nil)) (.cons (.ifs (.or (.not (.call "_law_is_plain" (.cons (.idx (.var 1) (.var 2)) (.cons (.var 3) .nil)))) (.not (.call "_law_is_plain" (.cons (.idx (.var 1) (.bin .sub (.var 2) (.int 1))) (.cons (.var 3) .nil))))) (.cons (.ret (.tup (.cons (.str "refused") (.cons (.int 1) .nil)))) .nil) (.nil)) (.cons (.asgO 4 (.lst (.nil))) (.cons (.for_ (.one 5) .rng (.cons (.bin .mul (.var 7) (.var 8)) .nil) (.cons (.asg 10 (.call "_law_brought" (.cons (.idx (.var 1) (.var 2)) (.cons (.bin .mod (.var 5) (.var 7)) (.cons (.bin .fdiv (.var 5) (.var 7)) .nil))))) (.cons (.app 4 (.call "_law_blend" (.cons (.var 3) (.cons (.var 10) (.cons (.call "_law_brought" (.cons (.idx (.var 1) (.bin .sub (.var 2) (.int 1))) (.cons (.bin .mod (.var 5) (.var 7)) (.cons (.bin .fdiv (.var 5) (.var 7)) .nil)))) .nil))))) .nil))) (.cons (.asg 6 (.tup (.cons (.str "layer") (.cons (.idx (.idx (.var 1) (.bin .sub (.var 2) (.int 1))) (.int 1)) (.cons (.var 3) (.cons (.tup (.cons (.int 1) (.cons (.int 1) .nil))) (.cons (.bl true) (.cons (.int 0) (.cons (.int 0) (.cons (.non) (.cons (.tup (.cons (.var 7) (.cons (.var 8) (.cons (.bi .tuple (.cons (.var 4) .nil)) .nil)))) .nil))))))))))) (.cons (.ret (.tup (.cons (.var 7) (.cons (.var 8) (.cons (.call "_law_with" (.cons (.call "_law_with" (.cons (.var 9) (.cons (.idx (.idx (.var 1) (.var 2)) (.int 1)) (.cons (.tup (.nil)) .nil)))) (.cons (.idx (.idx (.var 1) (.bin .sub (.var 2) (.int 1))) (.int 1)) (.cons (.tup (.cons (.var 6) .nil)) .nil)))) .nil))))) .nil)))))))⟩
/-- _law_opened (law_k50_made_one) -/
def f__law_opened : Fn := ⟨2, 3, .cons (.ifs (.or (.cmp .ne (.idx (.var 1) (.int 0)) (.str "group")) (.or (.not (.idx (.var 1) (.int 4))) (.or (.cmp .ne (.idx (.var 1) (.int 3)) (.tup (.cons (.int 1) (.cons (.int 1) .nil)))) (.cmp .isin (.idx (.var 1) (.int 2)) (.tup (.cons (.str "atop") (.cons (.str "cut") .nil))))))) (.cons (.ret (.tup (.cons (.str "refused") (.cons (.int 2) .nil)))) .nil) (.nil)) (.cons (.ifs (.cmp .ne (.lc [("_law_one", 2)] (.one 2) .seq (.cons (.idx (.var 1) (.int 5)) .nil) (.cons (.and (.idx (.var 2) (.int 4)) (.not (.call "_law_is_plain" (.cons (.var 2) (.cons (.idx (.var 1) (.int 2)) .nil))))) .nil) (.var 2)) (.lst (.nil))) (.cons (.ret (.tup (.cons (.str "refused") (.cons (.int 2) .nil)))) .nil) (.nil)) (.cons (.ret (.tup (.cons (.idx (.var 0) (.int 0)) (.cons (.idx (.var 0) (.int 1)) (.cons (.call "_law_with" (.cons (.idx (.var 0) (.int 2)) (.cons (.idx (.var 1) (.int 1)) (.cons (.idx (.var 1) (.int 5)) .nil)))) .nil))))) .nil))⟩
/-- _law_swapped (law_k50_made_one) -/
def f__law_swapped : Fn := ⟨3, 7, .cons (.ifs (.cmp .eq (.bin .add (.var 2) (.int 1)) (.bi .len (.cons (.var 1) .nil))) (.cons (.ret (.tup (.cons (.str "refused") (.cons (.int 3) .nil)))) .nil) (.nil)) (.cons (.asg 3 (.idx (.var 1) (.var 2))) (.cons (.asg 4 (.idx (.var 1) (.bin .add (.var 2) (.int 1)))) (.cons (.asg 5 (.idx (.var 3) (.int 2))) (.cons (.ifs (.and (.idx (.var 3) (.int 4)) (.idx (.var 4) (.int 4))) (.cons (.ifs (.cmp .notin (.var 5) (.tup (.cons (.str "multiply") (.cons (.str "screen") (.cons (.str "plus") .nil))))) (.cons (.ret (.tup (.cons (.str "refused") (.cons (.int 3) .nil)))) .nil) (.nil)) (.cons (.ifs (.or (.not (.call "_law_is_plain" (.cons (.var 3) (.cons (.var 5) .nil)))) (.not (.call "_law_is_plain" (.cons (.var 4) (.cons (.var 5) .nil))))) (.cons (.ret (.tup (.cons (.str "refused") (.cons (.int 3) .nil)))) .nil) (.nil)) .nil)) (.nil)) (.cons (.asg 6 (.call "_law_with" (.cons (.call "_law_with" (.cons (.idx (.var 0) (.int 2)) (.cons (.idx (.var 4) (.int 1)) (.cons (.tup (.nil)) .nil)))) (.cons (.idx (.var 3) (.int 1)) (.cons (.tup (.cons (.var 4) (.cons (.var 3) .nil))) .nil))))) (.cons (.ret (.tup (.cons (.idx (.var 0) (.int 0)) (.cons (.idx (.var 0) (.int 1)) (.cons (.var 6) .nil))))) .nil))))))⟩
/-- law (law_k50_made_one) -/
def f_law_k50 : Fn := ⟨1, 6, .cons (.asg 1 (.call "_law_picture" (.cons (.var 0) (.cons (.int 30) (.cons (.int 4) (.cons (.call "_law_names" (.cons (.var 0) (.cons (.int 0) (.cons (.int 6) .nil)))) .nil)))))) (.cons (.for_ (.one 2) .seq (.cons (.call "_law_all" (.cons (.idx (.var 1) (.int 2)) .nil)) .nil) (.cons (.asgT [3, 4] (.call "_law_beside" (.cons (.idx (.var 1) (.int 2)) (.cons (.idx (.var 2) (.int 1)) .nil)))) (.cons (.ifs (.cmp .ne (.call "_law_told" (.cons (.int 0) (.cons (.var 1) (.cons (.idx (.var 2) (.int 1)) .nil)))) (.call "_law_merged" (.cons (.var 1) (.cons (.var 3) (.cons (.var 4) .nil))))) (.cons (.ret (.bl false)) .nil) (.nil)) (.cons (.ifs (.cmp .ne (.call "_law_told" (.cons (.int 1) (.cons (.var 1) (.cons (.idx (.var 2) (.int 1)) .nil)))) (.call "_law_opened" (.cons (.var 1) (.cons (.var 2) .nil)))) (.cons (.ret (.bl false)) .nil) (.nil)) (.cons (.ifs (.cmp .ne (.call "_law_told" (.cons (.int 2) (.cons (.var 1) (.cons (.idx (.var 2) (.int 1)) .nil)))) (.call "_law_swapped" (.cons (.var 1) (.cons (.var 3) (.cons (.var 4) .nil))))) (.cons (.ret (.bl false)) .nil) (.nil)) .nil))))) (.cons (.ret (.cmp .eq (.lc [("_law_way", 5)] (.one 5) .rng (.cons (.int 3) .nil) (.cons (.cmp .ne (.call "_law_told" (.cons (.var 5) (.cons (.var 1) (.cons (.str "zzzzzz") .nil)))) (.tup (.cons (.str "refused") (.cons (.int 0) .nil)))) .nil) (.var 5)) (.lst (.nil)))) .nil))⟩
/-- _law_plain (law_k52_whole_to_one) -/
def f__law_plain : Fn := ⟨4, 5, .cons (.asg 4 (.call "_law_leaf" (.cons (.var 0) (.cons (.var 1) (.cons (.var 2) (.cons (.var 3) .nil)))))) (.cons (.ifs (.cmp .eq (.idx (.var 4) (.int 0)) (.str "tone")) (.cons (.asg 4 (.tup (.cons (.str "layer") (.cons (.var 2) (.cons (.var 3) (.cons (.idx (.var 4) (.int 3)) (.cons (.bl true) (.cons (.int 0) (.cons (.int 0) (.cons (.non) (.cons (.call "_law_sheet" (.cons (.var 0) (.cons (.bin .add (.var 1) (.int 50)) (.cons (.int 2) (.cons (.int 2) .nil))))) .nil))))))))))) .nil) (.nil)) (.cons (.ret (.bin .add (.bin .add (.bin .add (.bin .add (.slU (.var 4) (.int 2)) (.tup (.cons (.var 3) .nil))) (.slB (.var 4) (.int 3) (.int 4))) (.tup (.cons (.bl true) .nil))) (.slL (.var 4) (.int 5)))) .nil))⟩
/-- _law_one (law_k52_whole_to_one) -/
def f__law_one : Fn := ⟨2, 5, .cons (.for_ (.one 2) .rng (.cons (.bin .sub (.bi .len (.cons (.idx (.var 1) (.int 2)) .nil)) (.int 1)) .nil) (.cons (.asg 3 (.lc [("_law_node", 4)] (.one 4) .seq (.cons (.idx (.var 1) (.int 2)) .nil) (.nil) (.idx (.var 4) (.int 1)))) (.cons (.ifs (.cmp .gt (.bi .len (.cons (.var 3) .nil)) (.int 1)) (.cons (.asg 1 (.call "merged" (.cons (.var 1) (.cons (.idx (.var 3) (.bin .add (.int 1) (.call "_law_drawn" (.cons (.var 0) (.cons (.bin .add (.int 20) (.var 2)) (.cons (.bin .sub (.bi .len (.cons (.var 3) .nil)) (.int 1)) .nil)))))) .nil)))) .nil) (.nil)) .nil))) (.cons (.ret (.var 1)) .nil)⟩
/-- law (law_k52_whole_to_one) -/
def f_law_k52 : Fn := ⟨1, 14, .cons (.asg 1 (.idx (.lst (.cons (.str "over") (.cons (.str "multiply") (.cons (.str "screen") (.cons (.str "plus") .nil))))) (.call "_law_drawn" (.cons (.var 0) (.cons (.int 0) (.cons (.int 4) .nil)))))) (.cons (.asg 2 (.call "_law_names" (.cons (.var 0) (.cons (.int 1) (.cons (.int 6) .nil))))) (.cons (.asg 3 (.bin .add (.int 1) (.call "_law_drawn" (.cons (.var 0) (.cons (.int 24) (.cons (.int 5) .nil)))))) (.cons (.asg 4 (.bi .tuple (.cons (.lc [("_law_k", 13)] (.one 13) .rng (.cons (.var 3) .nil) (.nil) (.call "_law_plain" (.cons (.var 0) (.cons (.bin .add (.int 40) (.bin .mul (.int 170) (.var 13))) (.cons (.idx (.var 2) (.var 13)) (.cons (.var 1) .nil)))))) .nil))) (.cons (.asg 5 (.tup (.cons (.bin .add (.int 1) (.call "_law_drawn" (.cons (.var 0) (.cons (.int 25) (.cons (.int 3) .nil))))) (.cons (.bin .add (.int 1) (.call "_law_drawn" (.cons (.var 0) (.cons (.int 26) (.cons (.int 3) .nil))))) .nil)))) (.cons (.asg 6 (.bin .add (.var 5) (.tup (.cons (.var 4) .nil)))) (.cons (.asg 7 (.call "flat" (.cons (.var 6) .nil))) (.cons (.asg 8 (.tup (.cons (.str "layer") (.cons (.idx (.var 2) (.int 0)) (.cons (.var 1) (.cons (.tup (.cons (.int 1) (.cons (.int 1) .nil))) (.cons (.bl true) (.cons (.int 0) (.cons (.int 0) (.cons (.non) (.cons (.var 7) .nil))))))))))) (.cons (.ifs (.and (.cmp .gt (.var 3) (.int 1)) (.cmp .ne (.call "_law_one" (.cons (.var 0) (.cons (.var 6) .nil))) (.bin .add (.var 5) (.tup (.cons (.tup (.cons (.var 8) .nil)) .nil))))) (.cons (.ret (.bl false)) .nil) (.nil)) (.cons (.asg 9 (.bin .add (.int 2) (.call "_law_drawn" (.cons (.var 0) (.cons (.int 27) (.cons (.int 4) .nil)))))) (.cons (.asg 10 (.tup (.cons (.str "group") (.cons (.idx (.var 2) (.int 5)) (.cons (.var 1) (.cons (.tup (.cons (.int 1) (.cons (.int 1) .nil))) (.cons (.bl true) (.cons (.slU (.var 4) (.var 9)) .nil)))))))) (.cons (.asg 11 (.bin .add (.var 5) (.tup (.cons (.bin .add (.tup (.cons (.var 10) .nil)) (.slL (.var 4) (.var 9))) .nil)))) (.cons (.ifs (.or (.cmp .ne (.call "flat" (.cons (.var 11) .nil)) (.var 7)) (.cmp .ne (.call "opened" (.cons (.var 11) (.cons (.idx (.var 2) (.int 5)) .nil))) (.var 6))) (.cons (.ret (.bl false)) .nil) (.nil)) (.cons (.asg 12 (.call "_law_one" (.cons (.var 0) (.cons (.var 11) .nil)))) (.cons (.ret (.and (.cmp .eq (.call "flat" (.cons (.var 12) .nil)) (.var 7)) (.cmp .eq (.idx (.call "names_in" (.cons (.var 12) .nil)) (.int 0)) (.idx (.var 2) (.int 5))))) .nil))))))))))))))⟩
/-- _law_joined (law_k60_boxes) -/
def f__law_joined : Fn := ⟨1, 6, .cons (.ifs (.cmp .eq (.var 0) (.lst (.nil))) (.cons (.ret (.non)) .nil) (.nil)) (.cons (.asg 1 (.lc [("_law_place", 5)] (.one 5) .seq (.cons (.var 0) .nil) (.nil) (.idx (.var 5) (.int 0)))) (.cons (.asg 2 (.lc [("_law_place", 5)] (.one 5) .seq (.cons (.var 0) .nil) (.nil) (.idx (.var 5) (.int 1)))) (.cons (.asg 3 (.bi .min (.cons (.var 1) .nil))) (.cons (.asg 4 (.bi .min (.cons (.var 2) .nil))) (.cons (.ret (.tup (.cons (.var 3) (.cons (.var 4) (.cons (.bin .sub (.bin .add (.bi .max (.cons (.var 1) .nil)) (.int 1)) (.var 3)) (.cons (.bin .sub (.bin .add (.bi .max (.cons (.var 2) .nil)) (.int 1)) (.var 4)) .nil)))))) .nil)))))⟩
/-- _law_places (law_k60_boxes) -/
def f__law_places : Fn := ⟨1, 2, .cons (.ifs (.cmp .is (.var 0) (.non)) (.cons (.ret (.lst (.nil))) .nil) (.nil)) (.cons (.ret (.lc [("_law_at", 1)] (.one 1) .rng (.cons (.bin .mul (.idx (.var 0) (.int 2)) (.idx (.var 0) (.int 3))) .nil) (.nil) (.tup (.cons (.bin .add (.idx (.var 0) (.int 0)) (.bin .mod (.var 1) (.idx (.var 0) (.int 2)))) (.cons (.bin .add (.idx (.var 0) (.int 1)) (.bin .fdiv (.var 1) (.idx (.var 0) (.int 2)))) .nil))))) .nil)⟩
/-- _law_box (law_k60_boxes) -/
def f__law_box : Fn := ⟨2, 12, .cons (.asgT [4, 5, 6] (.var 0)) (.cons (.asg 2 (.lc [("_law_at", 10)] (.one 10) .rng (.cons (.bin .mul (.var 4) (.var 5)) .nil) (.nil) (.tup (.cons (.bin .mod (.var 10) (.var 4)) (.cons (.bin .fdiv (.var 10) (.var 4)) .nil))))) (.cons (.ifs (.not (.idx (.var 1) (.int 4))) (.cons (.ret (.non)) .nil) (.nil)) (.cons (.ifs (.cmp .eq (.idx (.var 1) (.int 0)) (.str "tone")) (.cons (.ret (.tup (.cons (.int 0) (.cons (.int 0) (.cons (.var 4) (.cons (.var 5) .nil)))))) .nil) (.nil)) (.cons (.ifs (.cmp .eq (.idx (.var 1) (.int 0)) (.str "group")) (.cons (.asg 3 (.lst (.nil))) (.cons (.for_ (.one 7) .seq (.cons (.idx (.var 1) (.int 5)) .nil) (.cons (.ifs (.cmp .ne (.idx (.var 7) (.int 0)) (.str "tone")) (.cons (.asg 3 (.bin .add (.var 3) (.call "_law_places" (.cons (.call "_law_box" (.cons (.var 0) (.cons (.var 7) .nil))) .nil)))) .nil) (.nil)) .nil)) (.cons (.ret (.call "_law_joined" (.cons (.var 3) .nil))) .nil))) (.nil)) (.cons (.asgT [8, 9] (.slB (.var 1) (.int 5) (.int 7))) (.cons (.asg 3 (.lc [("_law_place", 11)] (.one 11) .seq (.cons (.var 2) .nil) (.cons (.chain .le .lt (.var 8) (.idx (.var 11) (.int 0)) (.bin .add (.var 8) (.idx (.idx (.var 1) (.int 8)) (.int 0)))) .nil) (.var 11))) (.cons (.ret (.call "_law_joined" (.cons (.lc [("_law_place", 11)] (.one 11) .seq (.cons (.var 3) .nil) (.cons (.chain .le .lt (.var 9) (.idx (.var 11) (.int 1)) (.bin .add (.var 9) (.idx (.idx (.var 1) (.int 8)) (.int 1)))) .nil) (.var 11)) .nil))) .nil)))))))⟩
end GzL
end -- GzDefs
section -- GzT_k52
/-! the text of PySem.Challenge.rw_glazework_k52_whole_to_one in the small language (printed by wip/irp.py) -/
namespace GzL
open PySem PySem.Spec PyProof.Rows L2 Gz
abbrev rw := PySem.Challenge.rw_glazework_k52_whole_to_one
def top (i : Nat) : Stmt := rw.prog.main.body.getD i (.Pass ⟨0, 0, 0, 0⟩)
def dd (x : Str) (i : Nat) : He.DefD := ⟨(x, none), x, x, defArgs (top i), defBody (top i), defScope (top i), [], []⟩
def items0 : List DefI := [⟨"common", f_common, ["one", "other"], dd "common" 8⟩,
  ⟨"fraction", f_fraction, ["top", "under", "by"], dd "fraction" 9⟩,
  ⟨"plus", f_plus, ["one", "other"], dd "plus" 10⟩,
  ⟨"less", f_less, ["one", "other"], dd "less" 11⟩,
  ⟨"times", f_times, ["one", "other"], dd "times" 12⟩,
  ⟨"rest", f_rest, ["share"], dd "rest" 13⟩,
  ⟨"is_over", f_is_over, ["one", "other"], dd "is_over" 14⟩,
  ⟨"at_most", f_at_most, ["share"], dd "at_most" 15⟩,
  ⟨"between", f_between, ["one", "other", "share"], dd "between" 16⟩,
  ⟨"weighted", f_weighted, ["spot", "share", "part"], dd "weighted" 19⟩,
  ⟨"over", f_over, ["above", "below", "left", "mine", "yours"], dd "over" 20⟩,
  ⟨"multiply", f_multiply, ["above", "below", "mine_left", "yours_left", "found", "mine", "yours"], dd "multiply" 21⟩,
  ⟨"screen", f_screen, ["above", "below", "mine", "yours"], dd "screen" 22⟩,
  ⟨"added", f_added, ["above", "below", "mine", "yours"], dd "added" 23⟩,
  ⟨"atop", f_atop, ["above", "below", "left", "found", "mine", "yours"], dd "atop" 24⟩,
  ⟨"cut", f_cut, ["above", "below"], dd "cut" 25⟩,
  ⟨"blended", f_blended, ["manner", "above", "below", "blend"], dd "blended" 27⟩,
  ⟨"by_rule", f_by_rule, ["rule", "spot", "grey", "cover", "red", "green", "blue"], dd "by_rule" 28⟩,
  ⟨"toned", f_toned, ["rule", "spot", "strength", "one", "other"], dd "toned" 29⟩,
  ⟨"is_on", f_is_on, ["wide", "high", "x", "y"], dd "is_on" 31⟩,
  ⟨"spot_at", f_spot_at, ["sheet", "x", "y", "wide", "high", "spots"], dd "spot_at" 32⟩,
  ⟨"places", f_places, ["wide", "high", "at"], dd "places" 33⟩,
  ⟨"blended_sheets", f_blended_sheets, ["manner", "above", "below", "spots", "mine", "yours"], dd "blended_sheets" 34⟩,
  ⟨"names_of", f_names_of, ["node"], dd "names_of" 36⟩,
  ⟨"names_of_all", f_names_of_all, ["nodes", "found", "node"], dd "names_of_all" 37⟩,
  ⟨"names_in", f_names_in, ["picture"], dd "names_in" 38⟩,
  ⟨"all_nodes", f_all_nodes, ["nodes", "found", "node"], dd "all_nodes" 39⟩,
  ⟨"node_named", f_node_named, ["picture", "name", "found", "node"], dd "node_named" 40⟩,
  ⟨"list_with", f_list_with, ["nodes", "name", "node", "found"], dd "list_with" 41⟩,
  ⟨"lists_changed", f_lists_changed, ["nodes", "name", "others", "found", "node"], dd "lists_changed" 42⟩]
def items1 : List DefI := [⟨"place_of", f_place_of, ["nodes", "name", "node"], dd "place_of" 43⟩,
  ⟨"around", f_around, ["picture", "name", "nodes"], dd "around" 44⟩,
  ⟨"with_list", f_with_list, ["picture", "name", "others"], dd "with_list" 45⟩,
  ⟨"mask_at", f_mask_at, ["layer", "x", "y", "wide", "high", "spots"], dd "mask_at" 47⟩,
  ⟨"spot_of", f_spot_of, ["node", "x", "y", "here"], dd "spot_of" 48⟩,
  ⟨"shown_on", f_shown_on, ["node", "x", "y", "below"], dd "shown_on" 49⟩,
  ⟨"shown_by", f_shown_by, ["nodes", "x", "y", "found", "node"], dd "shown_by" 50⟩,
  ⟨"flat", f_flat, ["picture", "wide", "high", "nodes", "x", "y"], dd "flat" 51⟩,
  ⟨"spots_of", f_spots_of, ["picture", "node", "x", "y"], dd "spots_of" 53⟩,
  ⟨"is_plain", f_is_plain, ["node", "manner"], dd "is_plain" 56⟩,
  ⟨"sheet_of", f_sheet_of, ["picture", "node"], dd "sheet_of" 57⟩,
  ⟨"merged", f_merged, ["picture", "name", "manner", "sheet", "one", "nodes", "at"], dd "merged" 58⟩,
  ⟨"opened", f_opened, ["picture", "name", "node", "nodes", "at", "one"], dd "opened" 59⟩,
  ⟨"_law_cell", f__law_cell, ["_law_script", "_law_k"], dd "_law_cell" 61⟩,
  ⟨"_law_drawn", f__law_drawn, ["_law_script", "_law_k", "_law_many", "_law_cell_here"], dd "_law_drawn" 62⟩,
  ⟨"_law_made", f__law_made, ["_law_top", "_law_under", "_law_one_here", "_law_by"], dd "_law_made" 63⟩,
  ⟨"_law_plus", f__law_plus, ["_law_one_here", "_law_other"], dd "_law_plus" 64⟩,
  ⟨"_law_times", f__law_times, ["_law_one_here", "_law_other"], dd "_law_times" 65⟩,
  ⟨"_law_rest", f__law_rest, ["_law_one_here"], dd "_law_rest" 66⟩,
  ⟨"_law_share", f__law_share, ["_law_script", "_law_at", "_law_under", "_law_drawn_here"], dd "_law_share" 67⟩,
  ⟨"_law_spot", f__law_spot, ["_law_script", "_law_at", "_law_cover", "_law_k"], dd "_law_spot" 68⟩,
  ⟨"_law_sheet", f__law_sheet, ["_law_script", "_law_at", "_law_wide", "_law_high", "_law_spots", "_law_k"], dd "_law_sheet" 69⟩,
  ⟨"_law_names", f__law_names, ["_law_script", "_law_at", "_law_many", "_law_is_first", "_law_found", "_law_k", "_law_word", "_law_j"], dd "_law_names" 70⟩,
  ⟨"_law_leaf", f__law_leaf, ["_law_script", "_law_at", "_law_name", "_law_main", "_law_strength", "_law_is_shown", "_law_manner", "_law_wide", "_law_high", "_law_mask", "_law_left", "_law_top", "_law_sheet_here", "_law_k"], dd "_law_leaf" 71⟩,
  ⟨"_law_nodes", f__law_nodes, ["_law_script", "_law_at", "_law_most", "_law_names_here", "_law_main", "_law_many", "_law_found", "_law_k", "_law_first", "_law_last", "_law_strength", "_law_manner", "_law_group"], dd "_law_nodes" 72⟩,
  ⟨"_law_picture", f__law_picture, ["_law_script", "_law_at", "_law_most", "_law_names_here", "_law_wide", "_law_high"], dd "_law_picture" 73⟩,
  ⟨"_law_plain", f__law_plain, ["_law_script", "_law_at", "_law_name", "_law_manner", "_law_leaf_here"], dd "_law_plain" 74⟩,
  ⟨"_law_one", f__law_one, ["_law_script", "_law_picture_here", "_law_turn", "_law_names_here", "_law_node"], dd "_law_one" 75⟩,
  ⟨"law", f_law_k52, ["_law_script", "_law_manner", "_law_names_here", "_law_many", "_law_nodes_here", "_law_size", "_law_picture_here", "_law_shown", "_law_one_here", "_law_first", "_law_group", "_law_grouped", "_law_last", "_law_k"], dd "law" 76⟩]
def items : List DefI := items0 ++ items1
def cons : Cons := [("NONE", .tup [.int 0, .int 1]), ("ALL", .tup [.int 1, .int 1]), ("CLEAR", .tup [.tup [.int 0, .int 1], .tup [.int 0, .int 1], .tup [.int 0, .int 1], .tup [.int 0, .int 1]]), ("JOINING", .tup [.str "over", .str "multiply", .str "screen", .str "plus"])]
def tabs : Tabs := [("BLENDS", [("over", "over"), ("multiply", "multiply"), ("screen", "screen"), ("plus", "added"), ("atop", "atop"), ("cut", "cut")])]
def excs : List Str := ["NoName", "NoMerge", "NoOpen"]
def hots : List Str := []
def P : Prog := mkP items cons tabs excs hots
def lawAt : Nat := 76
def lawFn : Fn := f_law_k52
def loose0 : List Str := ["GlazeError",
  "NoName",
  "NoMerge",
  "NoOpen",
  "NONE",
  "ALL",
  "common",
  "fraction",
  "plus",
  "less",
  "times",
  "rest",
  "is_over",
  "at_most",
  "between",
  "CLEAR",
  "weighted",
  "over",
  "multiply",
  "screen",
  "added",
  "atop",
  "cut",
  "BLENDS",
  "blended",
  "by_rule",
  "toned",
  "is_on",
  "spot_at",
  "places"]
def loose1 : List Str := ["blended_sheets",
  "names_of",
  "names_of_all",
  "names_in",
  "all_nodes",
  "node_named",
  "list_with",
  "lists_changed",
  "place_of",
  "around",
  "with_list",
  "mask_at",
  "spot_of",
  "shown_on",
  "shown_by",
  "flat",
  "spots_of",
  "JOINING",
  "is_plain",
  "sheet_of",
  "merged",
  "opened",
  "_law_cell",
  "_law_drawn",
  "_law_made",
  "_law_plus",
  "_law_times",
  "_law_rest",
  "_law_share",
  "_law_spot"]
def loose2 : List Str := ["_law_sheet",
  "_law_names",
  "_law_leaf",
  "_law_nodes",
  "_law_picture",
  "_law_plain",
  "_law_one"]
def loose : List Str := loose0 ++ loose1 ++ loose2
theorem ck : (items.all fun i => i.ck P && i.at_) = true := by decide +kernel
theorem ckH : (items.all fun i => !decide (i.x ∈ hots) || i.ckH P) = true := by decide +kernel
end GzL
end -- GzT_k52
section -- HdR_k52
set_option maxHeartbeats 0
/-! k52: the head's run. -/
namespace GzL
open PySem PySem.Spec PyProof.Rows L2 Gz
abbrev R : PySem.W.OpenRow := PySem.W.OpenLaw.row rw
abbrev hk : PySem.W.Hook := hookG 4 items cons tabs excs
def ob (s : PySem.W.SharedT) : AlG := obsG 4 items cons tabs excs (HandSHeadRun.getT s)
theorem ob_eq (s : PySem.W.SharedT) : ob s = hk.obs s.abs := obsG_eq (HandSHeadRun.getT_eq s)
theorem run0 (w : World) : HandSHeadRun.RunEq R (PySem.W.view R.prog [lawAt]) hk ob 6000 loose (w.withFollow "special-get-raises" false) := fun os => by kernel_rfl
theorem run1 (w : World) : HandSHeadRun.RunEq R (PySem.W.view R.prog [lawAt]) hk ob 6000 loose (w.withFollow "special-get-raises" true) := fun os => by kernel_rfl
theorem run (w : World) : HandSHeadRun.RunEq R (PySem.W.view R.prog [lawAt]) hk ob 6000 loose w :=
  PySem.W.byRow2 "special-get-raises" (P := fun w => HandSHeadRun.RunEq R (PySem.W.view R.prog [lawAt]) hk ob 6000 loose w) run0 run1 w
end GzL
end -- HdR_k52
section -- GzU
/-! GzU: to evaluate. -/
namespace Gz
open PySem PySem.Spec PyProof.Rows L2
/-- from level k on f answers r -/
def Run (P : Prog) (k : Nat) (f : Str) (ds : List D) (r : Rv) : Prop := ∀ m S, k ≤ m → den P m f ds S = .ok r S
theorem Run.up {P : Prog} {k k' : Nat} {f : Str} {ds : List D} {r : Rv} (h : Run P k f ds r) (l : k ≤ k') : Run P k' f ds r := fun m S hm => h m S (by omega)
def entry (fn : Fn) (ds : List D) : Env := ds.map Cell.fr ++ List.replicate (fn.slots - ds.length) .un
theorem Run.of {P : Prog} {k : Nat} {f : Str} {fn : Fn} {ds : List D} {r : Rv} (hf : P.defs.lookup f = some fn) (hl : ds.length = fn.ps) (h : ∀ m S, k ≤ m → evSs (den P m) P fn.body (entry fn ds) S = .rt r S) : Run P (k + 1) f ds r := by
  intro m S hm
  cases m with
  | zero => omega
  | succ m =>
    unfold den
    rw [hf]
    simp only
    unfold Fn.run
    rw [if_pos hl]
    have := h m S (by omega)
    unfold entry at this
    rw [this]
/-- from level k on f raises x -/
def RunX (P : Prog) (k : Nat) (f : Str) (ds : List D) (x : Str) : Prop := ∀ m S, k ≤ m → den P m f ds S = .exc x S
theorem RunX.up {P : Prog} {k k' : Nat} {f : Str} {ds : List D} {x : Str} (h : RunX P k f ds x) (l : k ≤ k') : RunX P k' f ds x := fun m S hm => h m S (by omega)
theorem RunX.of {P : Prog} {k : Nat} {f : Str} {fn : Fn} {ds : List D} {x : Str} (hf : P.defs.lookup f = some fn) (hl : ds.length = fn.ps) (h : ∀ m S, k ≤ m → ∃ env, evSs (den P m) P fn.body (entry fn ds) S = .ex x env S) : RunX P (k + 1) f ds x := by
  intro m S hm
  cases m with
  | zero => omega
  | succ m =>
    unfold den
    rw [hf]
    simp only
    unfold Fn.run
    rw [if_pos hl]
    obtain ⟨env, this⟩ := h m S (by omega)
    unfold entry at this
    rw [this]
/-- .. where there are no objects -/
def Run0 (P : Prog) (k : Nat) (f : Str) (ds : List D) (r : Rv) : Prop := ∀ m, k ≤ m → den P m f ds [] = .ok r []
theorem Run0.up {P : Prog} {k k' : Nat} {f : Str} {ds : List D} {r : Rv} (h : Run0 P k f ds r) (l : k ≤ k') : Run0 P k' f ds r := fun m hm => h m (by omega)
theorem Run0.of {P : Prog} {k : Nat} {f : Str} {fn : Fn} {ds : List D} {r : Rv} (hf : P.defs.lookup f = some fn) (hl : ds.length = fn.ps) (h : ∀ m, k ≤ m → evSs (den P m) P fn.body (entry fn ds) [] = .rt r []) : Run0 P (k + 1) f ds r := by
  intro m hm
  cases m with
  | zero => omega
  | succ m =>
    unfold den
    rw [hf]
    simp only
    unfold Fn.run
    rw [if_pos hl]
    have := h m (by omega)
    unfold entry at this
    rw [this]
/-! ### places -/
section
variable {α : Type}
theorem atD_nat (l : List α) (i : Nat) : atD l (i : Int) = l[i]? := by
  unfold atD ixN
  rw [if_pos (by omega)]
  by_cases h : (i : Int) < l.length
  · rw [if_pos h]; simp
  · rw [if_neg h, List.getElem?_eq_none (by omega)]; rfl
theorem atD_0 (l : List α) : atD l 0 = l[0]? := atD_nat l 0
theorem atD_1 (l : List α) : atD l 1 = l[1]? := atD_nat l 1
theorem atD_2 (l : List α) : atD l 2 = l[2]? := atD_nat l 2
theorem atD_3 (l : List α) : atD l 3 = l[3]? := atD_nat l 3
theorem atD_4 (l : List α) : atD l 4 = l[4]? := atD_nat l 4
theorem atD_5 (l : List α) : atD l 5 = l[5]? := atD_nat l 5
theorem atD_6 (l : List α) : atD l 6 = l[6]? := atD_nat l 6
theorem atD_7 (l : List α) : atD l 7 = l[7]? := atD_nat l 7
theorem atD_8 (l : List α) : atD l 8 = l[8]? := atD_nat l 8
theorem atD_toNat (l : List α) (i : Int) (h : 0 ≤ i) : atD l i = l[i.toNat]? := by
  have := atD_nat l i.toNat
  rwa [Int.toNat_of_nonneg h] at this
theorem cut_lo (l : List α) (k : Nat) : cut l (some (k : Int)) none = l.drop k := by
  unfold cut
  rw [HT.sIx_none, HT.sIx_nat]
  by_cases h : k ≤ l.length
  · rw [Nat.min_eq_left h, List.take_of_length_le (by simp)]
  · rw [Nat.min_eq_right (by omega), List.drop_of_length_le (Nat.le_refl _), List.drop_of_length_le (by omega)]; simp
theorem cut_hi (l : List α) (k : Nat) : cut l none (some (k : Int)) = l.take k := by
  unfold cut
  rw [HT.sIx_none, HT.sIx_nat]
  simp only [List.drop_zero, Nat.sub_zero]
  by_cases h : k ≤ l.length
  · rw [Nat.min_eq_left h]
  · rw [Nat.min_eq_right (by omega), List.take_of_length_le (Nat.le_refl _), List.take_of_length_le (by omega)]
theorem cut_both (l : List α) (j k : Nat) : cut l (some (j : Int)) (some (k : Int)) = (l.take k).drop j := by
  unfold cut
  rw [HT.sIx_nat, HT.sIx_nat, List.drop_take]
  by_cases h : j < l.length
  · rw [Nat.min_eq_left (show j ≤ l.length by omega)]
    by_cases h2 : k ≤ l.length
    · rw [Nat.min_eq_left h2]
    · rw [Nat.min_eq_right (by omega), List.take_of_length_le (by simp), List.take_of_length_le (by simp; omega)]
  · rw [List.drop_of_length_le (by omega), List.drop_of_length_le (by omega)]
    simp
theorem cut_lo1 (l : List α) : cut l (some 1) none = l.drop 1 := cut_lo l 1
theorem cut_hi1 (l : List α) : cut l none (some 1) = l.take 1 := cut_hi l 1
theorem cut_hi2 (l : List α) : cut l none (some 2) = l.take 2 := cut_hi l 2
theorem cut_hi4 (l : List α) : cut l none (some 4) = l.take 4 := cut_hi l 4
theorem cut_hi5 (l : List α) : cut l none (some 5) = l.take 5 := cut_hi l 5
end
/-! ### comprehensions, loops -/
theorem lcLoop_fm {f : D → Store → Out (Option D)} {g : D → Option D} {S : Store} : ∀ {ds acc : List D}, (∀ d ∈ ds, f d S = .ok (g d) S) → lcLoop f ds acc S = .ok (acc ++ ds.filterMap g) S
  | [], acc, _ => by simp [lcLoop]
  | d :: ds, acc, h => by
    unfold lcLoop
    rw [h d (by simp)]
    simp only [Out.bind]
    cases e : g d with
    | none =>
      simp only
      rw [lcLoop_fm fun x hx => h x (by simp [hx]), List.filterMap_cons, e]
    | some y =>
      simp only
      rw [lcLoop_fm fun x hx => h x (by simp [hx]), List.filterMap_cons, e]
      simp
/-! ### sizes -/
theorem log2_lt {n k : Nat} (h : n < 2 ^ k) : n.log2 < k ∨ k = 0 := by
  by_cases e : n = 0
  · subst e
    simp
    omega
  · exact .inl ((Nat.log2_lt e).mpr h)
theorem okMul_of {i j : Int} {a b : Nat} (hi : i.natAbs < 2 ^ a) (hj : j.natAbs < 2 ^ b) (h : a + b ≤ 1000000) (h0 : 0 < a + b := by omega) : okMul i j = true := by
  unfold okMul
  rw [decide_eq_true_eq]
  have h1 := log2_lt hi
  have h2 := log2_lt hj
  have h3 : a = 0 → i.natAbs.log2 = 0 := fun e => by subst e; have : i.natAbs = 0 := by omega
                                                     rw [this]; rfl
  have h4 : b = 0 → j.natAbs.log2 = 0 := fun e => by subst e; have : j.natAbs = 0 := by omega
                                                     rw [this]; rfl
  omega
theorem okDiv_of {j : Int} {b : Nat} (h0 : 0 < j) (hj : j.natAbs < 2 ^ b) (h : b ≤ 8999) : okDiv j = true := by
  unfold okDiv
  rw [Bool.and_eq_true, decide_eq_true_eq, decide_eq_true_eq]
  have := log2_lt hj
  have h3 : b = 0 → j.natAbs.log2 = 0 := fun e => by subst e; have : j.natAbs = 0 := by omega
                                                     rw [this]; rfl
  omega
/-! ### errors -/
section
variable {exs : Str → Str → Option Bool} {T : Str} {i : Nat} {h : Env → Store → SO} {env : Env} {S : Store}
end
/-! ### statements, one rule each -/
section
variable (cl : Calls) (P : Prog) (env : Env) (S : Store)
theorem vSs_nil : evSs cl P .nil env S = .nx env S := by unfold evSs; rfl
theorem vSs_cons (a : Gz.S) (b : Ss) : evSs cl P (.cons a b) env S = (evS cl P a env S).then_ fun env S => evSs cl P b env S := by rw [evSs]
theorem vS_rais (x : Str) : evS cl P (.rais x) env S = .ex x env S := by rw [evS]
theorem vS_try (b h : Ss) (T : Str) (i : Nat) : evS cl P (.try_ b T i h) env S = (evSs cl P b env S).catch_ P.exs T i fun env S => evSs cl P h env S := by rw [evS]
theorem vE_isx (T : Str) (a : E) : evE cl P (.isx T a) env S = (evE cl P a env S).bind fun x S => ofOpt ((P.isx T x.d).map fun b => .fr (.bl b)) S := by rw [evE]
theorem vE_calle (a : E) (es : Es) : evE cl P (.calle a es) env S = (evE cl P a env S).bind fun x S => match x.d with
    | .fn f => if (P.defs.lookup f).isSome then (evEs cl P es env S).bind fun ds S => cl f ds S else .no
    | _ => .no := by rw [evE] <;> rfl
theorem vS_asg (i : Nat) (e : E) : evS cl P (.asg i e) env S = (evE cl P e env S).st env fun x S => Out.toO x.hold fun d => .nx (setE env i (.fr d)) S := by rw [evS]
theorem vS_asgO (i : Nat) (e : E) : evS cl P (.asgO i e) env S = (evE cl P e env S).st env fun x S => Out.toO x.cell fun c => .nx (setE env i c) S := by rw [evS]
theorem vS_asgT (l : List Nat) (e : E) : evS cl P (.asgT l e) env S = (evE cl P e env S).st env fun x S => Out.toO ((Tg.many l).bind env x.d) fun env => .nx env S := by rw [evS]
theorem vS_par (i j : Nat) (a b : E) : evS cl P (.par i j a b) env S = (evEs cl P (.cons a (.cons b .nil)) env S).st env fun ds S => match ds with
    | [x, y] => .nx (setE (setE env i (.fr x)) j (.fr y)) S
    | _ => .no := by rw [evS] <;> rfl
theorem vS_app (i : Nat) (e : E) : evS cl P (.app i e) env S = match env[i]? with
    | some (.own l) => (evE cl P e env S).st env fun x S => Out.toO x.hold fun d => if l.length < lim then .nx (setE env i (.own (l ++ [d]))) S else .no
    | _ => .no := by rw [evS] <;> rfl
theorem vS_ext (i : Nat) (e : E) : evS cl P (.ext i e) env S = match env[i]? with
    | some (.own l) => (evE cl P e env S).st env fun x S => match x.d with
      | .lst l' => if l.length + l'.length ≤ lim then .nx (setE env i (.own (l ++ l'))) S else .no
      | .tup l' => if l.length + l'.length ≤ lim then .nx (setE env i (.own (l ++ l'))) S else .no
      | _ => .no
    | _ => .no := by rw [evS] <;> rfl
theorem vS_ret (e : E) : evS cl P (.ret e) env S = (evE cl P e env S).st env fun x S => .rt x S := by rw [evS]
theorem vS_retO (i : Nat) : evS cl P (.retO i) env S = match env[i]? with
    | some (.own l) => .rt ⟨.lst l, .own⟩ S
    | some (.owd ks vs) => .rt ⟨.dct ks vs, .own⟩ S
    | _ => .no := by rw [evS] <;> rfl
theorem vS_ifs (c : E) (a b : Ss) : evS cl P (.ifs c a b) env S = (evE cl P c env S).st env fun x S => Out.toO x.d.truth fun t => match t with
    | true => evSs cl P a env S
    | false => evSs cl P b env S := by rw [evS] <;> rfl
theorem vS_for (tg : Tg) (k : Ik) (it : Es) (b : Ss) : evS cl P (.for_ tg k it b) env S = (evEs cl P it env S).st env fun xs S => Out.toO (itEv k xs) fun ds =>
    forLoop (fun d env S => Out.toO (tg.bind env d) fun env => evSs cl P b env S) ds env S := by rw [evS]
theorem vS_whil (c : E) (b : Ss) : evS cl P (.whil c b) env S = whileD (fun env S => (evE cl P c env S).bind truthR) (fun env S => evSs cl P b env S) env S := by rw [evS]
theorem vS_expr (e : E) : evS cl P (.expr e) env S = (evE cl P e env S).st env fun _ S => .nx env S := by rw [evS]
theorem vS_pass : evS cl P .pass env S = .nx env S := by rw [evS]
theorem vS_frz (i : Nat) : evS cl P (.frz i) env S = match env[i]? with
    | some (.own l) => .nx (setE env i (.fr (.lst l))) S
    | some (.owd ks vs) => .nx (setE env i (.fr (.dct ks vs))) S
    | _ => .no := by rw [evS] <;> rfl
theorem vE_var (i : Nat) : evE cl P (.var i) env S = ofOpt (slotRv env[i]?) S := by rw [evE]
theorem vE_int (n : Int) : evE cl P (.int n) env S = .ok (.fr (.int n)) S := by rw [evE]
theorem vE_bl (b : Bool) : evE cl P (.bl b) env S = .ok (.fr (.bl b)) S := by rw [evE]
theorem vE_non : evE cl P .non env S = .ok (.fr .non) S := by rw [evE]
theorem vE_str (x : Str) : evE cl P (.str x) env S = .ok (.fr (.str x)) S := by rw [evE]
theorem vE_glob (x : Str) : evE cl P (.glob x) env S = ofOpt ((P.cons.lookup x).map Rv.fr) S := by rw [evE]
theorem vE_fnv (x : Str) : evE cl P (.fnv x) env S = .ok (.fr (.fn x)) S := by rw [evE]
theorem vE_call (f : Str) (es : Es) : evE cl P (.call f es) env S = (evEs cl P es env S).bind fun ds S => cl f ds S := by rw [evE]
theorem vE_bi (b : Bi) (es : Es) : evE cl P (.bi b es) env S = (evXs cl P es env S).bind fun ds S => ofOpt (b.ev ds) S := by rw [evE]
theorem vE_lc (vs : List (Str × Nat)) (tg : Tg) (k : Ik) (it cs : Es) (elt : E) : evE cl P (.lc vs tg k it cs elt) env S =
    ((evXs cl P it env S).bind fun xs S => ofOpt (itEv k xs) S).bind fun ds S => if ds.length ≤ lim then ((lcLoop (lcF cl P vs tg cs elt env) ds [] S).calm).bind fun ys S => .ok ⟨.lst ys, .own⟩ S else .no := evE_lc
end
theorem forLoop_inv {b : D → Env → Store → SO} {S : Store} (I : Nat → Env → Prop) : ∀ (ds : List D) (i : Nat) (env : Env), I i env → (∀ j d env, ds[j]? = some d → I (i + j) env → ∃ env', b d env S = .nx env' S ∧ I (i + j + 1) env') →
    ∃ env', forLoop b ds env S = .nx env' S ∧ I (i + ds.length) env'
  | [], i, env, h, _ => ⟨env, rfl, h⟩
  | d :: ds, i, env, h, st => by
    obtain ⟨env1, e1, h1⟩ := st 0 d env rfl h
    obtain ⟨env2, e2, h2⟩ := forLoop_inv I ds (i + 1) env1 h1 fun j x env hx hI => by
      have := st (j + 1) x env (by simpa using hx) (by rw [show i + (j + 1) = i + 1 + j by omega]; exact hI)
      rw [show i + (j + 1) + 1 = i + 1 + j + 1 by omega] at this
      exact this
    refine ⟨env2, ?_, by rw [List.length_cons, show i + (ds.length + 1) = i + 1 + ds.length by omega]; exact h2⟩
    unfold forLoop
    rw [e1]
    exact e2
theorem idx_tup (l : List D) (i : Int) : idxEv (.tup l) (.int i) = atD l i := rfl
theorem idx_lst (l : List D) (i : Int) : idxEv (.lst l) (.int i) = atD l i := rfl
theorem idx_scr (l : List Int) (i : Int) : idxEv (.scr l) (.int i) = (atD l i).map D.int := rfl
theorem sl_tL (l : List D) (i : Int) : slEv (.tup l) (some (.int i)) none = some (.fr (.tup (cut l (some i) none))) := rfl
theorem sl_tU (l : List D) (i : Int) : slEv (.tup l) none (some (.int i)) = some (.fr (.tup (cut l none (some i)))) := rfl
theorem sl_tB (l : List D) (i j : Int) : slEv (.tup l) (some (.int i)) (some (.int j)) = some (.fr (.tup (cut l (some i) (some j)))) := rfl
theorem sl_lL (l : List D) (i : Int) : slEv (.lst l) (some (.int i)) none = some ⟨.lst (cut l (some i) none), .own⟩ := rfl
theorem sl_lU (l : List D) (i : Int) : slEv (.lst l) none (some (.int i)) = some ⟨.lst (cut l none (some i)), .own⟩ := rfl
theorem sl_lB (l : List D) (i j : Int) : slEv (.lst l) (some (.int i)) (some (.int j)) = some ⟨.lst (cut l (some i) (some j)), .own⟩ := rfl
end Gz
end -- GzU
section -- GzV
/-! GzV: shares. -/
namespace GzL
open PySem PySem.Spec PyProof.Rows L2 Gz
theorem common_loop (cl : Calls) (P : Prog) (S : Store) : ∀ (n : Nat) (a b : Int), b.toNat ≤ n → 0 ≤ b →
    whileD (fun env S => (evE cl P (.cmp .gt (.var 1) (.int 0)) env S).bind truthR) (fun env S => evSs cl P (.cons (.par 0 1 (.var 1) (.bin .mod (.var 0) (.var 1))) .nil) env S) [.fr (.int a), .fr (.int b)] S =
      .nx [.fr (.int (if b = 0 then a else (Int.gcd a b : Int))), .fr (.int 0)] S
  | n, a, b, h, h0 => by
    rw [whileD_eq]
    by_cases hb : 0 < b
    · have e1 : (evE cl P (.cmp .gt (.var 1) (.int 0)) [.fr (.int a), .fr (.int b)] S).bind truthR = .ok true S := by
        simp [evE, slotRv, Out.bind, ofOpt, Cm.ev, truthR, D.truth, hb]
      rw [e1]
      simp only [Out.st]
      have e2 : evSs cl P (.cons (.par 0 1 (.var 1) (.bin .mod (.var 0) (.var 1))) .nil) [.fr (.int a), .fr (.int b)] S = .nx [.fr (.int b), .fr (.int (a % b))] S := by
        simp [evSs, evS, evEs, evE, slotRv, Out.bind, Out.st, ofOpt, Op2.ev, Rv.hold, SO.then_, setE, hb]
      rw [e2]
      simp only [SO.then_]
      have h1 : 0 ≤ a % b := Int.emod_nonneg a (by omega)
      have h2 : a % b < b := Int.emod_lt_of_pos a hb
      match n, h with
      | 0, h => omega
      | n + 1, h =>
        rw [common_loop cl P S n b (a % b) (by omega) h1]
        have e3 : (if a % b = 0 then b else (Int.gcd b (a % b) : Int)) = if b = 0 then a else (Int.gcd a b : Int) := by
          rw [if_neg (show ¬ b = 0 by omega)]
          have key : (Int.gcd b (a % b) : Int) = Int.gcd a b := by
            rw [Int.gcd_comm a b]
            rw [Int.emod_def, Int.gcd_sub_mul_left_right]
          by_cases e : a % b = 0
          · rw [if_pos e]
            rw [e, Int.gcd_zero] at key
            rw [← key]
            omega
          · rw [if_neg e, key]
        rw [e3]
    · have : b = 0 := by omega
      subst this
      have e1 : (evE cl P (.cmp .gt (.var 1) (.int 0)) [.fr (.int a), .fr (.int 0)] S).bind truthR = .ok false S := by
        simp [evE, slotRv, Out.bind, ofOpt, Cm.ev, truthR, D.truth]
      rw [e1]
      simp [Out.st]
theorem r_common {P : Prog} (hP : P.defs.lookup ("common" : Str) = some f_common) {a b : Int} (h : 0 < b) : Run P 1 "common" [.int a, .int b] (.fr (.int (Int.gcd a b))) := by
  refine Run.of hP rfl fun m S _ => ?_
  have e := common_loop (den P m) P S b.toNat a b (Nat.le_refl _) (by omega)
  rw [if_neg (show ¬ b = 0 by omega)] at e
  have e0 : entry f_common [.int a, .int b] = [.fr (.int a), .fr (.int b)] := rfl
  rw [e0]
  unfold f_common
  simp only [evSs]
  unfold evS
  rw [e]
  simp [SO.then_, evE, slotRv, ofOpt, Out.st]
/-- a share -/
def shD (q : Rat) : D := .tup [.int q.num, .int (q.den : Int)]
/-- of n bits -/
def Sm (n : Nat) (q : Rat) : Prop := q.num.natAbs < 2 ^ n ∧ q.den < 2 ^ n
theorem den_pos (q : Rat) : 0 < (q.den : Int) := by have := q.den_nz; omega
theorem mk_num {t : Int} {d : Nat} (h : 0 < d) : (mkRat t d).num = t / (Int.gcd t d : Int) := by
  rw [Rat.num_mkRat, if_neg (by omega), Int.gcd]
  rw [Nat.gcd_comm]
  rfl
theorem mk_den {t : Int} {d : Nat} (h : 0 < d) : ((mkRat t d).den : Int) = (d : Int) / (Int.gcd t d : Int) := by
  rw [Rat.den_mkRat, if_neg (by omega), Int.gcd]
  rw [Nat.gcd_comm]
  rfl
theorem gcd_small {t : Int} {d b : Nat} (h : 0 < d) (hb : d < 2 ^ b) (hz : b ≤ 8999) : okDiv (Int.gcd t d : Int) = true := by
  have h1 : Int.gcd t d ∣ d := by have := Int.gcd_dvd_right t d; exact Int.natCast_dvd_natCast.mp this
  have h2 := Nat.le_of_dvd h h1
  have h3 : 0 < Int.gcd t d := Nat.pos_of_dvd_of_pos h1 h
  exact okDiv_of (by omega) (show (Int.gcd t d : Int).natAbs < 2 ^ b by simp; omega) hz
theorem r_fraction {P : Prog} (h1 : P.defs.lookup ("common" : Str) = some f_common) (h2 : P.defs.lookup ("fraction" : Str) = some f_fraction) {t : Int} {d b : Nat} (h : 0 < d) (hb : d < 2 ^ b) (hz : b ≤ 8999) :
    Run P 2 "fraction" [.int t, .int (d : Int)] (.fr (shD (mkRat t d))) := by
  refine Run.of h2 rfl fun m S hm => ?_
  have hc := r_common h1 (a := t) (b := d) (by omega) m S hm
  have hg := gcd_small (t := t) h hb hz
  unfold f_fraction entry shD
  rw [mk_num h, mk_den h]
  simp [evSs, evS, evE, evEs, slotRv, Out.bind, Out.st, Out.toO, ofOpt, Op2.ev, Rv.hold, SO.then_, setE, hc, hg]
structure HSh (P : Prog) : Prop where
  common : P.defs.lookup ("common" : Str) = some f_common
  fraction : P.defs.lookup ("fraction" : Str) = some f_fraction
theorem shD_get0 (q : Rat) : idxEv (shD q) (.int 0) = some (.int q.num) := rfl
theorem shD_get1 (q : Rat) : idxEv (shD q) (.int 1) = some (.int q.den) := rfl
theorem Sm.pos {n : Nat} {q : Rat} (h : Sm n q) : 0 < n := by
  have h1 := h.2
  have h2 := q.den_pos
  rcases Nat.eq_zero_or_pos n with rfl | h <;> omega
theorem Sm.denI {n : Nat} {q : Rat} (h : Sm n q) : ((q.den : Int)).natAbs < 2 ^ n := by simpa using h.2
theorem Sm.nd {n m : Nat} {q r : Rat} (h : Sm n q) (h' : Sm m r) (hz : n + m ≤ 8999) : okMul q.num r.den = true := okMul_of h.1 h'.denI (by omega) (by have := h.pos; omega)
theorem Sm.dd {n m : Nat} {q r : Rat} (h : Sm n q) (h' : Sm m r) (hz : n + m ≤ 8999) : okMul q.den r.den = true := okMul_of h.denI h'.denI (by omega) (by have := h.pos; omega)
theorem Sm.nn {n m : Nat} {q r : Rat} (h : Sm n q) (h' : Sm m r) (hz : n + m ≤ 8999) : okMul q.num r.num = true := okMul_of h.1 h'.1 (by omega) (by have := h.pos; omega)
theorem Sm.dlt {n m : Nat} {q r : Rat} (h : Sm n q) (h' : Sm m r) : q.den * r.den < 2 ^ (n + m) := by rw [Nat.pow_add]; exact Nat.mul_lt_mul'' h.2 h'.2
theorem Sm.one : Sm 1 1 := by unfold Sm; decide
theorem Sm.zero : Sm 1 0 := by unfold Sm; decide
theorem shD_one : shD 1 = .tup [.int 1, .int 1] := rfl
theorem shD_zero : shD 0 = .tup [.int 0, .int 1] := rfl
section
variable {P : Prog} {q r : Rat} {n m : Nat}
theorem r_plus (H : HSh P) (hP : P.defs.lookup ("plus" : Str) = some f_plus) (hq : Sm n q) (hr : Sm m r) (hz : n + m ≤ 8999) : Run P 3 "plus" [shD q, shD r] (.fr (shD (q + r))) := by
  refine Run.of hP rfl fun m' S hm => ?_
  have hf := r_fraction H.common H.fraction (t := q.num * r.den + r.num * q.den) (Nat.mul_pos q.den_pos r.den_pos) (hq.dlt hr) hz m' S hm
  rw [← Rat.add_def', Int.natCast_mul] at hf
  unfold f_plus entry
  simp [evSs, evS, evE, evEs, slotRv, Out.bind, Out.st, Out.toO, ofOpt, Op2.ev, Rv.hold, SO.then_, setE, hf, shD_get0, shD_get1, hq.nd hr hz, hr.nd hq (by omega), hq.dd hr hz]
theorem r_less (H : HSh P) (hP : P.defs.lookup ("less" : Str) = some f_less) (hq : Sm n q) (hr : Sm m r) (hz : n + m ≤ 8999) : Run P 3 "less" [shD q, shD r] (.fr (shD (q - r))) := by
  refine Run.of hP rfl fun m' S hm => ?_
  have hf := r_fraction H.common H.fraction (t := q.num * r.den - r.num * q.den) (Nat.mul_pos q.den_pos r.den_pos) (hq.dlt hr) hz m' S hm
  rw [← Rat.sub_def', Int.natCast_mul] at hf
  unfold f_less entry
  simp [evSs, evS, evE, evEs, slotRv, Out.bind, Out.st, Out.toO, ofOpt, Op2.ev, Rv.hold, SO.then_, setE, hf, shD_get0, shD_get1, hq.nd hr hz, hr.nd hq (by omega), hq.dd hr hz]
theorem r_times (H : HSh P) (hP : P.defs.lookup ("times" : Str) = some f_times) (hq : Sm n q) (hr : Sm m r) (hz : n + m ≤ 8999) : Run P 3 "times" [shD q, shD r] (.fr (shD (q * r))) := by
  refine Run.of hP rfl fun m' S hm => ?_
  have hf := r_fraction H.common H.fraction (t := q.num * r.num) (Nat.mul_pos q.den_pos r.den_pos) (hq.dlt hr) hz m' S hm
  rw [← Rat.mul_def', Int.natCast_mul] at hf
  unfold f_times entry
  simp [evSs, evS, evE, evEs, slotRv, Out.bind, Out.st, Out.toO, ofOpt, Op2.ev, Rv.hold, SO.then_, setE, hf, shD_get0, shD_get1, hq.nn hr hz, hq.dd hr hz]
theorem r_rest (H : HSh P) (hL : P.defs.lookup ("less" : Str) = some f_less) (hA : P.cons.lookup ("ALL" : Str) = some (shD 1)) (hP : P.defs.lookup ("rest" : Str) = some f_rest) (hq : Sm n q) (hz : n + 1 ≤ 8999) : Run P 4 "rest" [shD q] (.fr (shD (1 - q))) := by
  refine Run.of hP rfl fun m' S hm => ?_
  have hf := r_less H hL Sm.one hq (by omega) m' S hm
  unfold f_rest entry
  simp [evSs, evS, evE, evEs, slotRv, Out.bind, Out.st, Out.toO, ofOpt, Rv.hold, SO.then_, hf, hA]
theorem r_is_over (hP : P.defs.lookup ("is_over" : Str) = some f_is_over) (hq : Sm n q) (hr : Sm m r) (hz : n + m ≤ 8999) : Run P 1 "is_over" [shD q, shD r] (.fr (.bl (decide (r < q)))) := by
  refine Run.of hP rfl fun m' S hm => ?_
  unfold f_is_over entry
  simp [evSs, evS, evE, evEs, slotRv, Out.bind, Out.st, Out.toO, ofOpt, Op2.ev, Cm.ev, Rv.hold, SO.then_, setE, shD_get0, shD_get1, hq.nd hr hz, hr.nd hq (by omega), Rat.lt_iff]
theorem r_at_most (hO : P.defs.lookup ("is_over" : Str) = some f_is_over) (hA : P.cons.lookup ("ALL" : Str) = some (shD 1)) (hP : P.defs.lookup ("at_most" : Str) = some f_at_most) (hq : Sm n q) (hz : n + 1 ≤ 8999) :
    Run P 2 "at_most" [shD q] (.fr (shD (if 1 < q then 1 else q))) := by
  refine Run.of hP rfl fun m' S hm => ?_
  have hf := r_is_over hO hq Sm.one hz m' S hm
  unfold f_at_most entry
  by_cases h : 1 < q <;> simp [evSs, evS, evE, evEs, slotRv, Out.bind, Out.st, Out.toO, ofOpt, Rv.hold, SO.then_, hf, hA, truthR, D.truth, h]
/-! ### the laws' own -/
theorem made_loop (cl : Calls) (P : Prog) (S : Store) (t d : D) : ∀ (n : Nat) (a b : Int), a.toNat ≤ n → 0 ≤ a →
    whileD (fun env S => (evE cl P (.cmp .gt (.var 2) (.int 0)) env S).bind truthR) (fun env S => evSs cl P (.cons (.par 2 3 (.bin .mod (.var 3) (.var 2)) (.var 2)) .nil) env S) [.fr t, .fr d, .fr (.int a), .fr (.int b)] S =
      .nx [.fr t, .fr d, .fr (.int 0), .fr (.int (if a = 0 then b else (Int.gcd b a : Int)))] S
  | n, a, b, h, h0 => by
    rw [whileD_eq]
    by_cases hb : 0 < a
    · have e1 : (evE cl P (.cmp .gt (.var 2) (.int 0)) [.fr t, .fr d, .fr (.int a), .fr (.int b)] S).bind truthR = .ok true S := by
        simp [evE, slotRv, Out.bind, ofOpt, Cm.ev, truthR, D.truth, hb]
      rw [e1]
      simp only [Out.st]
      have e2 : evSs cl P (.cons (.par 2 3 (.bin .mod (.var 3) (.var 2)) (.var 2)) .nil) [.fr t, .fr d, .fr (.int a), .fr (.int b)] S = .nx [.fr t, .fr d, .fr (.int (b % a)), .fr (.int a)] S := by
        simp [evSs, evS, evEs, evE, slotRv, Out.bind, Out.st, ofOpt, Op2.ev, Rv.hold, SO.then_, setE, hb]
      rw [e2]
      simp only [SO.then_]
      have h1 : 0 ≤ b % a := Int.emod_nonneg b (by omega)
      have h2 : b % a < a := Int.emod_lt_of_pos b hb
      match n, h with
      | 0, h => omega
      | n + 1, h =>
        rw [made_loop cl P S t d n (b % a) a (by omega) h1]
        have e3 : (if b % a = 0 then a else (Int.gcd a (b % a) : Int)) = if a = 0 then b else (Int.gcd b a : Int) := by
          rw [if_neg (show ¬ a = 0 by omega)]
          have key : (Int.gcd a (b % a) : Int) = Int.gcd b a := by
            rw [Int.gcd_comm b a]
            rw [Int.emod_def, Int.gcd_sub_mul_left_right]
          by_cases e : b % a = 0
          · rw [if_pos e]
            rw [e, Int.gcd_zero] at key
            rw [← key]
            omega
          · rw [if_neg e, key]
        rw [e3]
    · have : a = 0 := by omega
      subst this
      have e1 : (evE cl P (.cmp .gt (.var 2) (.int 0)) [.fr t, .fr d, .fr (.int 0), .fr (.int b)] S).bind truthR = .ok false S := by
        simp [evE, slotRv, Out.bind, ofOpt, Cm.ev, truthR, D.truth]
      rw [e1]
      simp [Out.st]
theorem r_lmade (hP : P.defs.lookup ("_law_made" : Str) = some f__law_made) {t : Int} {d b : Nat} (ht : 0 ≤ t) (h : 0 < d) (hb : d < 2 ^ b) (hz : b ≤ 8999) : Run P 1 "_law_made" [.int t, .int (d : Int)] (.fr (shD (mkRat t d))) := by
  refine Run.of hP rfl fun m' S hm => ?_
  have e := made_loop (den P m') P S (.int t) (.int d) t.toNat t d (Nat.le_refl _) ht
  have hg := gcd_small (t := t) h hb hz
  have e2 : (if t = 0 then (d : Int) else (Int.gcd d t : Int)) = (Int.gcd t d : Int) := by
    by_cases h0 : t = 0
    · subst h0; simp
    · rw [if_neg h0, Int.gcd_comm]
  rw [e2] at e
  have e0 : entry f__law_made [.int t, .int d] = [.fr (.int t), .fr (.int d), .un, .un] := rfl
  rw [e0]
  unfold f__law_made shD
  rw [mk_num h, mk_den h]
  rw [← vS_whil] at e
  simp [vSs_cons, vSs_nil, vS_asg, vS_ret, evE, evEs, slotRv, Out.bind, Out.st, Out.toO, ofOpt, Op2.ev, Rv.hold, SO.then_, setE, hg, e]
end
end GzL
end -- GzV
section -- GzW
/-! GzW: the laws' shares; sizes; what is drawn. -/
namespace GzL
open PySem PySem.Spec PyProof.Rows L2 Gz
section
variable {P : Prog} {q r : Rat} {n m : Nat}
theorem r_ltimes (hM : P.defs.lookup ("_law_made" : Str) = some f__law_made) (hP : P.defs.lookup ("_law_times" : Str) = some f__law_times) (hq : Sm n q) (hr : Sm m r) (hz : n + m ≤ 8999) (q0 : 0 ≤ q) (r0 : 0 ≤ r) : Run P 2 "_law_times" [shD q, shD r] (.fr (shD (q * r))) := by
  refine Run.of hP rfl fun m' S hm => ?_
  have h1 := Rat.num_nonneg.mpr q0
  have h2 := Rat.num_nonneg.mpr r0
  have hf := r_lmade hM (t := q.num * r.num) (Int.mul_nonneg h1 h2) (Nat.mul_pos q.den_pos r.den_pos) (hq.dlt hr) hz m' S hm
  rw [← Rat.mul_def', Int.natCast_mul] at hf
  unfold f__law_times entry
  simp [evSs, evS, evE, evEs, slotRv, Out.bind, Out.st, Out.toO, ofOpt, Op2.ev, Rv.hold, SO.then_, setE, hf, shD_get0, shD_get1, hq.nn hr hz, hq.dd hr hz]
end
/-! ### sizes -/
/-- the denominator divides 471240 ^ n; between 0 and 4 -/
structure Sz (n : Nat) (q : Rat) : Prop where
  fx : ∃ a : Int, q * ((471240 ^ n : Nat) : Rat) = (a : Rat)
  lo : 0 ≤ q
  hi : q ≤ 4
theorem den_le {q : Rat} {N : Nat} {a : Int} (hN : 0 < N) (h : q * (N : Rat) = (a : Rat)) : q.den ≤ N := by
  have hn : (N : Rat) ≠ 0 := by
    intro e
    have : N = 0 := by exact_mod_cast e
    omega
  have e : q = mkRat a N := by
    rw [Rat.mkRat_eq_div]
    grind
  rw [e, Rat.den_mkRat, if_neg (by omega)]
  exact Nat.div_le_self _ _
theorem Sz.sm {n : Nat} {q : Rat} (h : Sz n q) : Sm (19 * n + 3) q := by
  obtain ⟨⟨a, e⟩, lo, hi⟩ := h
  have h1 : 0 < 471240 ^ n := Nat.pos_of_ne_zero (by simp)
  have h2 := den_le h1 e
  have h3 : 471240 ^ n ≤ 2 ^ (19 * n) := by
    rw [Nat.pow_mul]
    exact Nat.pow_le_pow_left (by decide) n
  have h4 : q.num ≤ 4 * q.den := by
    have := (Rat.le_iff q 4).mp hi
    simpa using this
  have h5 := Rat.num_nonneg.mpr lo
  have h6 : 2 ^ (19 * n + 3) = 8 * 2 ^ (19 * n) := by rw [Nat.pow_add]; omega
  have h7 : 0 < 2 ^ (19 * n) := Nat.pos_of_ne_zero (by simp)
  constructor
  · omega
  · omega
theorem Sz.up {n m : Nat} {q : Rat} (h : Sz n q) (l : n ≤ m) : Sz m q := by
  obtain ⟨⟨a, e⟩, lo, hi⟩ := h
  obtain ⟨k, rfl⟩ := Nat.le.dest l
  refine ⟨⟨a * (471240 ^ k : Nat), ?_⟩, lo, hi⟩
  rw [Nat.pow_add, Rat.natCast_mul, ← Rat.mul_assoc, e, Rat.intCast_mul, Rat.intCast_natCast]
theorem Sz.mul {n m : Nat} {q r : Rat} (h : Sz n q) (h' : Sz m r) (b : q * r ≤ 4) : Sz (n + m) (q * r) := by
  obtain ⟨⟨a, e⟩, lo, hi⟩ := h
  obtain ⟨⟨a', e'⟩, lo', hi'⟩ := h'
  refine ⟨⟨a * a', ?_⟩, Rat.mul_nonneg lo lo', b⟩
  rw [Nat.pow_add, Rat.natCast_mul, Rat.intCast_mul, ← e, ← e']
  grind
theorem Sz.add {n : Nat} {q r : Rat} (h : Sz n q) (h' : Sz n r) (b : q + r ≤ 4) : Sz n (q + r) := by
  obtain ⟨⟨a, e⟩, lo, hi⟩ := h
  obtain ⟨⟨a', e'⟩, lo', hi'⟩ := h'
  refine ⟨⟨a + a', ?_⟩, Rat.add_nonneg lo lo', b⟩
  rw [Rat.intCast_add, ← e, ← e']
  grind
theorem Sz.one : Sz 0 1 := ⟨⟨1, by simp⟩, by decide, by decide⟩
theorem Sz.zero : Sz 0 0 := ⟨⟨0, by simp⟩, by decide, by decide⟩
theorem Sz.rest {n : Nat} {q : Rat} (h : Sz n q) (q1 : q ≤ 1) : Sz n (1 - q) := by
  obtain ⟨⟨a, e⟩, lo, hi⟩ := h
  refine ⟨⟨471240 ^ n - a, ?_⟩, by grind, by grind⟩
  rw [Rat.intCast_sub, ← e]
  have : (((471240 : Int) ^ n : Int) : Rat) = ((471240 ^ n : Nat) : Rat) := by
    have h1 : ((471240 : Int) ^ n) = ((471240 ^ n : Nat) : Int) := by simp
    rw [h1]
    exact Rat.intCast_natCast _
  rw [this]
  grind
theorem Sz.ofFrac {t d : Nat} (hd : 0 < d) (h : d ∣ 471240) (ht : t ≤ d) : Sz 1 (mkRat t d) ∧ mkRat t d ≤ 1 := by
  obtain ⟨k, hk⟩ := h
  have hn : (d : Rat) ≠ 0 := by
    intro e
    have : d = 0 := by exact_mod_cast e
    omega
  have e : mkRat t d * (d : Rat) = (t : Rat) := by
    rw [Rat.mkRat_eq_div]
    have := Rat.div_mul_cancel (a := (t : Rat)) hn
    exact_mod_cast this
  have dp : (0 : Rat) < d := Rat.natCast_pos.mpr hd
  have lo : 0 ≤ mkRat t d := by
    rw [← Rat.num_nonneg, Rat.num_mkRat, if_neg (by omega)]
    exact Int.ediv_nonneg (by omega) (by omega)
  have hi : mkRat t d ≤ 1 := by
    have h1 : (t : Rat) ≤ d := Rat.natCast_le_natCast.mpr ht
    rw [← e] at h1
    have h2 : mkRat t d * (d : Rat) ≤ 1 * (d : Rat) := by grind
    exact Rat.le_of_mul_le_mul_right h2 dp
  refine ⟨⟨⟨t * k, ?_⟩, lo, by grind⟩, hi⟩
  rw [Nat.pow_one, hk, Rat.natCast_mul, ← Rat.mul_assoc, e, Rat.intCast_mul, Rat.intCast_natCast, Rat.intCast_natCast]
/-! ### draws -/
def cellF (ns : List Int) (k : Int) : Int := if ns = [] then 7 * k else (ns[(k % ns.length).toNat]?).getD 0 + 6553 * (k / ns.length)
def drF (ns : List Int) (k many : Int) : Int :=
  let c := (cellF ns k % 2147483563 * 69069 + 104723 * (k + 1)) % 2147483563
  let c := (c * c + c / 3) % 2147483399
  (c * c + c / 7) % 2147483647 / 11 % many
theorem drF_nonneg {ns : List Int} {k many : Int} (h : 0 < many) : 0 ≤ drF ns k many := Int.emod_nonneg _ (by omega)
theorem drF_lt {ns : List Int} {k many : Int} (h : 0 < many) : drF ns k many < many := Int.emod_lt_of_pos _ h
structure HDr (P : Prog) : Prop where
  cell : P.defs.lookup ("_law_cell" : Str) = some f__law_cell
  drawn : P.defs.lookup ("_law_drawn" : Str) = some f__law_drawn
theorem small_lt {i : Int} {b : Nat} (h0 : 0 ≤ i) (h : i < (2 ^ b : Nat)) : i.natAbs < 2 ^ b := by omega
theorem r_cell {P : Prog} (H : HDr P) {ns : List Int} {k : Int} (k0 : 0 ≤ k) (k1 : k < (2 ^ 40 : Nat)) (hl : ns.length ≤ 63) : Run P 1 "_law_cell" [.scr ns, .int k] (.fr (.int (cellF ns k))) := by
  refine Run.of H.cell rfl fun m' S hm => ?_
  have m1 : okMul 7 k = true := okMul_of (a := 3) (by decide) (small_lt k0 k1) (by decide)
  unfold f__law_cell entry cellF
  by_cases h : ns = []
  · subst h
    simp [evSs, evS, evE, evEs, slotRv, Out.bind, Out.st, Out.toO, ofOpt, Op2.ev, Cm.ev, eqO, Rv.hold, SO.then_, setE, D.truth, m1]
  · have h1 : ns.isEmpty = false := by cases ns <;> simp_all
    have h2 : 0 < ns.length := by cases ns <;> simp_all
    have h3 : 0 ≤ k % ns.length := Int.emod_nonneg _ (by omega)
    have h4 : k % ns.length < ns.length := Int.emod_lt_of_pos _ (by omega)
    have h5 : (k % ns.length).toNat < ns.length := by omega
    have h6 : atD ns (k % ns.length) = some ((ns[(k % ns.length).toNat]?).getD 0) := by
      rw [atD_toNat _ _ h3, List.getElem?_eq_getElem h5]
      rfl
    have h7 : 0 ≤ k / ns.length := Int.ediv_nonneg k0 (by omega)
    have h8 : k / ns.length ≤ k := Int.ediv_le_self _ k0
    have m2 : okMul 6553 (k / ns.length) = true := okMul_of (a := 13) (by decide) (small_lt h7 (b := 40) (by omega)) (by decide)
    have m3 : okDiv (ns.length : Int) = true := okDiv_of (b := 6) (by omega) (by omega) (by decide)
    simp [evSs, evS, evE, evEs, evXs, slotRv, Out.bind, Out.st, Out.toO, ofOpt, Op2.ev, Cm.ev, eqO, Bi.ev, idxEv, Rv.hold, SO.then_, setE, D.truth, h1, h2, h6, m2, m3]
    exact fun e => absurd e h
theorem r_drawn {P : Prog} (H : HDr P) {ns : List Int} {k many : Int} (k0 : 0 ≤ k) (k1 : k < (2 ^ 40 : Nat)) (hl : ns.length ≤ 63) (hm : 0 < many) : Run P 2 "_law_drawn" [.scr ns, .int k, .int many] (.fr (.int (drF ns k many))) := by
  refine Run.of H.drawn rfl fun m' S hm' => ?_
  have hc := r_cell H k0 k1 hl m' S hm'
  unfold f__law_drawn entry drF
  have b1 : 0 ≤ cellF ns k % 2147483563 := Int.emod_nonneg _ (by decide)
  have b2 : cellF ns k % 2147483563 < 2147483563 := Int.emod_lt_of_pos _ (by decide)
  generalize hx : cellF ns k % 2147483563 = x at b1 b2
  have m1 : okMul x 69069 = true := okMul_of (a := 31) (b := 17) (small_lt b1 (by omega)) (by decide) (by decide)
  have m2 : okMul 104723 (k + 1) = true := okMul_of (a := 17) (b := 41) (by decide) (small_lt (by omega) (by omega)) (by decide)
  generalize hy : (x * 69069 + 104723 * (k + 1)) % 2147483563 = y
  have b3 : 0 ≤ y := by rw [← hy]; exact Int.emod_nonneg _ (by decide)
  have b4 : y < 2147483563 := by rw [← hy]; exact Int.emod_lt_of_pos _ (by decide)
  have m3 : okMul y y = true := okMul_of (a := 31) (b := 31) (small_lt b3 (by omega)) (small_lt b3 (by omega)) (by decide)
  have d3 : okDiv 3 = true := by decide
  have d7 : okDiv 7 = true := by decide
  have d11 : okDiv 11 = true := by decide
  generalize hz : (y * y + y / 3) % 2147483399 = z
  have b5 : 0 ≤ z := by rw [← hz]; exact Int.emod_nonneg _ (by decide)
  have b6 : z < 2147483399 := by rw [← hz]; exact Int.emod_lt_of_pos _ (by decide)
  have m4 : okMul z z = true := okMul_of (a := 31) (b := 31) (small_lt b5 (by omega)) (small_lt b5 (by omega)) (by decide)
  simp [evSs, evS, evE, evEs, evXs, slotRv, Out.bind, Out.st, Out.toO, ofOpt, Op2.ev, Rv.hold, SO.then_, setE, hc, hx, hy, hz, m1, m2, m3, m4, d3, d7, d11, hm]
end GzL
end -- GzW
section -- GzX
/-! GzX: spots. -/
namespace GzL
open PySem PySem.Spec PyProof.Rows L2 Gz
@[ext] structure Sp where
  c : Rat
  r : Rat
  g : Rat
  b : Rat
  deriving DecidableEq
def spD (s : Sp) : D := .tup [shD s.c, shD s.r, shD s.g, shD s.b]
/-- a spot: colours within the cover, of size n -/
structure Sp.ok (n : Nat) (s : Sp) : Prop where
  c : Sz n s.c
  r : Sz n s.r
  g : Sz n s.g
  b : Sz n s.b
  c1 : s.c ≤ 1
  rc : s.r ≤ s.c
  gc : s.g ≤ s.c
  bc : s.b ≤ s.c
theorem Sp.ok.up {n m : Nat} {s : Sp} (h : s.ok n) (l : n ≤ m) : s.ok m := ⟨h.c.up l, h.r.up l, h.g.up l, h.b.up l, h.c1, h.rc, h.gc, h.bc⟩
/-! ### a drawn share, a drawn spot -/
def shF (ns : List Int) (k : Int) : Rat :=
  let u := 1 + drF ns k 12
  let s := mkRat (drF ns (k + 1) (u + 1)) u.toNat
  let j := drF ns (k + 2) 5
  if j < 3 then s else if j = 3 then 0 else 1
theorem shF_ok (ns : List Int) (k : Int) : Sz 1 (shF ns k) ∧ shF ns k ≤ 1 := by
  unfold shF
  simp only
  have h0 := drF_nonneg (ns := ns) (k := k) (many := 12) (by decide)
  have h1 := drF_lt (ns := ns) (k := k) (many := 12) (by decide)
  generalize drF ns k 12 = u at h0 h1
  have h2 := drF_nonneg (ns := ns) (k := k + 1) (many := 1 + u + 1) (by omega)
  have h3 := drF_lt (ns := ns) (k := k + 1) (many := 1 + u + 1) (by omega)
  generalize drF ns (k + 1) (1 + u + 1) = t at h2 h3
  have key : Sz 1 (mkRat t (1 + u).toNat) ∧ mkRat t (1 + u).toNat ≤ 1 := by
    have hd : ∀ d : Nat, d < 13 → 0 < d → d ∣ 471240 := by decide
    have := Sz.ofFrac (t := t.toNat) (d := (1 + u).toNat) (by omega) (hd _ (by omega) (by omega)) (by omega)
    rwa [Int.toNat_of_nonneg h2] at this
  split
  · exact key
  · split
    · exact ⟨Sz.zero.up (by decide), by decide⟩
    · exact ⟨Sz.one.up (by decide), by decide⟩
structure HLs (P : Prog) : Prop where
  dr : HDr P
  made : P.defs.lookup ("_law_made" : Str) = some f__law_made
  times : P.defs.lookup ("_law_times" : Str) = some f__law_times
  share : P.defs.lookup ("_law_share" : Str) = some f__law_share
  spot : P.defs.lookup ("_law_spot" : Str) = some f__law_spot
theorem r_share {P : Prog} (H : HLs P) {ns : List Int} {k : Int} (k0 : 0 ≤ k) (k1 : k < 1000000) (hl : ns.length ≤ 63) : Run P 3 "_law_share" [.scr ns, .int k] (.fr (shD (shF ns k))) := by
  refine Run.of H.share rfl fun m' S hm => ?_
  have h0 := drF_nonneg (ns := ns) (k := k) (many := 12) (by decide)
  have h1 := drF_lt (ns := ns) (k := k) (many := 12) (by decide)
  have e1 := r_drawn H.dr (ns := ns) (k := k) (many := 12) k0 (by omega) hl (by decide) m' S (by omega)
  unfold f__law_share entry shF
  simp only
  generalize drF ns k 12 = u at h0 h1 e1
  have h2 := drF_nonneg (ns := ns) (k := k + 1) (many := 1 + u + 1) (by omega)
  have h3 := drF_lt (ns := ns) (k := k + 1) (many := 1 + u + 1) (by omega)
  have e2 := r_drawn H.dr (ns := ns) (k := k + 1) (many := 1 + u + 1) (by omega) (by omega) hl (by omega) m' S (by omega)
  generalize drF ns (k + 1) (1 + u + 1) = t at h2 h3 e2
  have e3 := r_lmade H.made (t := t) (d := (1 + u).toNat) (b := 4) h2 (by omega) (by omega) (by decide) m' S (by omega)
  rw [Int.toNat_of_nonneg (by omega)] at e3
  have h4 := drF_nonneg (ns := ns) (k := k + 2) (many := 5) (by decide)
  have h5 := drF_lt (ns := ns) (k := k + 2) (many := 5) (by decide)
  have e4 := r_drawn H.dr (ns := ns) (k := k + 2) (many := 5) (by omega) (by omega) hl (by decide) m' S (by omega)
  generalize drF ns (k + 2) 5 = j at h4 h5 e4
  have hj : j = 0 ∨ j = 1 ∨ j = 2 ∨ j = 3 ∨ j = 4 := by omega
  rcases hj with rfl | rfl | rfl | rfl | rfl <;>
    simp [evSs, evS, evE, evEs, evXs, slotRv, Out.bind, Out.st, Out.toO, ofOpt, Op2.ev, Rv.hold, SO.then_, setE, e1, e2, e3, e4, idxEv, atD_0, atD_1, atD_2, atD_3, atD_4, shD_one, shD_zero]
def spF (ns : List Int) (k : Int) : Sp := ⟨shF ns k, shF ns k * shF ns (k + 3), shF ns k * shF ns (k + 6), shF ns k * shF ns (k + 9)⟩
theorem mul_le_left {q r : Rat} (q0 : 0 ≤ q) (r1 : r ≤ 1) : q * r ≤ q := by
  have := Rat.mul_le_mul_of_nonneg_left r1 q0
  grind
theorem spF_ok (ns : List Int) (k : Int) : (spF ns k).ok 2 := by
  obtain ⟨h, h1⟩ := shF_ok ns k
  have part : ∀ j, Sz 2 (shF ns k * shF ns j) ∧ shF ns k * shF ns j ≤ shF ns k := fun j => by
    obtain ⟨h', h1'⟩ := shF_ok ns j
    have := mul_le_left h.lo h1'
    exact ⟨h.mul h' (by grind), this⟩
  exact ⟨h.up (by decide), (part _).1, (part _).1, (part _).1, h1, (part _).2, (part _).2, (part _).2⟩
theorem r_spot {P : Prog} (H : HLs P) {ns : List Int} {k : Int} (k0 : 0 ≤ k) (k1 : k < 900000) (hl : ns.length ≤ 63) : Run P 4 "_law_spot" [.scr ns, .int k] (.fr (spD (spF ns k))) := by
  refine Run.of H.spot rfl fun m' S hm => ?_
  have e0 := r_share H (ns := ns) (k := k) k0 (by omega) hl m' S (by omega)
  have e1 := r_share H (ns := ns) (k := k + 3) (by omega) (by omega) hl m' S (by omega)
  have e2 := r_share H (ns := ns) (k := k + 6) (by omega) (by omega) hl m' S (by omega)
  have e3 := r_share H (ns := ns) (k := k + 9) (by omega) (by omega) hl m' S (by omega)
  have o := fun j => (shF_ok ns j).1
  have t := fun j => r_ltimes H.made H.times (o k).sm (o j).sm (by decide) (o k).lo (o j).lo m' S (by omega)
  have i1 : k + 3 + 0 = k + 3 := by omega
  have i2 : k + 3 + 3 = k + 6 := by omega
  have i3 : k + 3 + 6 = k + 9 := by omega
  have hr : List.range 3 = [0, 1, 2] := rfl
  have o0 : okMul 3 0 = true := by decide
  have o1 : okMul 3 1 = true := by decide
  have o2 : okMul 3 2 = true := by decide
  unfold f__law_spot entry spD spF
  simp [evSs, evS, evE, evEs, evXs, evT, slotRv, Out.bind, Out.st, Out.toO, ofOpt, Op2.ev, Rv.hold, SO.then_, setE, itEv, hr, lcLoop, Tg.bind, wipeE, Out.calm, Bi.ev, lim, o0, o1, o2, e0, e1, e2, e3, i1, i2, i3, t]
end GzL
end -- GzX
section -- GzY
/-! GzY: blends. -/
namespace GzL
open PySem PySem.Spec PyProof.Rows L2 Gz
structure HSp (P : Prog) : Prop where
  sh : HSh P
  all : P.cons.lookup ("ALL" : Str) = some (shD 1)
  plus : P.defs.lookup ("plus" : Str) = some f_plus
  less : P.defs.lookup ("less" : Str) = some f_less
  times : P.defs.lookup ("times" : Str) = some f_times
  rest : P.defs.lookup ("rest" : Str) = some f_rest
section
variable {P : Prog} (H : HSp P) {q r : Rat} {n m : Nat}
include H
theorem p_plus (hq : Sz n q) (hr : Sz m r) (hz : n + m ≤ 460) : Run P 3 "plus" [shD q, shD r] (.fr (shD (q + r))) := r_plus H.sh H.plus hq.sm hr.sm (by omega)
theorem p_times (hq : Sz n q) (hr : Sz m r) (hz : n + m ≤ 460) : Run P 3 "times" [shD q, shD r] (.fr (shD (q * r))) := r_times H.sh H.times hq.sm hr.sm (by omega)
theorem p_less (hq : Sz n q) (hr : Sz m r) (hz : n + m ≤ 460) : Run P 3 "less" [shD q, shD r] (.fr (shD (q - r))) := r_less H.sh H.less hq.sm hr.sm (by omega)
theorem p_rest (hq : Sz n q) (hz : n ≤ 460) : Run P 4 "rest" [shD q] (.fr (shD (1 - q))) := r_rest H.sh H.less H.all H.rest hq.sm (by omega)
theorem p_at_most (hO : P.defs.lookup ("is_over" : Str) = some f_is_over) (hM : P.defs.lookup ("at_most" : Str) = some f_at_most) (hq : Sz n q) (hz : n ≤ 460) : Run P 2 "at_most" [shD q] (.fr (shD (if 1 < q then 1 else q))) := r_at_most hO H.all hM hq.sm (by omega)
end
/-! ### channels -/
def min1 (q : Rat) : Rat := if 1 < q then 1 else q
def overF (a b : Sp) : Sp := ⟨a.c + b.c * (1 - a.c), a.r + b.r * (1 - a.c), a.g + b.g * (1 - a.c), a.b + b.b * (1 - a.c)⟩
def mulC (c d x y : Rat) : Rat := x * y + (x * (1 - d) + y * (1 - c))
def multF (a b : Sp) : Sp := ⟨a.c + b.c * (1 - a.c), mulC a.c b.c a.r b.r, mulC a.c b.c a.g b.g, mulC a.c b.c a.b b.b⟩
def scrC (x y : Rat) : Rat := x + y * (1 - x)
def scrF (a b : Sp) : Sp := ⟨scrC a.c b.c, scrC a.r b.r, scrC a.g b.g, scrC a.b b.b⟩
def addF (a b : Sp) : Sp := ⟨min1 (a.c + b.c), min1 (a.r + b.r), min1 (a.g + b.g), min1 (a.b + b.b)⟩
def atopF (a b : Sp) : Sp := ⟨b.c, a.r * b.c + b.r * (1 - a.c), a.g * b.c + b.g * (1 - a.c), a.b * b.c + b.b * (1 - a.c)⟩
def cutF (a b : Sp) : Sp := ⟨b.c * (1 - a.c), b.r * (1 - a.c), b.g * (1 - a.c), b.b * (1 - a.c)⟩
theorem sub_nn {a b : Rat} (h : a ≤ b) : 0 ≤ b - a := by grind
section
variable {a b : Sp} {n m : Nat}
theorem Sp.ok.r1 (h : a.ok n) : a.r ≤ 1 := by have := h.c1; have := h.rc; grind
theorem Sp.ok.g1 (h : a.ok n) : a.g ≤ 1 := by have := h.c1; have := h.gc; grind
theorem Sp.ok.b1 (h : a.ok n) : a.b ≤ 1 := by have := h.c1; have := h.bc; grind
theorem Sz.mul1 {q r : Rat} (h : Sz n q) (h' : Sz m r) (q1 : q ≤ 1) (r1 : r ≤ 1) : Sz (n + m) (q * r) ∧ q * r ≤ q ∧ q * r ≤ r := by
  have h1 := mul_le_left h.lo r1
  have h2 := mul_le_left h'.lo q1
  refine ⟨h.mul h' (by grind), h1, by grind⟩
/-- x + y (1 - c) -/
theorem over_ch {c d x y : Rat} (hc : Sz n c) (hd : Sz m d) (hx : Sz n x) (hy : Sz m y) (c1 : c ≤ 1) (d1 : d ≤ 1) (xc : x ≤ c) (yd : y ≤ d) : Sz (n + m) (x + y * (1 - c)) ∧ x + y * (1 - c) ≤ c + d * (1 - c) ∧ x + y * (1 - c) ≤ 1 := by
  have r := hc.rest c1
  have y1 : y ≤ 1 := by grind
  have k := Rat.mul_nonneg (sub_nn yd) r.lo
  have k2 := Rat.mul_nonneg (sub_nn y1) r.lo
  have p := hy.mul1 r y1 (by have := hc.lo; grind)
  have le : x + y * (1 - c) ≤ 1 := by grind
  refine ⟨(hx.up (by omega)).add (p.1.up (by omega)) (by grind), by grind, le⟩
theorem overF_ok (ha : a.ok n) (hb : b.ok m) : (overF a b).ok (n + m) := by
  have t := over_ch ha.c hb.c ha.c hb.c ha.c1 hb.c1 (by grind) (by grind)
  have p := over_ch ha.c hb.c ha.r hb.r ha.c1 hb.c1 ha.rc hb.rc
  have q := over_ch ha.c hb.c ha.g hb.g ha.c1 hb.c1 ha.gc hb.gc
  have s := over_ch ha.c hb.c ha.b hb.b ha.c1 hb.c1 ha.bc hb.bc
  exact ⟨t.1, p.1, q.1, s.1, t.2.2, p.2.1, q.2.1, s.2.1⟩
theorem mul_ch {c d x y : Rat} (hc : Sz n c) (hd : Sz m d) (hx : Sz n x) (hy : Sz m y) (c1 : c ≤ 1) (d1 : d ≤ 1) (xc : x ≤ c) (yd : y ≤ d) : Sz (n + m) (mulC c d x y) ∧ mulC c d x y ≤ c + d * (1 - c) ∧ Sz (n + m) (x * (1 - d) + y * (1 - c)) := by
  unfold mulC
  have rc := hc.rest c1
  have rd := hd.rest d1
  have x1 : x ≤ 1 := by grind
  have y1 : y ≤ 1 := by grind
  have p1 := hx.mul1 hy x1 y1
  have p2 := hx.mul1 rd x1 (by have := hd.lo; grind)
  have p3 := hy.mul1 rc y1 (by have := hc.lo; grind)
  have k1 := Rat.mul_nonneg (sub_nn xc) rd.lo
  have k2 := Rat.mul_nonneg (sub_nn yd) rc.lo
  have k3 := Rat.mul_nonneg (sub_nn xc) hd.lo
  have k4 := Rat.mul_nonneg hx.lo (sub_nn yd)
  have s := p2.1.add (p3.1.up (show m + n ≤ n + m by omega)) (by grind)
  exact ⟨p1.1.add s (by grind), by grind, s⟩
theorem multF_ok (ha : a.ok n) (hb : b.ok m) : (multF a b).ok (n + m) := by
  have t := over_ch ha.c hb.c ha.c hb.c ha.c1 hb.c1 (by grind) (by grind)
  have p := mul_ch ha.c hb.c ha.r hb.r ha.c1 hb.c1 ha.rc hb.rc
  have q := mul_ch ha.c hb.c ha.g hb.g ha.c1 hb.c1 ha.gc hb.gc
  have s := mul_ch ha.c hb.c ha.b hb.b ha.c1 hb.c1 ha.bc hb.bc
  exact ⟨t.1, p.1, q.1, s.1, t.2.2, p.2.1, q.2.1, s.2.1⟩
theorem scr_ch {x y : Rat} (hx : Sz n x) (hy : Sz m y) (x1 : x ≤ 1) (y1 : y ≤ 1) : Sz (n + m) (scrC x y) ∧ scrC x y ≤ 1 := by
  have h := over_ch hx hy hx hy x1 y1 (by grind) (by grind)
  exact ⟨h.1, h.2.2⟩
theorem scr_le {c d x y : Rat} (hx : 0 ≤ x) (xc : x ≤ c) (yd : y ≤ d) (c1 : c ≤ 1) (d1 : d ≤ 1) : scrC x y ≤ scrC c d := by
  unfold scrC
  have k1 := Rat.mul_nonneg (sub_nn xc) (sub_nn d1)
  have k2 := Rat.mul_nonneg (sub_nn yd) (sub_nn (show x ≤ 1 by grind))
  grind
theorem scrF_ok (ha : a.ok n) (hb : b.ok m) : (scrF a b).ok (n + m) := by
  have t := scr_ch ha.c hb.c ha.c1 hb.c1
  have p := scr_ch ha.r hb.r ha.r1 hb.r1
  have q := scr_ch ha.g hb.g ha.g1 hb.g1
  have s := scr_ch ha.b hb.b ha.b1 hb.b1
  exact ⟨t.1, p.1, q.1, s.1, t.2, scr_le ha.r.lo ha.rc hb.rc ha.c1 hb.c1, scr_le ha.g.lo ha.gc hb.gc ha.c1 hb.c1, scr_le ha.b.lo ha.bc hb.bc ha.c1 hb.c1⟩
theorem add_ch {x y : Rat} (hx : Sz n x) (hy : Sz m y) (x1 : x ≤ 1) (y1 : y ≤ 1) : Sz (n + m) (min1 (x + y)) ∧ min1 (x + y) ≤ 1 ∧ Sz (n + m) (x + y) := by
  have s := (hx.up (show n ≤ n + m by omega)).add (hy.up (by omega)) (by grind)
  unfold min1
  split
  · exact ⟨Sz.one.up (by omega), by grind, s⟩
  · exact ⟨s, by grind, s⟩
theorem min1_le {x y : Rat} (h : x ≤ y) : min1 x ≤ min1 y := by
  unfold min1
  split <;> split <;> grind
theorem addF_ok (ha : a.ok n) (hb : b.ok m) : (addF a b).ok (n + m) := by
  have t := add_ch ha.c hb.c ha.c1 hb.c1
  have p := add_ch ha.r hb.r ha.r1 hb.r1
  have q := add_ch ha.g hb.g ha.g1 hb.g1
  have s := add_ch ha.b hb.b ha.b1 hb.b1
  have := ha.rc; have := hb.rc; have := ha.gc; have := hb.gc; have := ha.bc; have := hb.bc
  exact ⟨t.1, p.1, q.1, s.1, t.2.1, min1_le (by grind), min1_le (by grind), min1_le (by grind)⟩
theorem atop_ch {c d x y : Rat} (hc : Sz n c) (hd : Sz m d) (hx : Sz n x) (hy : Sz m y) (c1 : c ≤ 1) (d1 : d ≤ 1) (xc : x ≤ c) (yd : y ≤ d) : Sz (n + m) (x * d + y * (1 - c)) ∧ x * d + y * (1 - c) ≤ d := by
  have r := hc.rest c1
  have y1 : y ≤ 1 := by grind
  have k1 := Rat.mul_nonneg (sub_nn xc) hd.lo
  have k2 := Rat.mul_nonneg (sub_nn yd) r.lo
  have p1 := hx.mul1 hd (by grind) d1
  have p2 := hy.mul1 r y1 (by have := hc.lo; grind)
  have le : x * d + y * (1 - c) ≤ d := by grind
  exact ⟨p1.1.add (p2.1.up (by omega)) (by grind), le⟩
theorem atopF_ok (ha : a.ok n) (hb : b.ok m) : (atopF a b).ok (n + m) := by
  have p := atop_ch ha.c hb.c ha.r hb.r ha.c1 hb.c1 ha.rc hb.rc
  have q := atop_ch ha.c hb.c ha.g hb.g ha.c1 hb.c1 ha.gc hb.gc
  have s := atop_ch ha.c hb.c ha.b hb.b ha.c1 hb.c1 ha.bc hb.bc
  exact ⟨hb.c.up (by omega), p.1, q.1, s.1, hb.c1, p.2, q.2, s.2⟩
theorem cutF_ok (ha : a.ok n) (hb : b.ok m) : (cutF a b).ok (n + m) := by
  have r := ha.c.rest ha.c1
  have r1 : 1 - a.c ≤ 1 := by have := ha.c.lo; grind
  have p := hb.c.mul1 r hb.c1 r1
  have e : m + n ≤ n + m := by omega
  have le : ∀ {y : Rat}, y ≤ b.c → y * (1 - a.c) ≤ b.c * (1 - a.c) := fun {y} h => by have := Rat.mul_nonneg (sub_nn h) r.lo; grind
  exact ⟨p.1.up e, (hb.r.mul1 r hb.r1 r1).1.up e, (hb.g.mul1 r hb.g1 r1).1.up e, (hb.b.mul1 r hb.b1 r1).1.up e, by have := hb.c1; have := p.2.1; show b.c * (1 - a.c) ≤ 1; grind, le hb.rc, le hb.gc, le hb.bc⟩
end
end GzL
end -- GzY
section -- GzZ
/-! GzZ: blends, run. -/
namespace GzL
open PySem PySem.Spec PyProof.Rows L2 Gz
section
variable {P : Prog} (H : HSp P) {a b : Sp} {n m : Nat}
include H
theorem r_over (hP : P.defs.lookup ("over" : Str) = some f_over) (ha : a.ok n) (hb : b.ok m) (hz : n + m ≤ 220) : Run P 5 "over" [spD a, spD b] (.fr (spD (overF a b))) := by
  refine Run.of hP rfl fun m' S hm => ?_
  have r := ha.c.rest ha.c1
  have e0 := p_rest H ha.c (by omega) m' S (by omega)
  have t : ∀ {y : Rat}, Sz m y → y ≤ 1 → den P m' "times" [shD y, shD (1 - a.c)] S = .ok (.fr (shD (y * (1 - a.c)))) S ∧ Sz (n + m) (y * (1 - a.c)) := fun {y} h h1 =>
    ⟨p_times H h r (by omega) m' S (by omega), ((h.mul1 r h1 (by have := ha.c.lo; grind)).1).up (by omega)⟩
  have tc := t hb.c hb.c1
  have tr := t hb.r hb.r1
  have tg := t hb.g hb.g1
  have tb := t hb.b hb.b1
  have pc := p_plus H ha.c tc.2 (by omega) m' S (by omega)
  have pr := p_plus H ha.r tr.2 (by omega) m' S (by omega)
  have pg := p_plus H ha.g tg.2 (by omega) m' S (by omega)
  have pb := p_plus H ha.b tb.2 (by omega) m' S (by omega)
  unfold f_over entry spD overF
  simp [Gz.evSs, Gz.evS, Gz.evE, Gz.evEs, Gz.evXs, Gz.evT, Gz.slotRv, Gz.Out.bind, Gz.Out.st, Gz.Out.toO, Gz.Out.calm, Gz.ofOpt, Gz.Op2.ev, Gz.Cm.ev, Gz.Rv.hold, Gz.Rv.cell, Gz.SO.then_, Gz.setE, Gz.itEv, Gz.lcLoop, Gz.forLoop, Gz.Tg.bind, Gz.bindL, Gz.wipeE, Gz.Bi.ev, Gz.idx_tup, Gz.idx_lst, Gz.idx_scr, Gz.sl_tL, Gz.sl_tU, Gz.sl_tB, Gz.sl_lL, Gz.sl_lU, Gz.sl_lB, Gz.D.toInt, Gz.truthR, Gz.D.truth, Gz.lim, Gz.atD_0, Gz.atD_1, Gz.atD_2, Gz.atD_3, Gz.atD_4, Gz.atD_5, Gz.atD_6, Gz.atD_7, Gz.atD_8, Gz.cut_lo1, Gz.cut_hi1, Gz.cut_hi2, Gz.cut_hi4, Gz.cut_hi5, Gz.gixEv, e0, tc.1, tr.1, tg.1, tb.1, pc, pr, pg, pb]
theorem r_screen (hP : P.defs.lookup ("screen" : Str) = some f_screen) (ha : a.ok n) (hb : b.ok m) (hz : n + m ≤ 220) : Run P 5 "screen" [spD a, spD b] (.fr (spD (scrF a b))) := by
  refine Run.of hP rfl fun m' S hm => ?_
  have t : ∀ {x y : Rat}, Sz n x → Sz m y → x ≤ 1 → y ≤ 1 → den P m' "rest" [shD x] S = .ok (.fr (shD (1 - x))) S ∧ den P m' "times" [shD y, shD (1 - x)] S = .ok (.fr (shD (y * (1 - x)))) S ∧ den P m' "plus" [shD x, shD (y * (1 - x))] S = .ok (.fr (shD (scrC x y))) S := fun {x y} h h' h1 h1' => by
    have r := h.rest h1
    have s := ((h'.mul1 r h1' (by have := h.lo; grind)).1).up (show m + n ≤ n + m by omega)
    exact ⟨p_rest H h (by omega) m' S (by omega), p_times H h' r (by omega) m' S (by omega), p_plus H h s (by omega) m' S (by omega)⟩
  have tc := t ha.c hb.c ha.c1 hb.c1
  have tr := t ha.r hb.r ha.r1 hb.r1
  have tg := t ha.g hb.g ha.g1 hb.g1
  have tb := t ha.b hb.b ha.b1 hb.b1
  unfold f_screen entry spD scrF
  simp [Gz.evSs, Gz.evS, Gz.evE, Gz.evEs, Gz.evXs, Gz.evT, Gz.slotRv, Gz.Out.bind, Gz.Out.st, Gz.Out.toO, Gz.Out.calm, Gz.ofOpt, Gz.Op2.ev, Gz.Cm.ev, Gz.Rv.hold, Gz.Rv.cell, Gz.SO.then_, Gz.setE, Gz.itEv, Gz.lcLoop, Gz.forLoop, Gz.Tg.bind, Gz.bindL, Gz.wipeE, Gz.Bi.ev, Gz.idx_tup, Gz.idx_lst, Gz.idx_scr, Gz.sl_tL, Gz.sl_tU, Gz.sl_tB, Gz.sl_lL, Gz.sl_lU, Gz.sl_lB, Gz.D.toInt, Gz.truthR, Gz.D.truth, Gz.lim, Gz.atD_0, Gz.atD_1, Gz.atD_2, Gz.atD_3, Gz.atD_4, Gz.atD_5, Gz.atD_6, Gz.atD_7, Gz.atD_8, Gz.cut_lo1, Gz.cut_hi1, Gz.cut_hi2, Gz.cut_hi4, Gz.cut_hi5, Gz.gixEv, tc, tr, tg, tb]
theorem r_added (hO : P.defs.lookup ("is_over" : Str) = some f_is_over) (hM : P.defs.lookup ("at_most" : Str) = some f_at_most) (hP : P.defs.lookup ("added" : Str) = some f_added) (ha : a.ok n) (hb : b.ok m) (hz : n + m ≤ 220) : Run P 4 "added" [spD a, spD b] (.fr (spD (addF a b))) := by
  refine Run.of hP rfl fun m' S hm => ?_
  have t : ∀ {x y : Rat}, Sz n x → Sz m y → x ≤ 1 → y ≤ 1 → den P m' "plus" [shD x, shD y] S = .ok (.fr (shD (x + y))) S ∧ den P m' "at_most" [shD (x + y)] S = .ok (.fr (shD (min1 (x + y)))) S := fun {x y} h h' h1 h1' => by
    exact ⟨p_plus H h h' (by omega) m' S (by omega), p_at_most H hO hM (add_ch h h' h1 h1').2.2 (by omega) m' S (by omega)⟩
  have tc := t ha.c hb.c ha.c1 hb.c1
  have tr := t ha.r hb.r ha.r1 hb.r1
  have tg := t ha.g hb.g ha.g1 hb.g1
  have tb := t ha.b hb.b ha.b1 hb.b1
  unfold f_added entry spD addF
  simp [Gz.evSs, Gz.evS, Gz.evE, Gz.evEs, Gz.evXs, Gz.evT, Gz.slotRv, Gz.Out.bind, Gz.Out.st, Gz.Out.toO, Gz.Out.calm, Gz.ofOpt, Gz.Op2.ev, Gz.Cm.ev, Gz.Rv.hold, Gz.Rv.cell, Gz.SO.then_, Gz.setE, Gz.itEv, Gz.lcLoop, Gz.forLoop, Gz.Tg.bind, Gz.bindL, Gz.wipeE, Gz.Bi.ev, Gz.idx_tup, Gz.idx_lst, Gz.idx_scr, Gz.sl_tL, Gz.sl_tU, Gz.sl_tB, Gz.sl_lL, Gz.sl_lU, Gz.sl_lB, Gz.D.toInt, Gz.truthR, Gz.D.truth, Gz.lim, Gz.atD_0, Gz.atD_1, Gz.atD_2, Gz.atD_3, Gz.atD_4, Gz.atD_5, Gz.atD_6, Gz.atD_7, Gz.atD_8, Gz.cut_lo1, Gz.cut_hi1, Gz.cut_hi2, Gz.cut_hi4, Gz.cut_hi5, Gz.gixEv, tc, tr, tg, tb]
theorem r_multiply (hP : P.defs.lookup ("multiply" : Str) = some f_multiply) (ha : a.ok n) (hb : b.ok m) (hz : n + m ≤ 220) : Run P 5 "multiply" [spD a, spD b] (.fr (spD (multF a b))) := by
  refine Run.of hP rfl fun m' S hm => ?_
  have rc := ha.c.rest ha.c1
  have rd := hb.c.rest hb.c1
  have c1 : 1 - a.c ≤ 1 := by have := ha.c.lo; grind
  have d1 : 1 - b.c ≤ 1 := by have := hb.c.lo; grind
  have e0 := p_rest H ha.c (by omega) m' S (by omega)
  have e1 := p_rest H hb.c (by omega) m' S (by omega)
  have e2 := p_times H hb.c rc (by omega) m' S (by omega)
  have e3 := p_plus H ha.c (((hb.c.mul1 rc hb.c1 c1).1).up (show m + n ≤ n + m by omega)) (by omega) m' S (by omega)
  have t : ∀ {x y : Rat}, Sz n x → Sz m y → x ≤ a.c → y ≤ b.c → den P m' "times" [shD x, shD y] S = .ok (.fr (shD (x * y))) S ∧ den P m' "times" [shD x, shD (1 - b.c)] S = .ok (.fr (shD (x * (1 - b.c)))) S ∧
      den P m' "times" [shD y, shD (1 - a.c)] S = .ok (.fr (shD (y * (1 - a.c)))) S ∧ den P m' "plus" [shD (x * (1 - b.c)), shD (y * (1 - a.c))] S = .ok (.fr (shD (x * (1 - b.c) + y * (1 - a.c)))) S ∧
      den P m' "plus" [shD (x * y), shD (x * (1 - b.c) + y * (1 - a.c))] S = .ok (.fr (shD (mulC a.c b.c x y))) S := fun {x y} h h' h1 h1' => by
    have x1 : x ≤ 1 := by have := ha.c1; grind
    have y1 : y ≤ 1 := by have := hb.c1; grind
    have s := (mul_ch ha.c hb.c h h' ha.c1 hb.c1 h1 h1').2.2
    exact ⟨p_times H h h' (by omega) m' S (by omega), p_times H h rd (by omega) m' S (by omega), p_times H h' rc (by omega) m' S (by omega),
      p_plus H (h.mul1 rd x1 d1).1 ((h'.mul1 rc y1 c1).1) (by omega) m' S (by omega), p_plus H (h.mul1 h' x1 y1).1 s (by omega) m' S (by omega)⟩
  have tr := t ha.r hb.r ha.rc hb.rc
  have tg := t ha.g hb.g ha.gc hb.gc
  have tb := t ha.b hb.b ha.bc hb.bc
  unfold f_multiply entry spD multF
  simp [Gz.evSs, Gz.evS, Gz.evE, Gz.evEs, Gz.evXs, Gz.evT, Gz.slotRv, Gz.Out.bind, Gz.Out.st, Gz.Out.toO, Gz.Out.calm, Gz.ofOpt, Gz.Op2.ev, Gz.Cm.ev, Gz.Rv.hold, Gz.Rv.cell, Gz.SO.then_, Gz.setE, Gz.itEv, Gz.lcLoop, Gz.forLoop, Gz.Tg.bind, Gz.bindL, Gz.wipeE, Gz.Bi.ev, Gz.idx_tup, Gz.idx_lst, Gz.idx_scr, Gz.sl_tL, Gz.sl_tU, Gz.sl_tB, Gz.sl_lL, Gz.sl_lU, Gz.sl_lB, Gz.D.toInt, Gz.truthR, Gz.D.truth, Gz.lim, Gz.atD_0, Gz.atD_1, Gz.atD_2, Gz.atD_3, Gz.atD_4, Gz.atD_5, Gz.atD_6, Gz.atD_7, Gz.atD_8, Gz.cut_lo1, Gz.cut_hi1, Gz.cut_hi2, Gz.cut_hi4, Gz.cut_hi5, Gz.gixEv, e0, e1, e2, e3, tr, tg, tb]
theorem r_atop (hP : P.defs.lookup ("atop" : Str) = some f_atop) (ha : a.ok n) (hb : b.ok m) (hz : n + m ≤ 220) : Run P 5 "atop" [spD a, spD b] (.fr (spD (atopF a b))) := by
  refine Run.of hP rfl fun m' S hm => ?_
  have rc := ha.c.rest ha.c1
  have c1 : 1 - a.c ≤ 1 := by have := ha.c.lo; grind
  have e0 := p_rest H ha.c (by omega) m' S (by omega)
  have t : ∀ {x y : Rat}, Sz n x → Sz m y → x ≤ a.c → y ≤ b.c → den P m' "times" [shD x, shD b.c] S = .ok (.fr (shD (x * b.c))) S ∧
      den P m' "times" [shD y, shD (1 - a.c)] S = .ok (.fr (shD (y * (1 - a.c)))) S ∧ den P m' "plus" [shD (x * b.c), shD (y * (1 - a.c))] S = .ok (.fr (shD (x * b.c + y * (1 - a.c)))) S := fun {x y} h h' h1 h1' => by
    have x1 : x ≤ 1 := by have := ha.c1; grind
    have y1 : y ≤ 1 := by have := hb.c1; grind
    exact ⟨p_times H h hb.c (by omega) m' S (by omega), p_times H h' rc (by omega) m' S (by omega), p_plus H (h.mul1 hb.c x1 hb.c1).1 (h'.mul1 rc y1 c1).1 (by omega) m' S (by omega)⟩
  have tr := t ha.r hb.r ha.rc hb.rc
  have tg := t ha.g hb.g ha.gc hb.gc
  have tb := t ha.b hb.b ha.bc hb.bc
  unfold f_atop entry spD atopF
  simp [Gz.evSs, Gz.evS, Gz.evE, Gz.evEs, Gz.evXs, Gz.evT, Gz.slotRv, Gz.Out.bind, Gz.Out.st, Gz.Out.toO, Gz.Out.calm, Gz.ofOpt, Gz.Op2.ev, Gz.Cm.ev, Gz.Rv.hold, Gz.Rv.cell, Gz.SO.then_, Gz.setE, Gz.itEv, Gz.lcLoop, Gz.forLoop, Gz.Tg.bind, Gz.bindL, Gz.wipeE, Gz.Bi.ev, Gz.idx_tup, Gz.idx_lst, Gz.idx_scr, Gz.sl_tL, Gz.sl_tU, Gz.sl_tB, Gz.sl_lL, Gz.sl_lU, Gz.sl_lB, Gz.D.toInt, Gz.truthR, Gz.D.truth, Gz.lim, Gz.atD_0, Gz.atD_1, Gz.atD_2, Gz.atD_3, Gz.atD_4, Gz.atD_5, Gz.atD_6, Gz.atD_7, Gz.atD_8, Gz.cut_lo1, Gz.cut_hi1, Gz.cut_hi2, Gz.cut_hi4, Gz.cut_hi5, Gz.gixEv, e0, tr, tg, tb]
/-- each part by a share -/
def wtF (s : Sp) (q : Rat) : Sp := ⟨s.c * q, s.r * q, s.g * q, s.b * q⟩
omit H in
theorem wtF_ok {q : Rat} (ha : a.ok n) (hq : Sz m q) (q1 : q ≤ 1) : (wtF a q).ok (n + m) := by
  have le : ∀ {y : Rat}, y ≤ a.c → y * q ≤ a.c * q := fun {y} h => by have := Rat.mul_nonneg (sub_nn h) hq.lo; grind
  have p := ha.c.mul1 hq ha.c1 q1
  exact ⟨p.1, (ha.r.mul1 hq ha.r1 q1).1, (ha.g.mul1 hq ha.g1 q1).1, (ha.b.mul1 hq ha.b1 q1).1, by have := ha.c1; have := p.2.1; show a.c * q ≤ 1; grind, le ha.rc, le ha.gc, le ha.bc⟩
theorem r_weighted (hP : P.defs.lookup ("weighted" : Str) = some f_weighted) {q : Rat} (ha : a.ok n) (hq : Sz m q) (hz : n + m ≤ 220) : Run P 4 "weighted" [spD a, shD q] (.fr (spD (wtF a q))) := by
  refine Run.of hP rfl fun m' S hm => ?_
  have tc := p_times H ha.c hq (by omega) m' S (by omega)
  have tr := p_times H ha.r hq (by omega) m' S (by omega)
  have tg := p_times H ha.g hq (by omega) m' S (by omega)
  have tb := p_times H ha.b hq (by omega) m' S (by omega)
  unfold f_weighted entry spD wtF
  simp [Gz.evSs, Gz.evS, Gz.evE, Gz.evEs, Gz.evXs, Gz.evT, Gz.slotRv, Gz.Out.bind, Gz.Out.st, Gz.Out.toO, Gz.Out.calm, Gz.ofOpt, Gz.Op2.ev, Gz.Cm.ev, Gz.Rv.hold, Gz.Rv.cell, Gz.SO.then_, Gz.setE, Gz.itEv, Gz.lcLoop, Gz.forLoop, Gz.Tg.bind, Gz.bindL, Gz.wipeE, Gz.Bi.ev, Gz.idx_tup, Gz.idx_lst, Gz.idx_scr, Gz.sl_tL, Gz.sl_tU, Gz.sl_tB, Gz.sl_lL, Gz.sl_lU, Gz.sl_lB, Gz.D.toInt, Gz.truthR, Gz.D.truth, Gz.lim, Gz.atD_0, Gz.atD_1, Gz.atD_2, Gz.atD_3, Gz.atD_4, Gz.atD_5, Gz.atD_6, Gz.atD_7, Gz.atD_8, Gz.cut_lo1, Gz.cut_hi1, Gz.cut_hi2, Gz.cut_hi4, Gz.cut_hi5, Gz.gixEv, tc, tr, tg, tb]
theorem r_cut (hW : P.defs.lookup ("weighted" : Str) = some f_weighted) (hP : P.defs.lookup ("cut" : Str) = some f_cut) (ha : a.ok n) (hb : b.ok m) (hz : n + m ≤ 220) : Run P 5 "cut" [spD a, spD b] (.fr (spD (cutF a b))) := by
  refine Run.of hP rfl fun m' S hm => ?_
  have rc := ha.c.rest ha.c1
  have e0 := p_rest H ha.c (by omega) m' S (by omega)
  have e1 := r_weighted H hW hb rc (by omega) m' S (by omega)
  have e2 : wtF b (1 - a.c) = cutF a b := rfl
  rw [e2] at e1
  have h0 : ∀ x y z w : D, idxEv (.tup [x, y, z, w]) (.int 0) = some x := fun _ _ _ _ => rfl
  have h1 : idxEv (spD a) (.int 0) = some (shD a.c) := rfl
  unfold f_cut entry
  simp [evSs, evS, evE, evEs, slotRv, Out.bind, Out.st, Out.toO, ofOpt, Rv.hold, SO.then_, h1, e0, e1]
end
end GzL
end -- GzZ
section -- GyA
/-! GyA: manners; the laws' own blend; looks at spots. -/
namespace GzL
open PySem PySem.Spec PyProof.Rows L2 Gz
inductive Mn where
  | over | multiply | screen | plus | atop | cut
  deriving DecidableEq
def Mn.s : Mn → Str
  | .over => "over"
  | .multiply => "multiply"
  | .screen => "screen"
  | .plus => "plus"
  | .atop => "atop"
  | .cut => "cut"
def blF : Mn → Sp → Sp → Sp
  | .over => overF
  | .multiply => multF
  | .screen => scrF
  | .plus => addF
  | .atop => atopF
  | .cut => cutF
theorem blF_ok {a b : Sp} {n m : Nat} (w : Mn) (ha : a.ok n) (hb : b.ok m) : (blF w a b).ok (n + m) := by
  cases w
  · exact overF_ok ha hb
  · exact multF_ok ha hb
  · exact scrF_ok ha hb
  · exact addF_ok ha hb
  · exact atopF_ok ha hb
  · exact cutF_ok ha hb
structure HBl (P : Prog) : Prop where
  sp : HSp P
  tab : P.tabs.lookup ("BLENDS" : Str) = some [(("over" : Str), ("over" : Str)), ("multiply", "multiply"), ("screen", "screen"), ("plus", "added"), ("atop", "atop"), ("cut", "cut")]
  over : P.defs.lookup ("over" : Str) = some f_over
  multiply : P.defs.lookup ("multiply" : Str) = some f_multiply
  screen : P.defs.lookup ("screen" : Str) = some f_screen
  added : P.defs.lookup ("added" : Str) = some f_added
  atop : P.defs.lookup ("atop" : Str) = some f_atop
  cut : P.defs.lookup ("cut" : Str) = some f_cut
  is_over : P.defs.lookup ("is_over" : Str) = some f_is_over
  at_most : P.defs.lookup ("at_most" : Str) = some f_at_most
  weighted : P.defs.lookup ("weighted" : Str) = some f_weighted
  blended : P.defs.lookup ("blended" : Str) = some f_blended
theorem r_blended {P : Prog} (H : HBl P) {a b : Sp} {n m : Nat} (w : Mn) (ha : a.ok n) (hb : b.ok m) (hz : n + m ≤ 220) : Run P 6 "blended" [.str w.s, spD a, spD b] (.fr (spD (blF w a b))) := by
  refine Run.of H.blended rfl fun m' S hm => ?_
  unfold f_blended entry
  cases w with
  | over =>
    have e := r_over H.sp H.over ha hb hz m' S (by omega)
    have l : List.lookup Mn.over.s [(("over" : Str), ("over" : Str)), ("multiply", "multiply"), ("screen", "screen"), ("plus", "added"), ("atop", "atop"), ("cut", "cut")] = some "over" := by decide +kernel
    simp [Gz.evSs, Gz.evS, Gz.evE, Gz.evEs, Gz.evXs, Gz.evT, Gz.slotRv, Gz.Out.bind, Gz.Out.st, Gz.Out.toO, Gz.Out.calm, Gz.ofOpt, Gz.Op2.ev, Gz.Cm.ev, Gz.Rv.hold, Gz.Rv.cell, Gz.SO.then_, Gz.setE, Gz.itEv, Gz.lcLoop, Gz.forLoop, Gz.Tg.bind, Gz.bindL, Gz.wipeE, Gz.Bi.ev, Gz.idx_tup, Gz.idx_lst, Gz.idx_scr, Gz.sl_tL, Gz.sl_tU, Gz.sl_tB, Gz.sl_lL, Gz.sl_lU, Gz.sl_lB, Gz.D.toInt, Gz.truthR, Gz.D.truth, Gz.lim, Gz.atD_0, Gz.atD_1, Gz.atD_2, Gz.atD_3, Gz.atD_4, Gz.atD_5, Gz.atD_6, Gz.atD_7, Gz.atD_8, Gz.cut_lo1, Gz.cut_hi1, Gz.cut_hi2, Gz.cut_hi4, Gz.cut_hi5, Gz.gixEv, H.tab, l, H.over, e, blF]
  | multiply =>
    have e := r_multiply H.sp H.multiply ha hb hz m' S (by omega)
    have l : List.lookup Mn.multiply.s [(("over" : Str), ("over" : Str)), ("multiply", "multiply"), ("screen", "screen"), ("plus", "added"), ("atop", "atop"), ("cut", "cut")] = some "multiply" := by decide +kernel
    simp [Gz.evSs, Gz.evS, Gz.evE, Gz.evEs, Gz.evXs, Gz.evT, Gz.slotRv, Gz.Out.bind, Gz.Out.st, Gz.Out.toO, Gz.Out.calm, Gz.ofOpt, Gz.Op2.ev, Gz.Cm.ev, Gz.Rv.hold, Gz.Rv.cell, Gz.SO.then_, Gz.setE, Gz.itEv, Gz.lcLoop, Gz.forLoop, Gz.Tg.bind, Gz.bindL, Gz.wipeE, Gz.Bi.ev, Gz.idx_tup, Gz.idx_lst, Gz.idx_scr, Gz.sl_tL, Gz.sl_tU, Gz.sl_tB, Gz.sl_lL, Gz.sl_lU, Gz.sl_lB, Gz.D.toInt, Gz.truthR, Gz.D.truth, Gz.lim, Gz.atD_0, Gz.atD_1, Gz.atD_2, Gz.atD_3, Gz.atD_4, Gz.atD_5, Gz.atD_6, Gz.atD_7, Gz.atD_8, Gz.cut_lo1, Gz.cut_hi1, Gz.cut_hi2, Gz.cut_hi4, Gz.cut_hi5, Gz.gixEv, H.tab, l, H.multiply, e, blF]
  | screen =>
    have e := r_screen H.sp H.screen ha hb hz m' S (by omega)
    have l : List.lookup Mn.screen.s [(("over" : Str), ("over" : Str)), ("multiply", "multiply"), ("screen", "screen"), ("plus", "added"), ("atop", "atop"), ("cut", "cut")] = some "screen" := by decide +kernel
    simp [Gz.evSs, Gz.evS, Gz.evE, Gz.evEs, Gz.evXs, Gz.evT, Gz.slotRv, Gz.Out.bind, Gz.Out.st, Gz.Out.toO, Gz.Out.calm, Gz.ofOpt, Gz.Op2.ev, Gz.Cm.ev, Gz.Rv.hold, Gz.Rv.cell, Gz.SO.then_, Gz.setE, Gz.itEv, Gz.lcLoop, Gz.forLoop, Gz.Tg.bind, Gz.bindL, Gz.wipeE, Gz.Bi.ev, Gz.idx_tup, Gz.idx_lst, Gz.idx_scr, Gz.sl_tL, Gz.sl_tU, Gz.sl_tB, Gz.sl_lL, Gz.sl_lU, Gz.sl_lB, Gz.D.toInt, Gz.truthR, Gz.D.truth, Gz.lim, Gz.atD_0, Gz.atD_1, Gz.atD_2, Gz.atD_3, Gz.atD_4, Gz.atD_5, Gz.atD_6, Gz.atD_7, Gz.atD_8, Gz.cut_lo1, Gz.cut_hi1, Gz.cut_hi2, Gz.cut_hi4, Gz.cut_hi5, Gz.gixEv, H.tab, l, H.screen, e, blF]
  | plus =>
    have e := r_added H.sp H.is_over H.at_most H.added ha hb hz m' S (by omega)
    have l : List.lookup Mn.plus.s [(("over" : Str), ("over" : Str)), ("multiply", "multiply"), ("screen", "screen"), ("plus", "added"), ("atop", "atop"), ("cut", "cut")] = some "added" := by decide +kernel
    simp [Gz.evSs, Gz.evS, Gz.evE, Gz.evEs, Gz.evXs, Gz.evT, Gz.slotRv, Gz.Out.bind, Gz.Out.st, Gz.Out.toO, Gz.Out.calm, Gz.ofOpt, Gz.Op2.ev, Gz.Cm.ev, Gz.Rv.hold, Gz.Rv.cell, Gz.SO.then_, Gz.setE, Gz.itEv, Gz.lcLoop, Gz.forLoop, Gz.Tg.bind, Gz.bindL, Gz.wipeE, Gz.Bi.ev, Gz.idx_tup, Gz.idx_lst, Gz.idx_scr, Gz.sl_tL, Gz.sl_tU, Gz.sl_tB, Gz.sl_lL, Gz.sl_lU, Gz.sl_lB, Gz.D.toInt, Gz.truthR, Gz.D.truth, Gz.lim, Gz.atD_0, Gz.atD_1, Gz.atD_2, Gz.atD_3, Gz.atD_4, Gz.atD_5, Gz.atD_6, Gz.atD_7, Gz.atD_8, Gz.cut_lo1, Gz.cut_hi1, Gz.cut_hi2, Gz.cut_hi4, Gz.cut_hi5, Gz.gixEv, H.tab, l, H.added, e, blF]
  | atop =>
    have e := r_atop H.sp H.atop ha hb hz m' S (by omega)
    have l : List.lookup Mn.atop.s [(("over" : Str), ("over" : Str)), ("multiply", "multiply"), ("screen", "screen"), ("plus", "added"), ("atop", "atop"), ("cut", "cut")] = some "atop" := by decide +kernel
    simp [Gz.evSs, Gz.evS, Gz.evE, Gz.evEs, Gz.evXs, Gz.evT, Gz.slotRv, Gz.Out.bind, Gz.Out.st, Gz.Out.toO, Gz.Out.calm, Gz.ofOpt, Gz.Op2.ev, Gz.Cm.ev, Gz.Rv.hold, Gz.Rv.cell, Gz.SO.then_, Gz.setE, Gz.itEv, Gz.lcLoop, Gz.forLoop, Gz.Tg.bind, Gz.bindL, Gz.wipeE, Gz.Bi.ev, Gz.idx_tup, Gz.idx_lst, Gz.idx_scr, Gz.sl_tL, Gz.sl_tU, Gz.sl_tB, Gz.sl_lL, Gz.sl_lU, Gz.sl_lB, Gz.D.toInt, Gz.truthR, Gz.D.truth, Gz.lim, Gz.atD_0, Gz.atD_1, Gz.atD_2, Gz.atD_3, Gz.atD_4, Gz.atD_5, Gz.atD_6, Gz.atD_7, Gz.atD_8, Gz.cut_lo1, Gz.cut_hi1, Gz.cut_hi2, Gz.cut_hi4, Gz.cut_hi5, Gz.gixEv, H.tab, l, H.atop, e, blF]
  | cut =>
    have e := r_cut H.sp H.weighted H.cut ha hb hz m' S (by omega)
    have l : List.lookup Mn.cut.s [(("over" : Str), ("over" : Str)), ("multiply", "multiply"), ("screen", "screen"), ("plus", "added"), ("atop", "atop"), ("cut", "cut")] = some "cut" := by decide +kernel
    simp [Gz.evSs, Gz.evS, Gz.evE, Gz.evEs, Gz.evXs, Gz.evT, Gz.slotRv, Gz.Out.bind, Gz.Out.st, Gz.Out.toO, Gz.Out.calm, Gz.ofOpt, Gz.Op2.ev, Gz.Cm.ev, Gz.Rv.hold, Gz.Rv.cell, Gz.SO.then_, Gz.setE, Gz.itEv, Gz.lcLoop, Gz.forLoop, Gz.Tg.bind, Gz.bindL, Gz.wipeE, Gz.Bi.ev, Gz.idx_tup, Gz.idx_lst, Gz.idx_scr, Gz.sl_tL, Gz.sl_tU, Gz.sl_tB, Gz.sl_lL, Gz.sl_lU, Gz.sl_lB, Gz.D.toInt, Gz.truthR, Gz.D.truth, Gz.lim, Gz.atD_0, Gz.atD_1, Gz.atD_2, Gz.atD_3, Gz.atD_4, Gz.atD_5, Gz.atD_6, Gz.atD_7, Gz.atD_8, Gz.cut_lo1, Gz.cut_hi1, Gz.cut_hi2, Gz.cut_hi4, Gz.cut_hi5, Gz.gixEv, H.tab, l, H.cut, e, blF]
/-! ### comparing -/
theorem okq_sh (n : Nat) (q : Rat) : (shD q).okq (n + 1) = true := by simp [shD, D.okq, D.oks]
theorem okq_sp (n : Nat) (s : Sp) : (spD s).okq (n + 2) = true := by simp [spD, D.okq, D.oks, okq_sh]
theorem eqb_sh (q r : Rat) : (shD q).eqb (shD r) = decide (q = r) := by
  unfold shD
  rw [Bool.eq_iff_iff]
  simp only [D.eqb, D.eqs, Bool.and_true, Bool.and_eq_true, beq_iff_eq, decide_eq_true_eq]
  constructor
  · rintro ⟨h1, h2⟩
    exact Rat.ext h1 (by omega)
  · rintro rfl
    exact ⟨rfl, rfl⟩
theorem eqb_sp (s t : Sp) : (spD s).eqb (spD t) = decide (s = t) := by
  unfold spD
  rw [Bool.eq_iff_iff]
  simp only [D.eqb, D.eqs, Bool.and_true, Bool.and_eq_true, eqb_sh, decide_eq_true_eq]
  constructor
  · rintro ⟨h1, h2, h3, h4⟩
    exact Sp.ext h1 h2 h3 h4
  · rintro rfl
    exact ⟨rfl, rfl, rfl, rfl⟩
theorem eqO_sh (s t : Rat) : eqO (shD s) (shD t) = some (decide (s = t)) := by
  have h : eqO (shD s) (shD t) = if (shD s).okq 60 && (shD t).okq 60 then some ((shD s).eqb (shD t)) else none := by unfold eqO shD; rfl
  rw [h, okq_sh 59, okq_sh 59, eqb_sh]
  rfl
/-! ### the laws' own look -/
end GzL
end -- GyA
section -- GyB
/-! GyB: the laws' own blend, look at a spot. -/
namespace GzL
open PySem PySem.Spec PyProof.Rows L2 Gz
structure HLb (P : Prog) : Prop where
  made : P.defs.lookup ("_law_made" : Str) = some f__law_made
  plus : P.defs.lookup ("_law_plus" : Str) = some f__law_plus
  times : P.defs.lookup ("_law_times" : Str) = some f__law_times
  rest : P.defs.lookup ("_law_rest" : Str) = some f__law_rest
section
variable {P : Prog} (H : HLb P) {q r : Rat} {n m : Nat}
include H
end
theorem min1_id {q : Rat} (h : q ≤ 1) : min1 q = q := by unfold min1; rw [if_neg (by grind)]
end GzL
end -- GyB
section -- GyC
/-! GyC: the program's look at spots; what blends keep. -/
namespace GzL
open PySem PySem.Spec PyProof.Rows L2 Gz
structure HIs (P : Prog) : Prop where
  common : P.defs.lookup ("common" : Str) = some f_common
  whole : P.defs.lookup ("is_whole" : Str) = some f_is_whole
  share : P.defs.lookup ("is_share" : Str) = some f_is_share
  over : P.defs.lookup ("is_over" : Str) = some f_is_over
  spot : P.defs.lookup ("is_spot" : Str) = some f_is_spot
/-! ### what blends keep -/
def clr : Sp := ⟨0, 0, 0, 0⟩
theorem clr_ok : clr.ok 0 := ⟨Sz.zero, Sz.zero, Sz.zero, Sz.zero, by decide, by decide, by decide, by decide⟩
def Mn.joins : Mn → Bool
  | .atop => false
  | .cut => false
  | _ => true
theorem min1_assoc {x y z : Rat} (hx : 0 ≤ x) (hy : 0 ≤ y) (hz : 0 ≤ z) : min1 (x + min1 (y + z)) = min1 (min1 (x + y) + z) := by
  unfold min1
  split <;> split <;> split <;> split <;> grind
theorem bl_assoc {a b c : Sp} {n m k : Nat} (w : Mn) (h : w.joins = true) (ha : a.ok n) (hb : b.ok m) (hc : c.ok k) : blF w a (blF w b c) = blF w (blF w a b) c := by
  cases w with
  | over => simp only [blF, overF, Sp.mk.injEq]; refine ⟨?_, ?_, ?_, ?_⟩ <;> grind
  | multiply => simp only [blF, multF, mulC, Sp.mk.injEq]; refine ⟨?_, ?_, ?_, ?_⟩ <;> grind
  | screen => simp only [blF, scrF, scrC, Sp.mk.injEq]; refine ⟨?_, ?_, ?_, ?_⟩ <;> grind
  | plus =>
    simp only [blF, addF, Sp.mk.injEq]
    exact ⟨min1_assoc ha.c.lo hb.c.lo hc.c.lo, min1_assoc ha.r.lo hb.r.lo hc.r.lo, min1_assoc ha.g.lo hb.g.lo hc.g.lo, min1_assoc ha.b.lo hb.b.lo hc.b.lo⟩
  | atop => cases h
  | cut => cases h
theorem bl_clrL {a : Sp} {n : Nat} (w : Mn) (ha : a.ok n) : blF w clr a = a := by
  obtain ⟨c, r, g, b⟩ := a
  have h1 := ha.c1
  have h2 := ha.r1
  have h3 := ha.g1
  have h4 := ha.b1
  cases w with
  | plus =>
    simp only [blF, addF, clr, Sp.mk.injEq]
    exact ⟨by rw [Rat.zero_add]; exact min1_id h1, by rw [Rat.zero_add]; exact min1_id h2, by rw [Rat.zero_add]; exact min1_id h3, by rw [Rat.zero_add]; exact min1_id h4⟩
  | _ => simp only [blF, overF, multF, mulC, scrF, scrC, atopF, cutF, clr, Sp.mk.injEq]; refine ⟨?_, ?_, ?_, ?_⟩ <;> grind
theorem bl_clrR {a : Sp} {n : Nat} (w : Mn) (h : w.joins = true) (ha : a.ok n) : blF w a clr = a := by
  obtain ⟨c, r, g, b⟩ := a
  have h1 := ha.c1
  have h2 := ha.r1
  have h3 := ha.g1
  have h4 := ha.b1
  cases w with
  | plus =>
    simp only [blF, addF, clr, Sp.mk.injEq]
    exact ⟨by rw [Rat.add_zero]; exact min1_id h1, by rw [Rat.add_zero]; exact min1_id h2, by rw [Rat.add_zero]; exact min1_id h3, by rw [Rat.add_zero]; exact min1_id h4⟩
  | atop => cases h
  | cut => cases h
  | _ => simp only [blF, overF, multF, mulC, scrF, scrC, clr, Sp.mk.injEq]; refine ⟨?_, ?_, ?_, ?_⟩ <;> grind
def Mn.both : Mn → Bool
  | .multiply => true
  | .screen => true
  | .plus => true
  | _ => false
end GzL
end -- GyC
section -- GyD
/-! GyD: tones. -/
namespace GzL
open PySem PySem.Spec PyProof.Rows L2 Gz
inductive Ru where
  | turn | grey | round
  deriving DecidableEq
def Ru.s : Ru → Str
  | .turn => "turn"
  | .grey => "grey"
  | .round => "round"
theorem ru_eq (w v : Ru) : eqO (.str w.s) (.str v.s) = some (decide (w = v)) := by cases w <;> cases v <;> decide +kernel
theorem ru_turn (w : Ru) : eqO (.str w.s) (.str "turn") = some (decide (w = .turn)) := ru_eq w .turn
theorem ru_round (w : Ru) : eqO (.str w.s) (.str "round") = some (decide (w = .round)) := ru_eq w .round
def third : Rat := mkRat 1 3
theorem third3 : third + third + third = 1 := by decide +kernel
theorem thirdD : D.tup [.int 1, .int 3] = shD third := by
  unfold shD third
  have h1 : (mkRat 1 3).num = 1 := by decide +kernel
  have h2 : (mkRat 1 3).den = 3 := by decide +kernel
  rw [h1, h2]
  rfl
theorem third_ok : Sz 1 third ∧ third ≤ 1 := Sz.ofFrac (t := 1) (d := 3) (by decide) (by decide) (by decide)
def greyC (s : Sp) : Rat := (s.r + (s.g + s.b)) * third
def ruF : Ru → Sp → Sp
  | .turn, s => ⟨s.c, s.c - s.r, s.c - s.g, s.c - s.b⟩
  | .grey, s => ⟨s.c, greyC s, greyC s, greyC s⟩
  | .round, s => ⟨s.c, s.g, s.b, s.r⟩
def bt (x y q : Rat) : Rat := x * q + y * (1 - q)
theorem bt_self (x q : Rat) : bt x x q = x := by unfold bt; grind
def toF (u : Ru) (s : Sp) (q : Rat) : Sp := ⟨s.c, bt (ruF u s).r s.r q, bt (ruF u s).g s.g q, bt (ruF u s).b s.b q⟩
theorem Sz.sub {n : Nat} {q r : Rat} (h : Sz n q) (h' : Sz n r) (l : r ≤ q) : Sz n (q - r) := by
  obtain ⟨⟨a, e⟩, lo, hi⟩ := h
  obtain ⟨⟨a', e'⟩, lo', hi'⟩ := h'
  refine ⟨⟨a - a', ?_⟩, by grind, by grind⟩
  rw [Rat.intCast_sub, ← e, ← e']
  grind
section
variable {a b : Sp} {n m : Nat}
theorem grey_sums (h : a.ok n) : Sz n (a.g + a.b) ∧ Sz n (a.r + (a.g + a.b)) ∧ a.r + (a.g + a.b) ≤ 3 * a.c := by
  have h1 := h.rc; have h2 := h.gc; have h3 := h.bc; have h4 := h.c1
  have s := h.g.add h.b (by grind)
  exact ⟨s, h.r.add s (by grind), by grind⟩
theorem grey_ok (h : a.ok n) : Sz (n + 1) (greyC a) ∧ greyC a ≤ a.c := by
  obtain ⟨s1, s2, s3⟩ := grey_sums h
  have t := third_ok
  have t3 := third3
  have k := Rat.mul_nonneg (sub_nn s3) t.1.lo
  have k2 : a.c * (third + third + third) = a.c := by rw [t3]; exact Rat.mul_one _
  have le : greyC a ≤ a.c := by unfold greyC; grind
  refine ⟨?_, le⟩
  have := h.c1
  exact s2.mul t.1 (by unfold greyC at le; grind)
theorem ruF_ok (u : Ru) (h : a.ok n) : (ruF u a).ok (n + 1) := by
  cases u with
  | turn => exact ⟨h.c.up (by omega), (h.c.sub h.r h.rc).up (by omega), (h.c.sub h.g h.gc).up (by omega), (h.c.sub h.b h.bc).up (by omega), h.c1, by have := h.r.lo; show a.c - a.r ≤ a.c; grind, by have := h.g.lo; show a.c - a.g ≤ a.c; grind, by have := h.b.lo; show a.c - a.b ≤ a.c; grind⟩
  | grey =>
    have g := grey_ok h
    exact ⟨h.c.up (by omega), g.1, g.1, g.1, h.c1, g.2, g.2, g.2⟩
  | round => exact ⟨h.c.up (by omega), h.g.up (by omega), h.b.up (by omega), h.r.up (by omega), h.c1, h.gc, h.bc, h.rc⟩
theorem bt_ok {x y q c : Rat} (hx : Sz n x) (hy : Sz n y) (hq : Sz m q) (xc : x ≤ c) (yc : y ≤ c) (c1 : c ≤ 1) (q1 : q ≤ 1) : Sz (n + m) (bt x y q) ∧ bt x y q ≤ c ∧ Sz (n + m) (x * q) ∧ Sz (n + m) (y * (1 - q)) := by
  have r := hq.rest q1
  have r1 : 1 - q ≤ 1 := by have := hq.lo; grind
  have p1 := hx.mul1 hq (by grind) q1
  have p2 := hy.mul1 r (by grind) r1
  have k1 := Rat.mul_nonneg (sub_nn xc) hq.lo
  have k2 := Rat.mul_nonneg (sub_nn yc) r.lo
  have le : bt x y q ≤ c := by unfold bt; grind
  exact ⟨p1.1.add p2.1 (by unfold bt at le; grind), le, p1.1, p2.1⟩
theorem toF_ok {q : Rat} (u : Ru) (h : a.ok n) (hq : Sz m q) (q1 : q ≤ 1) : (toF u a q).ok (n + 1 + m) := by
  have r := ruF_ok u h
  have e : (ruF u a).c = a.c := by cases u <;> rfl
  have rr := r.rc
  have rg := r.gc
  have rb := r.bc
  rw [e] at rr rg rb
  have p1 := bt_ok r.r (h.r.up (by omega)) hq rr h.rc h.c1 q1
  have p2 := bt_ok r.g (h.g.up (by omega)) hq rg h.gc h.c1 q1
  have p3 := bt_ok r.b (h.b.up (by omega)) hq rb h.bc h.c1 q1
  exact ⟨h.c.up (by omega), p1.1, p2.1, p3.1, h.c1, p1.2.1, p2.2.1, p3.2.1⟩
end
structure HTo (P : Prog) : Prop where
  sp : HSp P
  between : P.defs.lookup ("between" : Str) = some f_between
  by_rule : P.defs.lookup ("by_rule" : Str) = some f_by_rule
  toned : P.defs.lookup ("toned" : Str) = some f_toned
section
variable {P : Prog} {a : Sp} {n m : Nat}
theorem p_between (H : HTo P) {x y q c : Rat} (hx : Sz n x) (hy : Sz n y) (hq : Sz m q) (xc : x ≤ c) (yc : y ≤ c) (c1 : c ≤ 1) (q1 : q ≤ 1) (hz : n + m ≤ 220) : Run P 5 "between" [shD x, shD y, shD q] (.fr (shD (bt x y q))) := by
  refine Run.of H.between rfl fun m' S hm => ?_
  have b := bt_ok hx hy hq xc yc c1 q1
  have e0 := p_rest H.sp hq (by omega) m' S (by omega)
  have e1 := p_times H.sp hx hq (by omega) m' S (by omega)
  have e2 := p_times H.sp hy (hq.rest q1) (by omega) m' S (by omega)
  have e3 := p_plus H.sp b.2.2.1 b.2.2.2 (by omega) m' S (by omega)
  unfold f_between entry bt
  simp [Gz.evSs, Gz.evS, Gz.evE, Gz.evEs, Gz.evXs, Gz.evT, Gz.slotRv, Gz.Out.bind, Gz.Out.st, Gz.Out.toO, Gz.Out.calm, Gz.ofOpt, Gz.Op2.ev, Gz.Cm.ev, Gz.Rv.hold, Gz.Rv.cell, Gz.SO.then_, Gz.setE, Gz.itEv, Gz.lcLoop, Gz.forLoop, Gz.Tg.bind, Gz.bindL, Gz.wipeE, Gz.Bi.ev, Gz.idx_tup, Gz.idx_lst, Gz.idx_scr, Gz.sl_tL, Gz.sl_tU, Gz.sl_tB, Gz.sl_lL, Gz.sl_lU, Gz.sl_lB, Gz.D.toInt, Gz.truthR, Gz.D.truth, Gz.lim, Gz.atD_0, Gz.atD_1, Gz.atD_2, Gz.atD_3, Gz.atD_4, Gz.atD_5, Gz.atD_6, Gz.atD_7, Gz.atD_8, Gz.cut_lo1, Gz.cut_hi1, Gz.cut_hi2, Gz.cut_hi4, Gz.cut_hi5, Gz.gixEv, e0, e1, e2, e3]
theorem p_by_rule (H : HTo P) (u : Ru) (h : a.ok n) (hz : n ≤ 220) : Run P 4 "by_rule" [.str u.s, spD a] (.fr (spD (ruF u a))) := by
  refine Run.of H.by_rule rfl fun m' S hm => ?_
  unfold f_by_rule entry spD
  cases u with
  | turn =>
    have e1 := p_less H.sp h.c h.r (by omega) m' S (by omega)
    have e2 := p_less H.sp h.c h.g (by omega) m' S (by omega)
    have e3 := p_less H.sp h.c h.b (by omega) m' S (by omega)
    simp [Gz.evSs, Gz.evS, Gz.evE, Gz.evEs, Gz.evXs, Gz.evT, Gz.slotRv, Gz.Out.bind, Gz.Out.st, Gz.Out.toO, Gz.Out.calm, Gz.ofOpt, Gz.Op2.ev, Gz.Cm.ev, Gz.Rv.hold, Gz.Rv.cell, Gz.SO.then_, Gz.setE, Gz.itEv, Gz.lcLoop, Gz.forLoop, Gz.Tg.bind, Gz.bindL, Gz.wipeE, Gz.Bi.ev, Gz.idx_tup, Gz.idx_lst, Gz.idx_scr, Gz.sl_tL, Gz.sl_tU, Gz.sl_tB, Gz.sl_lL, Gz.sl_lU, Gz.sl_lB, Gz.D.toInt, Gz.truthR, Gz.D.truth, Gz.lim, Gz.atD_0, Gz.atD_1, Gz.atD_2, Gz.atD_3, Gz.atD_4, Gz.atD_5, Gz.atD_6, Gz.atD_7, Gz.atD_8, Gz.cut_lo1, Gz.cut_hi1, Gz.cut_hi2, Gz.cut_hi4, Gz.cut_hi5, Gz.gixEv, ru_turn, ru_round, ruF, e1, e2, e3]
  | grey =>
    obtain ⟨s1, s2, s3⟩ := grey_sums h
    have e1 := p_plus H.sp h.g h.b (by omega) m' S (by omega)
    have e2 := p_plus H.sp h.r s1 (by omega) m' S (by omega)
    have e3 := p_times H.sp s2 third_ok.1 (by omega) m' S (by omega)
    simp [Gz.evSs, Gz.evS, Gz.evE, Gz.evEs, Gz.evXs, Gz.evT, Gz.slotRv, Gz.Out.bind, Gz.Out.st, Gz.Out.toO, Gz.Out.calm, Gz.ofOpt, Gz.Op2.ev, Gz.Cm.ev, Gz.Rv.hold, Gz.Rv.cell, Gz.SO.then_, Gz.setE, Gz.itEv, Gz.lcLoop, Gz.forLoop, Gz.Tg.bind, Gz.bindL, Gz.wipeE, Gz.Bi.ev, Gz.idx_tup, Gz.idx_lst, Gz.idx_scr, Gz.sl_tL, Gz.sl_tU, Gz.sl_tB, Gz.sl_lL, Gz.sl_lU, Gz.sl_lB, Gz.D.toInt, Gz.truthR, Gz.D.truth, Gz.lim, Gz.atD_0, Gz.atD_1, Gz.atD_2, Gz.atD_3, Gz.atD_4, Gz.atD_5, Gz.atD_6, Gz.atD_7, Gz.atD_8, Gz.cut_lo1, Gz.cut_hi1, Gz.cut_hi2, Gz.cut_hi4, Gz.cut_hi5, Gz.gixEv, ru_turn, ru_round, ruF, greyC, thirdD, e1, e2, e3]
  | round => simp [Gz.evSs, Gz.evS, Gz.evE, Gz.evEs, Gz.evXs, Gz.evT, Gz.slotRv, Gz.Out.bind, Gz.Out.st, Gz.Out.toO, Gz.Out.calm, Gz.ofOpt, Gz.Op2.ev, Gz.Cm.ev, Gz.Rv.hold, Gz.Rv.cell, Gz.SO.then_, Gz.setE, Gz.itEv, Gz.lcLoop, Gz.forLoop, Gz.Tg.bind, Gz.bindL, Gz.wipeE, Gz.Bi.ev, Gz.idx_tup, Gz.idx_lst, Gz.idx_scr, Gz.sl_tL, Gz.sl_tU, Gz.sl_tB, Gz.sl_lL, Gz.sl_lU, Gz.sl_lB, Gz.D.toInt, Gz.truthR, Gz.D.truth, Gz.lim, Gz.atD_0, Gz.atD_1, Gz.atD_2, Gz.atD_3, Gz.atD_4, Gz.atD_5, Gz.atD_6, Gz.atD_7, Gz.atD_8, Gz.cut_lo1, Gz.cut_hi1, Gz.cut_hi2, Gz.cut_hi4, Gz.cut_hi5, Gz.gixEv, ru_turn, ru_round, ruF]
theorem r_toned (H : HTo P) {q : Rat} (u : Ru) (h : a.ok n) (hq : Sz m q) (q1 : q ≤ 1) (hz : n + 1 + m ≤ 220) : Run P 6 "toned" [.str u.s, spD a, shD q] (.fr (spD (toF u a q))) := by
  refine Run.of H.toned rfl fun m' S hm => ?_
  have r := ruF_ok u h
  have e : (ruF u a).c = a.c := by cases u <;> rfl
  have rr := r.rc
  have rg := r.gc
  have rb := r.bc
  rw [e] at rr rg rb
  have e0 := p_by_rule H u h (by omega) m' S (by omega)
  have ec := p_between H (h.c.up (show n ≤ n + 1 by omega)) (h.c.up (show n ≤ n + 1 by omega)) hq (c := a.c) (by grind) (by grind) h.c1 q1 (by omega) m' S (by omega)
  have er := p_between H r.r (h.r.up (show n ≤ n + 1 by omega)) hq rr h.rc h.c1 q1 (by omega) m' S (by omega)
  have eg := p_between H r.g (h.g.up (show n ≤ n + 1 by omega)) hq rg h.gc h.c1 q1 (by omega) m' S (by omega)
  have eb := p_between H r.b (h.b.up (show n ≤ n + 1 by omega)) hq rb h.bc h.c1 q1 (by omega) m' S (by omega)
  rw [bt_self] at ec
  unfold f_toned entry toF
  unfold spD at e0 ⊢
  rw [e] at e0
  simp [Gz.evSs, Gz.evS, Gz.evE, Gz.evEs, Gz.evXs, Gz.evT, Gz.slotRv, Gz.Out.bind, Gz.Out.st, Gz.Out.toO, Gz.Out.calm, Gz.ofOpt, Gz.Op2.ev, Gz.Cm.ev, Gz.Rv.hold, Gz.Rv.cell, Gz.SO.then_, Gz.setE, Gz.itEv, Gz.lcLoop, Gz.forLoop, Gz.Tg.bind, Gz.bindL, Gz.wipeE, Gz.Bi.ev, Gz.idx_tup, Gz.idx_lst, Gz.idx_scr, Gz.sl_tL, Gz.sl_tU, Gz.sl_tB, Gz.sl_lL, Gz.sl_lU, Gz.sl_lB, Gz.D.toInt, Gz.truthR, Gz.D.truth, Gz.lim, Gz.atD_0, Gz.atD_1, Gz.atD_2, Gz.atD_3, Gz.atD_4, Gz.atD_5, Gz.atD_6, Gz.atD_7, Gz.atD_8, Gz.cut_lo1, Gz.cut_hi1, Gz.cut_hi2, Gz.cut_hi4, Gz.cut_hi5, Gz.gixEv, e0, ec, er, eg, eb]
end
end GzL
end -- GyD
section -- GyE
/-! GyE: the looks at a share, at a spot, asked about anything small. -/
namespace Gz
open PySem PySem.Spec PyProof.Rows
end Gz
namespace GzL
open PySem PySem.Spec PyProof.Rows L2 Gz
/-! ### whole numbers -/
theorem eqO_int (i j : Int) : eqO (.int i) (.int j) = some (decide (i = j)) := by
  unfold eqO
  simp [D.okq, D.eqb, instBEqOfDecidableEq]
  rfl
end GzL
end -- GyE
section -- GyF
/-! GyF: what is a share, a spot. -/
namespace GzL
open PySem PySem.Spec PyProof.Rows L2 Gz
end GzL
end -- GyF
section -- GyG
/-! GyG: both looks at a spot tell the same. -/
namespace GzL
open PySem PySem.Spec PyProof.Rows L2 Gz
theorem eqO_lnil {l : List D} (h : D.oks 59 l = true) : eqO (.lst l) (.lst []) = some l.isEmpty := by
  unfold eqO
  cases l with
  | nil => simp [D.okq, D.oks, D.eqb, D.eqs]
  | cons a l =>
    rw [D.oks, Bool.and_eq_true] at h
    simp [h.1, h.2, D.okq, D.oks, D.eqb, D.eqs]
end GzL
end -- GyG
section -- GyH
/-! GyH: spoilt things are nice. -/
namespace GzL
open PySem PySem.Spec PyProof.Rows L2 Gz
end GzL
end -- GyH
section -- GyI
set_option maxHeartbeats 4000000
/-! GyI: spoilt things are nice. -/
namespace Gz
open PySem PySem.Spec PyProof.Rows
end Gz
namespace GzL
open PySem PySem.Spec PyProof.Rows L2 Gz
theorem cut_sub {α : Type} (l : List α) (lo hi : Option Int) : (cut l lo hi).length ≤ l.length ∧ ∀ x ∈ cut l lo hi, x ∈ l := by
  unfold cut
  refine ⟨by rw [List.length_take, List.length_drop]; omega, fun x hx => List.mem_of_mem_drop (List.mem_of_mem_take hx)⟩
end GzL
end -- GyI
section -- GyJ
/-! GyJ: expressions, one rule each; comprehensions over lists of any length. -/
namespace Gz
open PySem PySem.Spec PyProof.Rows L2
section
variable (cl : Calls) (P : Prog) (env : Env) (S : Store)
theorem vE_gix (x : Str) (a : E) : evE cl P (.gix x a) env S = (evE cl P a env S).bind fun y S => ofOpt (gixEv P x y.d) S := by rw [evE]
theorem vE_bin (o : Op2) (a b : E) : evE cl P (.bin o a b) env S = (evE cl P a env S).bind fun x S => (evE cl P b env S).bind fun y S => ofOpt (o.ev x.d y.d) S := by rw [evE]
theorem vE_cmp (o : Cm) (a b : E) : evE cl P (.cmp o a b) env S = (evE cl P a env S).bind fun x S => (evE cl P b env S).bind fun y S => ofOpt ((o.ev x.d y.d).map fun b => .fr (.bl b)) S := by rw [evE]
theorem vE_chain (o o' : Cm) (a b c : E) : evE cl P (.chain o o' a b c) env S = (evE cl P a env S).bind fun x S => (evE cl P b env S).bind fun y S => (ofOpt (o.ev x.d y.d) S).bind fun t S => match t with
    | true => (evE cl P c env S).bind fun z S => ofOpt ((o'.ev y.d z.d).map fun b => .fr (.bl b)) S
    | false => .ok (.fr (.bl false)) S := by rw [evE] <;> rfl
theorem vE_not (a : E) : evE cl P (.not a) env S = (evE cl P a env S).bind fun x S => (truthR x S).bind fun t S => .ok (.fr (.bl !t)) S := by rw [evE]
theorem vE_and (a b : E) : evE cl P (.and a b) env S = (evE cl P a env S).bind fun x S => (truthR x S).bind fun t S => match t with
    | true => evE cl P b env S
    | false => .ok x S := by rw [evE] <;> rfl
theorem vE_or (a b : E) : evE cl P (.or a b) env S = (evE cl P a env S).bind fun x S => (truthR x S).bind fun t S => match t with
    | true => .ok x S
    | false => evE cl P b env S := by rw [evE] <;> rfl
theorem vE_ite (c a b : E) : evE cl P (.ite c a b) env S = (evE cl P c env S).bind fun x S => (truthR x S).bind fun t S => match t with
    | true => evE cl P a env S
    | false => evE cl P b env S := by rw [evE] <;> rfl
theorem vE_tup (es : Es) : evE cl P (.tup es) env S = (evEs cl P es env S).bind fun ds S => .ok (.fr (.tup ds)) S := by rw [evE]
theorem vE_lst (es : Es) : evE cl P (.lst es) env S = (evEs cl P es env S).bind fun ds S => .ok ⟨.lst ds, .own⟩ S := by rw [evE]
theorem vE_idx (a i : E) : evE cl P (.idx a i) env S = (evE cl P a env S).bind fun x S => (evE cl P i env S).bind fun y S => ofOpt ((idxEv x.d y.d).map Rv.fr) S := by rw [evE]
theorem vE_slL (a i : E) : evE cl P (.slL a i) env S = (evE cl P a env S).bind fun x S => (evE cl P i env S).bind fun y S => ofOpt (slEv x.d (some y.d) none) S := by rw [evE]
theorem vE_slU (a i : E) : evE cl P (.slU a i) env S = (evE cl P a env S).bind fun x S => (evE cl P i env S).bind fun y S => ofOpt (slEv x.d none (some y.d)) S := by rw [evE]
theorem vE_isi (t : Ty) (a : E) : evE cl P (.isi t a) env S = (evE cl P a env S).bind fun x S => ofOpt ((t.ev x.d).map fun b => .fr (.bl b)) S := by rw [evE]
end
theorem then_nx (env : Env) (S : Store) (f : Env → Store → SO) : (SO.nx env S).then_ f = f env S := by cases S <;> rfl
theorem then_rt (r : Rv) (S : Store) (f : Env → Store → SO) : (SO.rt r S).then_ f = .rt r S := by cases S <;> rfl
theorem then_ex (x : Str) (env : Env) (S : Store) (f : Env → Store → SO) : (SO.ex x env S).then_ f = .ex x env S := by cases S <;> rfl
theorem bind_ok {α β : Type} (a : α) (S : Store) (f : α → Store → Out β) : (Out.ok a S).bind f = f a S := by cases S <;> rfl
theorem bind_exc {α β : Type} (x : Str) (S : Store) (f : α → Store → Out β) : (Out.exc x S : Out α).bind f = .exc x S := by cases S <;> rfl
theorem st_ok {α : Type} (a : α) (S : Store) (env : Env) (f : α → Store → SO) : (Out.ok a S).st env f = f a S := by cases S <;> rfl
theorem st_exc {α : Type} (x : Str) (S : Store) (env : Env) (f : α → Store → SO) : (Out.exc x S : Out α).st env f = .ex x env S := by cases S <;> rfl
theorem toO_some {α : Type} (a : α) (f : α → SO) : Out.toO (some a) f = f a := by
  cases h : f a <;> exact h
theorem ofOpt_some {α : Type} (a : α) (S : Store) : ofOpt (some a) S = .ok a S := by cases S <;> rfl
theorem bind_one (i : Nat) (env : Env) (d : D) : (Tg.one i).bind env d = some (setE env i (.fr d)) := by cases d <;> rfl
theorem hold_fr (d : D) : (Rv.fr d).hold = some d := by cases d <;> rfl
theorem hold_own (d : D) : (Rv.mk d .own).hold = some d := by cases d <;> rfl
theorem lc_fm {cl : Calls} {P : Prog} {vs : List (Str × Nat)} {tg : Tg} {k : Ik} {it cs : Es} {elt : E} {env : Env} {S : Store} {xs ds : List D} {g : D → Option D} (h1 : evXs cl P it env S = .ok xs S) (h2 : itEv k xs = some ds) (h3 : ds.length ≤ lim)
    (h4 : ∀ d ∈ ds, lcF cl P vs tg cs elt env d S = .ok (g d) S) : evE cl P (.lc vs tg k it cs elt) env S = .ok ⟨.lst (ds.filterMap g), .own⟩ S := by
  rw [vE_lc, h1]
  simp only [Out.bind]
  rw [h2]
  simp only [ofOpt]
  rw [if_pos h3, lcLoop_fm h4]
  rfl
theorem lc_map {cl : Calls} {P : Prog} {vs : List (Str × Nat)} {tg : Tg} {k : Ik} {it cs : Es} {elt : E} {env : Env} {S : Store} {xs ds : List D} {g : D → D} (h1 : evXs cl P it env S = .ok xs S) (h2 : itEv k xs = some ds) (h3 : ds.length ≤ lim)
    (h4 : ∀ d ∈ ds, lcF cl P vs tg cs elt env d S = .ok (some (g d)) S) : evE cl P (.lc vs tg k it cs elt) env S = .ok ⟨.lst (ds.map g), .own⟩ S := by
  rw [lc_fm (g := fun d => some (g d)) h1 h2 h3 h4, List.filterMap_eq_map']
theorem it_rng {n : Nat} (h : n ≤ 5000) : itEv .rng [.int (n : Int)] = some ((List.range n).map fun i => D.int ((i : Nat) : Int)) := by
  have e : lim = 16777216 := by unfold lim; rfl
  have h1 : ((n : Int) < (lim : Int)) := by rw [e]; omega
  have h2 : (-(lim : Int) < (n : Int)) := by rw [e]; omega
  unfold itEv
  show (if (decide ((n : Int) < (lim : Int)) && decide (-(lim : Int) < (n : Int))) = true then some ((List.range (n : Int).toNat).map fun (i : Nat) => D.int (i : Int)) else none) = _
  rw [decide_eq_true h1, decide_eq_true h2]
  rfl
theorem rng_len {n : Nat} (h : n ≤ 5000) : ((List.range n).map fun i => D.int ((i : Nat) : Int)).length ≤ lim := by
  have e : lim = 16777216 := by unfold lim; rfl
  rw [e, List.length_map, List.length_range]
  omega
end Gz
end -- GyJ
section -- HaA
set_option maxHeartbeats 4000000
/-! HaA: sheets. -/
namespace GzL
open PySem PySem.Spec PyProof.Rows L2 Gz
structure Sht where
  w : Nat
  h : Nat
  s : List Sp
  deriving DecidableEq
def shtD (t : Sht) : D := .tup [.int t.w, .int t.h, .tup (t.s.map spD)]
structure Sht.ok (n : Nat) (t : Sht) : Prop where
  len : t.s.length = t.w * t.h
  sp : ∀ a ∈ t.s, a.ok n
  w0 : 0 < t.w
  h0 : 0 < t.h
  w1 : t.w ≤ 8
  h1 : t.h ≤ 8
/-- the spot at a place, clear outside -/
def Sht.at (t : Sht) (x y : Int) : Sp := if 0 ≤ x ∧ x < t.w ∧ 0 ≤ y ∧ y < t.h then (t.s[(y * t.w + x).toNat]?).getD clr else clr
def mkSht (w h : Nat) (f : Nat → Nat → Sp) : Sht := ⟨w, h, (List.range (w * h)).map fun i => f (i % w) (i / w)⟩
structure HSt (P : Prog) : Prop where
  is_on : P.defs.lookup ("is_on" : Str) = some f_is_on
  spot_at : P.defs.lookup ("spot_at" : Str) = some f_spot_at
  clear : P.cons.lookup ("CLEAR" : Str) = some (spD clr)
theorem r_is_on {P : Prog} (H : HSt P) (w h x y : Int) : Run P 1 "is_on" [.int w, .int h, .int x, .int y] (.fr (.bl (decide (0 ≤ x ∧ x < w ∧ 0 ≤ y ∧ y < h)))) := by
  refine Run.of H.is_on rfl fun m' S hm => ?_
  unfold f_is_on entry
  by_cases h1 : 0 ≤ x <;> by_cases h2 : x < w <;> by_cases h3 : 0 ≤ y <;> by_cases h4 : y < h <;> simp [Gz.evSs, Gz.evS, Gz.evE, Gz.evEs, Gz.evXs, Gz.evT, Gz.slotRv, Gz.Out.bind, Gz.Out.st, Gz.Out.toO, Gz.Out.calm, Gz.ofOpt, Gz.Op2.ev, Gz.Cm.ev, Gz.Rv.hold, Gz.Rv.cell, Gz.SO.then_, Gz.setE, Gz.itEv, Gz.lcLoop, Gz.forLoop, Gz.Tg.bind, Gz.bindL, Gz.wipeE, Gz.Bi.ev, Gz.idx_tup, Gz.idx_lst, Gz.idx_scr, Gz.sl_tL, Gz.sl_tU, Gz.sl_tB, Gz.sl_lL, Gz.sl_lU, Gz.sl_lB, Gz.D.toInt, Gz.truthR, Gz.D.truth, Gz.lim, Gz.atD_0, Gz.atD_1, Gz.atD_2, Gz.atD_3, Gz.atD_4, Gz.atD_5, Gz.atD_6, Gz.atD_7, Gz.atD_8, Gz.cut_lo1, Gz.cut_hi1, Gz.cut_hi2, Gz.cut_hi4, Gz.cut_hi5, Gz.gixEv, h1, h2, h3, h4]
theorem r_spot_at {P : Prog} (H : HSt P) {t : Sht} {n : Nat} (ht : t.ok n) (x y : Int) : Run P 2 "spot_at" [shtD t, .int x, .int y] (.fr (spD (t.at x y))) := by
  refine Run.of H.spot_at rfl fun m' S hm => ?_
  have e0 := r_is_on H t.w t.h x y m' S (by omega)
  unfold f_spot_at entry shtD Sht.at
  by_cases c : 0 ≤ x ∧ x < t.w ∧ 0 ≤ y ∧ y < t.h
  · rw [decide_eq_true c] at e0
    rw [if_pos c]
    obtain ⟨c1, c2, c3, c4⟩ := c
    have hw := ht.w1
    have hh := ht.h1
    have b1 : y * t.w ≤ (t.h - 1) * t.w := Int.mul_le_mul_of_nonneg_right (by omega) (by omega)
    have b2 : ((t.h : Int) - 1) * t.w = t.w * t.h - t.w := by grind
    have b3 : 0 ≤ y * t.w := Int.mul_nonneg c3 (by omega)
    have hl := ht.len
    have hl' : (t.s.length : Int) = t.w * t.h := by rw [hl]; simp
    have hi : (y * t.w + x).toNat < t.s.length := by omega
    have m1 : okMul y t.w = true := okMul_of (a := 4) (b := 4) (by omega) (by omega) (by decide)
    have a1 : atD (t.s.map spD) (y * t.w + x) = some (spD ((t.s[(y * t.w + x).toNat]?).getD clr)) := by
      rw [atD_toNat _ _ (by omega), List.getElem?_map, List.getElem?_eq_getElem hi]
      rfl
    simp [Gz.evSs, Gz.evS, Gz.evE, Gz.evEs, Gz.evXs, Gz.evT, Gz.slotRv, Gz.Out.bind, Gz.Out.st, Gz.Out.toO, Gz.Out.calm, Gz.ofOpt, Gz.Op2.ev, Gz.Cm.ev, Gz.Rv.hold, Gz.Rv.cell, Gz.SO.then_, Gz.setE, Gz.itEv, Gz.lcLoop, Gz.forLoop, Gz.Tg.bind, Gz.bindL, Gz.wipeE, Gz.Bi.ev, Gz.idx_tup, Gz.idx_lst, Gz.idx_scr, Gz.sl_tL, Gz.sl_tU, Gz.sl_tB, Gz.sl_lL, Gz.sl_lU, Gz.sl_lB, Gz.D.toInt, Gz.truthR, Gz.D.truth, Gz.lim, Gz.atD_0, Gz.atD_1, Gz.atD_2, Gz.atD_3, Gz.atD_4, Gz.atD_5, Gz.atD_6, Gz.atD_7, Gz.atD_8, Gz.cut_lo1, Gz.cut_hi1, Gz.cut_hi2, Gz.cut_hi4, Gz.cut_hi5, Gz.gixEv, e0, m1, a1]
  · rw [decide_eq_false c] at e0
    rw [if_neg c]
    simp [Gz.evSs, Gz.evS, Gz.evE, Gz.evEs, Gz.evXs, Gz.evT, Gz.slotRv, Gz.Out.bind, Gz.Out.st, Gz.Out.toO, Gz.Out.calm, Gz.ofOpt, Gz.Op2.ev, Gz.Cm.ev, Gz.Rv.hold, Gz.Rv.cell, Gz.SO.then_, Gz.setE, Gz.itEv, Gz.lcLoop, Gz.forLoop, Gz.Tg.bind, Gz.bindL, Gz.wipeE, Gz.Bi.ev, Gz.idx_tup, Gz.idx_lst, Gz.idx_scr, Gz.sl_tL, Gz.sl_tU, Gz.sl_tB, Gz.sl_lL, Gz.sl_lU, Gz.sl_lB, Gz.D.toInt, Gz.truthR, Gz.D.truth, Gz.lim, Gz.atD_0, Gz.atD_1, Gz.atD_2, Gz.atD_3, Gz.atD_4, Gz.atD_5, Gz.atD_6, Gz.atD_7, Gz.atD_8, Gz.cut_lo1, Gz.cut_hi1, Gz.cut_hi2, Gz.cut_hi4, Gz.cut_hi5, Gz.gixEv, e0, H.clear]
end GzL
end -- HaA
section -- HaB
set_option maxHeartbeats 4000000
/-! HaB: places, parts of sheets. -/
namespace GzL
open PySem PySem.Spec PyProof.Rows L2 Gz
def plcs (w h : Nat) : List D := (List.range (w * h)).map fun i => .tup [.int ((i % w : Nat) : Int), .int ((i / w : Nat) : Int)]
theorem r_places {P : Prog} (hP : P.defs.lookup ("places" : Str) = some f_places) {w h : Nat} (w0 : 0 < w) (w1 : w ≤ 64) (h1 : h ≤ 64) : Run P 1 "places" [.int w, .int h] ⟨.lst (plcs w h), .own⟩ := by
  refine Run.of hP rfl fun m' S hm => ?_
  have m1 : okMul (w : Int) (h : Int) = true := okMul_of (a := 7) (b := 7) (by omega) (by omega) (by decide)
  have d1 : okDiv (w : Int) = true := okDiv_of (b := 7) (by omega) (by omega) (by decide)
  have b1 : w * h ≤ 64 * 64 := Nat.mul_le_mul w1 h1
  have hp : plcs w h = ((List.range (w * h)).map fun i => D.int ((i : Nat) : Int)).map fun d => match d with | .int i => .tup [.int (i % w), .int (i / w)] | _ => .non := by
    unfold plcs
    rw [List.map_map]
    congr 1
  rw [hp]
  unfold f_places entry
  simp only [vSs_cons, vS_ret]
  rw [lc_map (xs := [.int (((w * h : Nat)) : Int)]) (ds := (List.range (w * h)).map fun i => D.int ((i : Nat) : Int)) (g := fun d => match d with | .int i => .tup [.int (i % w), .int (i / w)] | _ => .non)]
  · simp [Gz.vSs_nil, Gz.vSs_cons, Gz.vS_asg, Gz.vS_asgO, Gz.vS_asgT, Gz.vS_par, Gz.vS_app, Gz.vS_ext, Gz.vS_ret, Gz.vS_retO, Gz.vS_ifs, Gz.vS_for, Gz.vS_expr, Gz.vS_pass, Gz.vS_frz, Gz.vS_rais, Gz.vS_try, Gz.vE_var, Gz.vE_int, Gz.vE_bl, Gz.vE_non, Gz.vE_str, Gz.vE_glob, Gz.vE_fnv, Gz.vE_call, Gz.vE_bi, Gz.vE_gix, Gz.vE_bin, Gz.vE_cmp, Gz.vE_chain, Gz.vE_not, Gz.vE_and, Gz.vE_or, Gz.vE_ite, Gz.vE_tup, Gz.vE_lst, Gz.vE_idx, Gz.vE_slL, Gz.vE_slU, Gz.vE_isi, Gz.vE_isx, Gz.vE_calle, Gz.evEs, Gz.evXs, Gz.slotRv, Gz.Out.bind, Gz.Out.st, Gz.Out.toO, Gz.ofOpt, Gz.Rv.hold, Gz.Rv.cell, Gz.SO.then_, Gz.setE, Gz.Tg.bind, Gz.bindL, Gz.truthR, Gz.D.truth]
  · simp [Gz.evSs, Gz.evS, Gz.evE, Gz.evEs, Gz.evXs, Gz.evT, Gz.slotRv, Gz.Out.bind, Gz.Out.st, Gz.Out.toO, Gz.Out.calm, Gz.ofOpt, Gz.Op2.ev, Gz.Cm.ev, Gz.Rv.hold, Gz.Rv.cell, Gz.SO.then_, Gz.setE, Gz.itEv, Gz.lcLoop, Gz.forLoop, Gz.Tg.bind, Gz.bindL, Gz.wipeE, Gz.Bi.ev, Gz.idx_tup, Gz.idx_lst, Gz.idx_scr, Gz.sl_tL, Gz.sl_tU, Gz.sl_tB, Gz.sl_lL, Gz.sl_lU, Gz.sl_lB, Gz.D.toInt, Gz.truthR, Gz.D.truth, Gz.lim, Gz.atD_0, Gz.atD_1, Gz.atD_2, Gz.atD_3, Gz.atD_4, Gz.atD_5, Gz.atD_6, Gz.atD_7, Gz.atD_8, Gz.cut_lo1, Gz.cut_hi1, Gz.cut_hi2, Gz.cut_hi4, Gz.cut_hi5, Gz.gixEv, m1]
  · exact it_rng (by omega)
  · exact rng_len (by omega)
  · intro d hd
    obtain ⟨i, _, rfl⟩ := List.mem_map.mp hd
    unfold lcF
    simp [Gz.evSs, Gz.evS, Gz.evE, Gz.evEs, Gz.evXs, Gz.evT, Gz.slotRv, Gz.Out.bind, Gz.Out.st, Gz.Out.toO, Gz.Out.calm, Gz.ofOpt, Gz.Op2.ev, Gz.Cm.ev, Gz.Rv.hold, Gz.Rv.cell, Gz.SO.then_, Gz.setE, Gz.itEv, Gz.lcLoop, Gz.forLoop, Gz.Tg.bind, Gz.bindL, Gz.wipeE, Gz.Bi.ev, Gz.idx_tup, Gz.idx_lst, Gz.idx_scr, Gz.sl_tL, Gz.sl_tU, Gz.sl_tB, Gz.sl_lL, Gz.sl_lU, Gz.sl_lB, Gz.D.toInt, Gz.truthR, Gz.D.truth, Gz.lim, Gz.atD_0, Gz.atD_1, Gz.atD_2, Gz.atD_3, Gz.atD_4, Gz.atD_5, Gz.atD_6, Gz.atD_7, Gz.atD_8, Gz.cut_lo1, Gz.cut_hi1, Gz.cut_hi2, Gz.cut_hi4, Gz.cut_hi5, Gz.gixEv, d1, w0]
end GzL
end -- HaB
section -- HaC
set_option maxHeartbeats 4000000
/-! HaC: parts of sheets, turned, mirrored. -/
namespace GzL
open PySem PySem.Spec PyProof.Rows L2 Gz
theorem mkShtD (w h : Nat) (f : Nat → Nat → Sp) : shtD (mkSht w h f) = .tup [.int w, .int h, .tup ((List.range (w * h)).map fun i => spD (f (i % w) (i / w)))] := by
  unfold shtD mkSht
  simp only [List.map_map]
  rfl
/-- a comprehension over items that are drawn from a list -/
theorem lc_of {α : Type} {cl : Calls} {P : Prog} {vs : List (Str × Nat)} {tg : Tg} {k : Ik} {it cs : Es} {elt : Gz.E} {env : Gz.Env} {S : Store} {xs : List D} {as : List α} {e g : α → D} (h1 : evXs cl P it env S = .ok xs S) (h2 : itEv k xs = some (as.map e)) (h3 : as.length ≤ lim)
    (h4 : ∀ a ∈ as, lcF cl P vs tg cs elt env (e a) S = .ok (some (g a)) S) : evE cl P (.lc vs tg k it cs elt) env S = .ok ⟨.lst (as.map g), .own⟩ S := by
  rw [vE_lc, h1]
  simp only [Out.bind]
  rw [h2]
  simp only [ofOpt]
  rw [if_pos (by rw [List.length_map]; exact h3)]
  have : ∀ (as : List α) (acc : List D), (∀ a ∈ as, lcF cl P vs tg cs elt env (e a) S = .ok (some (g a)) S) → lcLoop (lcF cl P vs tg cs elt env) (as.map e) acc S = .ok (acc ++ as.map g) S := by
    intro as
    induction as with
    | nil => intro acc _; simp [lcLoop]
    | cons a as ih =>
      intro acc h
      rw [List.map_cons]
      unfold lcLoop
      rw [h a (by simp)]
      simp only [Out.bind]
      rw [ih _ fun x hx => h x (by simp [hx])]
      simp
  rw [this as [] h4]
  rfl
def plE (w : Nat) (i : Nat) : D := .tup [.int ((i % w : Nat) : Int), .int ((i / w : Nat) : Int)]
theorem rng_lim {w h : Nat} (w1 : w ≤ 64) (h1 : h ≤ 64) : (List.range (w * h)).length ≤ lim := by
  have e : lim = 16777216 := by unfold lim; rfl
  have b1 : w * h ≤ 64 * 64 := Nat.mul_le_mul w1 h1
  rw [e, List.length_range]
  omega
/-! ### two sheets blended -/
def blSht (w : Mn) (a b : Sht) : Sht := ⟨a.w, a.h, (a.s.zip b.s).map fun p => blF w p.1 p.2⟩
def blP (w : Mn) (p : Sp × Sp) : D := spD (blF w p.1 p.2)
def pairD (p : Sp × Sp) : D := .tup [spD p.1, spD p.2]
theorem zip_pair (a b : List Sp) : ((a.map spD).zip (b.map spD)).map (fun p => D.tup [p.1, p.2]) = (a.zip b).map pairD := by
  rw [List.zip_map, List.map_map]
  rfl
theorem zip_ok {n m : Nat} {a b : List Sp} (ha : ∀ x ∈ a, x.ok n) (hb : ∀ x ∈ b, x.ok m) {p : Sp × Sp} (h : p ∈ a.zip b) : p.1.ok n ∧ p.2.ok m :=
  ⟨ha _ (List.of_mem_zip h).1, hb _ (List.of_mem_zip h).2⟩
theorem r_blended_sheets {P : Prog} (H : HBl P) (hP : P.defs.lookup ("blended_sheets" : Str) = some f_blended_sheets) {a b : Sht} {n m : Nat} (w : Mn) (ha : a.ok n) (hb : ∀ x ∈ b.s, x.ok m) (hz : n + m ≤ 220) :
    Run P 7 "blended_sheets" [.str w.s, shtD a, shtD b] (.fr (shtD (blSht w a b))) := by
  refine Run.of hP rfl fun m' S hm => ?_
  have hl : (a.s.zip b.s).length ≤ lim := by
    have e : lim = 16777216 := by unfold lim; rfl
    have b1 : a.w * a.h ≤ 8 * 8 := Nat.mul_le_mul ha.w1 ha.h1
    rw [List.length_zip, ha.len, e]
    omega
  have i2 : ∀ t : Sht, idxEv (shtD t) (.int 2) = some (.tup (t.s.map spD)) := fun t => rfl
  have i1 : ∀ t : Sht, idxEv (shtD t) (.int 1) = some (.int t.h) := fun t => rfl
  have i0 : ∀ t : Sht, idxEv (shtD t) (.int 0) = some (.int t.w) := fun t => rfl
  have hs : shtD (blSht w a b) = .tup [.int a.w, .int a.h, .tup ((a.s.zip b.s).map (blP w))] := by
    unfold shtD blSht
    rw [List.map_map]
    rfl
  rw [hs]
  unfold f_blended_sheets entry
  simp only [vSs_cons, vS_asg]
  rw [lc_of (xs := [.tup (a.s.map spD), .tup (b.s.map spD)]) (as := a.s.zip b.s) (e := pairD) (g := blP w)]
  · simp [Gz.vSs_nil, Gz.vSs_cons, Gz.vS_asg, Gz.vS_asgO, Gz.vS_asgT, Gz.vS_par, Gz.vS_app, Gz.vS_ext, Gz.vS_ret, Gz.vS_retO, Gz.vS_ifs, Gz.vS_for, Gz.vS_expr, Gz.vS_pass, Gz.vS_frz, Gz.vS_rais, Gz.vS_try, Gz.vE_var, Gz.vE_int, Gz.vE_bl, Gz.vE_non, Gz.vE_str, Gz.vE_glob, Gz.vE_fnv, Gz.vE_call, Gz.vE_bi, Gz.vE_gix, Gz.vE_bin, Gz.vE_cmp, Gz.vE_chain, Gz.vE_not, Gz.vE_and, Gz.vE_or, Gz.vE_ite, Gz.vE_tup, Gz.vE_lst, Gz.vE_idx, Gz.vE_slL, Gz.vE_slU, Gz.vE_isi, Gz.vE_isx, Gz.vE_calle, Gz.evEs, Gz.evXs, Gz.slotRv, Gz.Out.bind, Gz.Out.st, Gz.Out.toO, Gz.ofOpt, Gz.Rv.hold, Gz.Rv.cell, Gz.SO.then_, Gz.setE, Gz.Tg.bind, Gz.bindL, Gz.truthR, Gz.D.truth, i0, i1, Gz.Bi.ev]
  · simp [Gz.vSs_nil, Gz.vSs_cons, Gz.vS_asg, Gz.vS_asgO, Gz.vS_asgT, Gz.vS_par, Gz.vS_app, Gz.vS_ext, Gz.vS_ret, Gz.vS_retO, Gz.vS_ifs, Gz.vS_for, Gz.vS_expr, Gz.vS_pass, Gz.vS_frz, Gz.vS_rais, Gz.vS_try, Gz.vE_var, Gz.vE_int, Gz.vE_bl, Gz.vE_non, Gz.vE_str, Gz.vE_glob, Gz.vE_fnv, Gz.vE_call, Gz.vE_bi, Gz.vE_gix, Gz.vE_bin, Gz.vE_cmp, Gz.vE_chain, Gz.vE_not, Gz.vE_and, Gz.vE_or, Gz.vE_ite, Gz.vE_tup, Gz.vE_lst, Gz.vE_idx, Gz.vE_slL, Gz.vE_slU, Gz.vE_isi, Gz.vE_isx, Gz.vE_calle, Gz.evEs, Gz.evXs, Gz.slotRv, Gz.Out.bind, Gz.Out.st, Gz.Out.toO, Gz.ofOpt, Gz.Rv.hold, Gz.Rv.cell, Gz.SO.then_, Gz.setE, Gz.Tg.bind, Gz.bindL, Gz.truthR, Gz.D.truth, i2]
  · exact congrArg some (zip_pair a.s b.s)
  · exact hl
  · intro p hp
    obtain ⟨hp1, hp2⟩ := zip_ok ha.sp hb hp
    have e0 := r_blended H w hp1 hp2 hz m' S (by omega)
    unfold lcF pairD
    simp [Gz.evSs, Gz.evS, Gz.evE, Gz.evEs, Gz.evXs, Gz.evT, Gz.slotRv, Gz.Out.bind, Gz.Out.st, Gz.Out.toO, Gz.Out.calm, Gz.ofOpt, Gz.Op2.ev, Gz.Cm.ev, Gz.Rv.hold, Gz.Rv.cell, Gz.SO.then_, Gz.setE, Gz.itEv, Gz.lcLoop, Gz.forLoop, Gz.Tg.bind, Gz.bindL, Gz.wipeE, Gz.Bi.ev, Gz.idx_tup, Gz.idx_lst, Gz.idx_scr, Gz.sl_tL, Gz.sl_tU, Gz.sl_tB, Gz.sl_lL, Gz.sl_lU, Gz.sl_lB, Gz.D.toInt, Gz.truthR, Gz.D.truth, Gz.lim, Gz.atD_0, Gz.atD_1, Gz.atD_2, Gz.atD_3, Gz.atD_4, Gz.atD_5, Gz.atD_6, Gz.atD_7, Gz.atD_8, Gz.cut_lo1, Gz.cut_hi1, Gz.cut_hi2, Gz.cut_hi4, Gz.cut_hi5, Gz.gixEv, e0, blP]
end GzL
end -- HaC
section -- HaD
set_option maxHeartbeats 4000000
/-! HaD: the laws' own sheets; the looks at a sheet; loops that leave nothing. -/
namespace GzL
open PySem PySem.Spec PyProof.Rows L2 Gz
/-! ### the laws' own place -/
/-! ### a drawn sheet -/
def shtF (ns : List Int) (k : Int) (w h : Nat) : Sht := ⟨w, h, if drF ns (k + 7) 3 = 0 then List.replicate (w * h) (spF ns k) else (List.range (w * h)).map fun i : Nat => spF ns (k + 12 * (i : Int))⟩
theorem shtF_ok (ns : List Int) (k : Int) {w h : Nat} (w0 : 0 < w) (h0 : 0 < h) (w1 : w ≤ 8) (h1 : h ≤ 8) : (shtF ns k w h).ok 2 := by
  refine ⟨?_, ?_, w0, h0, w1, h1⟩
  · unfold shtF
    simp only
    split <;> simp
  · unfold shtF
    simp only
    intro a ha
    split at ha
    · rw [(List.mem_replicate.mp ha).2]
      exact spF_ok ns k
    · obtain ⟨i, _, rfl⟩ := List.mem_map.mp ha
      exact spF_ok ns _
theorem r_lsheet {P : Prog} (H : HLs P) (hP : P.defs.lookup ("_law_sheet" : Str) = some f__law_sheet) {ns : List Int} {k : Int} {w h : Nat} (k0 : 0 ≤ k) (k1 : k < 800000) (hl : ns.length ≤ 63) (w0 : 0 < w) (h0 : 0 < h) (w1 : w ≤ 8) (h1 : h ≤ 8) :
    Run P 5 "_law_sheet" [.scr ns, .int k, .int w, .int h] (.fr (shtD (shtF ns k w h))) := by
  refine Run.of hP rfl fun m' S hm => ?_
  have m1 : okMul (w : Int) (h : Int) = true := okMul_of (a := 4) (b := 4) (by omega) (by omega) (by decide)
  have b1 : w * h ≤ 8 * 8 := Nat.mul_le_mul w1 h1
  have b0 : 0 < w * h := Nat.mul_pos w0 h0
  have c1 : ((w : Int) * h) = ((w * h : Nat) : Int) := by simp
  have c2 : (-1000 : Int) ≤ ((w * h : Nat) : Int) := by omega
  have c3 : ((w * h : Nat) : Int) ≤ 1000 := by omega
  have e7 := r_drawn H.dr (ns := ns) (k := k + 7) (many := 3) (by omega) (by omega) hl (by decide) m' S (by omega)
  have fl : ∀ (k : Nat) (d : D), (List.replicate k [d]).flatten = List.replicate k d := fun k d => by
    induction k with
    | zero => rfl
    | succ k ih => rw [List.replicate_succ, List.flatten_cons, ih, List.replicate_succ]; rfl
  unfold f__law_sheet entry shtF shtD
  generalize hz : w * h = z at *
  simp only [vSs_cons, vS_asg]
  rw [lc_of (xs := [.int (z : Int)]) (as := List.range z) (e := fun i => .int (i : Int)) (g := fun i => spD (spF ns (k + 12 * (i : Int))))]
  · by_cases hd : drF ns (k + 7) 3 = 0
    · obtain ⟨z', rfl⟩ : ∃ z', z = z' + 1 := ⟨z - 1, by omega⟩
      rw [List.range_succ_eq_map, List.map_cons]
      generalize ((List.range z').map Nat.succ).map _ = rest
      have c2' : (-1000 : Int) ≤ (z' : Int) + 1 := by omega
      have c3' : (z' : Int) + 1 ≤ 1000 := by omega
      simp [Gz.vSs_nil, Gz.vSs_cons, Gz.vS_asg, Gz.vS_asgO, Gz.vS_asgT, Gz.vS_par, Gz.vS_app, Gz.vS_ext, Gz.vS_ret, Gz.vS_retO, Gz.vS_ifs, Gz.vS_for, Gz.vS_expr, Gz.vS_pass, Gz.vS_frz, Gz.vS_rais, Gz.vS_try, Gz.vE_var, Gz.vE_int, Gz.vE_bl, Gz.vE_non, Gz.vE_str, Gz.vE_glob, Gz.vE_fnv, Gz.vE_call, Gz.vE_bi, Gz.vE_gix, Gz.vE_bin, Gz.vE_cmp, Gz.vE_chain, Gz.vE_not, Gz.vE_and, Gz.vE_or, Gz.vE_ite, Gz.vE_tup, Gz.vE_lst, Gz.vE_idx, Gz.vE_slL, Gz.vE_slU, Gz.vE_isi, Gz.vE_isx, Gz.vE_calle, Gz.evEs, Gz.evXs, Gz.slotRv, Gz.Out.bind, Gz.Out.st, Gz.Out.toO, Gz.ofOpt, Gz.Rv.hold, Gz.Rv.cell, Gz.SO.then_, Gz.setE, Gz.Tg.bind, Gz.bindL, Gz.truthR, Gz.D.truth, Gz.Bi.ev, Gz.Op2.ev, Gz.Cm.ev, eqO_int, sl_lU, cut_hi1, e7, m1, c1, hd, fl, c2', c3', List.map_replicate]
    · simp [Gz.vSs_nil, Gz.vSs_cons, Gz.vS_asg, Gz.vS_asgO, Gz.vS_asgT, Gz.vS_par, Gz.vS_app, Gz.vS_ext, Gz.vS_ret, Gz.vS_retO, Gz.vS_ifs, Gz.vS_for, Gz.vS_expr, Gz.vS_pass, Gz.vS_frz, Gz.vS_rais, Gz.vS_try, Gz.vE_var, Gz.vE_int, Gz.vE_bl, Gz.vE_non, Gz.vE_str, Gz.vE_glob, Gz.vE_fnv, Gz.vE_call, Gz.vE_bi, Gz.vE_gix, Gz.vE_bin, Gz.vE_cmp, Gz.vE_chain, Gz.vE_not, Gz.vE_and, Gz.vE_or, Gz.vE_ite, Gz.vE_tup, Gz.vE_lst, Gz.vE_idx, Gz.vE_slL, Gz.vE_slU, Gz.vE_isi, Gz.vE_isx, Gz.vE_calle, Gz.evEs, Gz.evXs, Gz.slotRv, Gz.Out.bind, Gz.Out.st, Gz.Out.toO, Gz.ofOpt, Gz.Rv.hold, Gz.Rv.cell, Gz.SO.then_, Gz.setE, Gz.Tg.bind, Gz.bindL, Gz.truthR, Gz.D.truth, Gz.Bi.ev, Gz.Op2.ev, Gz.Cm.ev, eqO_int, e7, hd]
  · simp [Gz.vSs_nil, Gz.vSs_cons, Gz.vS_asg, Gz.vS_asgO, Gz.vS_asgT, Gz.vS_par, Gz.vS_app, Gz.vS_ext, Gz.vS_ret, Gz.vS_retO, Gz.vS_ifs, Gz.vS_for, Gz.vS_expr, Gz.vS_pass, Gz.vS_frz, Gz.vS_rais, Gz.vS_try, Gz.vE_var, Gz.vE_int, Gz.vE_bl, Gz.vE_non, Gz.vE_str, Gz.vE_glob, Gz.vE_fnv, Gz.vE_call, Gz.vE_bi, Gz.vE_gix, Gz.vE_bin, Gz.vE_cmp, Gz.vE_chain, Gz.vE_not, Gz.vE_and, Gz.vE_or, Gz.vE_ite, Gz.vE_tup, Gz.vE_lst, Gz.vE_idx, Gz.vE_slL, Gz.vE_slU, Gz.vE_isi, Gz.vE_isx, Gz.vE_calle, Gz.evEs, Gz.evXs, Gz.slotRv, Gz.Out.bind, Gz.Out.st, Gz.Out.toO, Gz.ofOpt, Gz.Rv.hold, Gz.Rv.cell, Gz.SO.then_, Gz.setE, Gz.Tg.bind, Gz.bindL, Gz.truthR, Gz.D.truth, Gz.Op2.ev, m1, c1]
  · exact it_rng (by omega)
  · have e : lim = 16777216 := by unfold lim; rfl
    rw [List.length_range, e]
    omega
  · intro i hi
    have hi := List.mem_range.mp hi
    have e1 := r_spot H (ns := ns) (k := k + 12 * (i : Int)) (by omega) (by omega) hl m' S (by omega)
    have m2 : okMul 12 (i : Int) = true := okMul_of (a := 4) (b := 7) (by decide) (by omega) (by decide)
    unfold lcF
    simp [Gz.evSs, Gz.evS, Gz.evE, Gz.evEs, Gz.evXs, Gz.evT, Gz.slotRv, Gz.Out.bind, Gz.Out.st, Gz.Out.toO, Gz.Out.calm, Gz.ofOpt, Gz.Op2.ev, Gz.Cm.ev, Gz.Rv.hold, Gz.Rv.cell, Gz.SO.then_, Gz.setE, Gz.itEv, Gz.lcLoop, Gz.forLoop, Gz.Tg.bind, Gz.bindL, Gz.wipeE, Gz.Bi.ev, Gz.idx_tup, Gz.idx_lst, Gz.idx_scr, Gz.sl_tL, Gz.sl_tU, Gz.sl_tB, Gz.sl_lL, Gz.sl_lU, Gz.sl_lB, Gz.D.toInt, Gz.truthR, Gz.D.truth, Gz.lim, Gz.atD_0, Gz.atD_1, Gz.atD_2, Gz.atD_3, Gz.atD_4, Gz.atD_5, Gz.atD_6, Gz.atD_7, Gz.atD_8, Gz.cut_lo1, Gz.cut_hi1, Gz.cut_hi2, Gz.cut_hi4, Gz.cut_hi5, Gz.gixEv, m2, e1]
/-! ### the looks -/
structure HIt (P : Prog) : Prop where
  is : HIs P
  most : P.cons.lookup ("MOST_SIDE" : Str) = some (.int 8)
  side : P.defs.lookup ("is_side" : Str) = some f_is_side
  sheet : P.defs.lookup ("is_sheet" : Str) = some f_is_sheet
theorem oks_of {n : Nat} : ∀ {l : List D}, (∀ d ∈ l, d.okq n = true) → D.oks n l = true
  | [], _ => by rw [D.oks]
  | d :: l, h => by
    rw [D.oks, h d (by simp), oks_of fun x hx => h x (by simp [hx])]
    rfl
/-! ### loops -/
theorem vS_for_of {cl : Calls} {P : Prog} {tg : Tg} {k : Ik} {it : Es} {b : Ss} {env : Gz.Env} {S : Store} {xs ds : List D} (h1 : evEs cl P it env S = .ok xs S) (h2 : itEv k xs = some ds) :
    evS cl P (.for_ tg k it b) env S = forLoop (fun d env S => Out.toO (tg.bind env d) fun env => evSs cl P b env S) ds env S := by
  rw [vS_for, h1]
  simp only [Out.st]
  rw [h2]
  rfl
/-! ### the same twice -/
theorem oks_sps {α : Type} (n : Nat) (f : α → Sp) (l : List α) : D.oks (n + 2) (l.map fun a => spD (f a)) = true := oks_of fun d hd => by
  obtain ⟨a, _, rfl⟩ := List.mem_map.mp hd
  exact okq_sp n _
theorem eqs_sps {α : Type} (f : α → Sp) : ∀ l : List α, D.eqs (l.map fun a => spD (f a)) (l.map fun a => spD (f a)) = true
  | [] => rfl
  | a :: l => by
    rw [List.map_cons, D.eqs, eqs_sps f l, eqb_sp]
    simp
theorem eqO_t {α : Type} (w h : Int) (l : List α) (f : α → Sp) : eqO (.tup [.int w, .int h, .tup (l.map fun a => spD (f a))]) (.tup [.int w, .int h, .tup (l.map fun a => spD (f a))]) = some true := by
  unfold eqO
  simp [D.okq, D.oks, D.eqb, D.eqs, oks_sps 56 f l, eqs_sps f l]
theorem eqO_sht (t : Sht) : eqO (shtD t) (shtD t) = some true := eqO_t t.w t.h t.s id
end GzL
end -- HaD
section -- HaE
set_option maxHeartbeats 4000000
/-! HaE: sorted spots; sheets place by place. -/
namespace GzL
open PySem PySem.Spec PyProof.Rows L2 Gz
/-! ### sorted -/
/-! ### place by place -/
theorem mk_ok {n w h : Nat} {f : Nat → Nat → Sp} (w0 : 0 < w) (h0 : 0 < h) (w1 : w ≤ 8) (h1 : h ≤ 8) (hf : ∀ x y, x < w → y < h → (f x y).ok n) : (mkSht w h f).ok n := by
  refine ⟨by simp [mkSht], fun a ha => ?_, w0, h0, w1, h1⟩
  obtain ⟨i, hi, rfl⟩ := List.mem_map.mp ha
  have hi := List.mem_range.mp hi
  exact hf _ _ (Nat.mod_lt _ w0) (by rw [Nat.div_lt_iff_lt_mul w0, Nat.mul_comm]; exact hi)
theorem at_ok {t : Sht} {n : Nat} (h : t.ok n) (x y : Int) : (t.at x y).ok n := by
  unfold Sht.at
  split
  · cases e : t.s[(y * t.w + x).toNat]? with
    | none => exact clr_ok.up (by omega)
    | some s =>
      exact h.sp s (List.mem_of_getElem? e)
  · exact clr_ok.up (by omega)
theorem mk_at {w h : Nat} {f : Nat → Nat → Sp} (x y : Int) : (mkSht w h f).at x y = if 0 ≤ x ∧ x < w ∧ 0 ≤ y ∧ y < h then f x.toNat y.toNat else clr := by
  unfold Sht.at mkSht
  split
  · rename_i c
    obtain ⟨c1, c2, c3, c4⟩ := c
    obtain ⟨a, rfl⟩ := Int.eq_ofNat_of_zero_le c1
    obtain ⟨b, rfl⟩ := Int.eq_ofNat_of_zero_le c3
    have c2 : (a : Int) < (w : Int) := c2
    have c4 : (b : Int) < (h : Int) := c4
    have ha : a < w := by omega
    have hb : b < h := by omega
    have e : ((b : Int) * (w : Int) + (a : Int)).toNat = b * w + a := by
      have : ((b : Int) * (w : Int) + (a : Int)) = ((b * w + a : Nat) : Int) := by simp
      rw [this]
      rfl
    have l : b * w + a < w * h := by
      have : (b + 1) * w ≤ h * w := Nat.mul_le_mul_right w hb
      rw [Nat.add_mul, Nat.one_mul] at this
      rw [Nat.mul_comm w h]
      omega
    show (((List.range (w * h)).map fun i => f (i % w) (i / w))[((b : Int) * (w : Int) + (a : Int)).toNat]?).getD clr = _
    rw [e, List.getElem?_map, List.getElem?_range l]
    show f ((b * w + a) % w) ((b * w + a) / w) = f a b
    rw [Nat.mul_comm, Nat.mul_add_mod, Nat.mod_eq_of_lt ha, Nat.mul_add_div (by omega), Nat.div_eq_of_lt ha, Nat.add_zero]
  · rfl
theorem mk_congr {w h : Nat} {f g : Nat → Nat → Sp} (e : ∀ x y, x < w → y < h → f x y = g x y) : mkSht w h f = mkSht w h g := by
  unfold mkSht
  congr 1
  refine List.map_congr_left fun i hi => ?_
  have hi := List.mem_range.mp hi
  rcases Nat.eq_zero_or_pos w with rfl | w0
  · simp at hi
  · exact e _ _ (Nat.mod_lt _ w0) (by rw [Nat.div_lt_iff_lt_mul w0, Nat.mul_comm]; exact hi)
/-! ### blended -/
theorem bls_ok {a b : Sht} {n m : Nat} (v : Mn) (ha : a.ok n) (hb : b.ok m) (hw : b.w = a.w) (hh : b.h = a.h) : (blSht v a b).ok (n + m) := by
  refine ⟨?_, fun x hx => ?_, ha.w0, ha.h0, ha.w1, ha.h1⟩
  · show ((a.s.zip b.s).map _).length = a.w * a.h
    rw [List.length_map, List.length_zip, ha.len, hb.len, hw, hh, Nat.min_self]
  · obtain ⟨p, hp, rfl⟩ := List.mem_map.mp hx
    obtain ⟨h1, h2⟩ := zip_ok ha.sp hb.sp hp
    exact blF_ok v h1 h2
/-! ### as often as it was -/
end GzL
end -- HaE
section -- HbA
set_option maxHeartbeats 4000000
/-! HbA: nodes, what they show. -/
namespace GzL
open PySem PySem.Spec PyProof.Rows L2 Gz
inductive Nd where
  | layer (nm : Str) (mn : Mn) (st : Rat) (sh : Bool) (l u : Int) (mask : Option (List Rat)) (s : Sht) (z : Nat)
  | tone (nm : Str) (ru : Ru) (st : Rat) (sh : Bool)
  | group (nm : Str) (mn : Mn) (st : Rat) (sh : Bool) (ns : List Nd)
def mskD : Option (List Rat) → D
  | none => .non
  | some l => .tup (l.map shD)
mutual
def ndD : Nd → D
  | .layer nm mn st sh l u mask s z => .tup [.str "layer", .str nm, .str mn.s, shD st, .bl sh, .int l, .int u, mskD mask, shtD s]
  | .tone nm ru st sh => .tup [.str "tone", .str nm, .str ru.s, shD st, .bl sh]
  | .group nm mn st sh ns => .tup [.str "group", .str nm, .str mn.s, shD st, .bl sh, .tup (ndsD ns)]
def ndsD : List Nd → List D
  | [] => []
  | n :: ns => ndD n :: ndsD ns
end
theorem ndsD_map : ∀ ns : List Nd, ndsD ns = ns.map ndD
  | [] => by rw [ndsD]; rfl
  | n :: ns => by rw [ndsD, ndsD_map ns]; rfl
def shOk (q : Rat) : Prop := Sz 1 q ∧ q ≤ 1
structure mskOk (mask : Option (List Rat)) (s : Sht) : Prop where
  len : ∀ l, mask = some l → l.length = s.w * s.h
  ok : ∀ l, mask = some l → ∀ q ∈ l, shOk q
mutual
/-- groups at most so deep -/
def Nd.wf : Nat → Nd → Prop
  | _, .layer _ _ st _ _ _ mask s z => shOk st ∧ s.ok z ∧ mskOk mask s
  | _, .tone _ _ st _ => shOk st
  | 0, .group _ _ _ _ _ => False
  | d + 1, .group _ _ st _ ns => shOk st ∧ Nd.wfs d ns
def Nd.wfs : Nat → List Nd → Prop
  | _, [] => True
  | d, n :: ns => Nd.wf d n ∧ Nd.wfs d ns
end
mutual
def Nd.wt : Nd → Nat
  | .layer _ _ _ _ _ _ _ _ z => z + 2
  | .tone _ _ _ _ => 2
  | .group _ _ _ _ ns => 1 + Nd.wts ns
def Nd.wts : List Nd → Nat
  | [] => 0
  | n :: ns => Nd.wt n + Nd.wts ns
end
/-- the mask's share at a place of its sheet -/
def mskAt (mask : Option (List Rat)) (s : Sht) (x y : Int) : Rat := match mask with
  | none => 1
  | some l => if 0 ≤ x ∧ x < s.w ∧ 0 ≤ y ∧ y < s.h then (l[(y * s.w + x).toNat]?).getD 1 else 1
mutual
/-- what is there with a node on what is below it -/
def Nd.onF : Nd → Int → Int → Sp → Sp
  | .layer _ mn st sh l u mask s z, x, y, b => if sh then blF mn (wtF (s.at (x - l) (y - u)) (mskAt mask s (x - l) (y - u) * st)) b else b
  | .tone _ ru st sh, _, _, b => if sh then toF ru b st else b
  | .group _ mn st sh ns, x, y, b => if sh then blF mn (wtF (shownF ns clr x y) st) b else b
def shownF : List Nd → Sp → Int → Int → Sp
  | [], s, _, _ => s
  | n :: ns, s, x, y => shownF ns (Nd.onF n x y s) x y
end
theorem msk_ok {mask : Option (List Rat)} {s : Sht} (h : mskOk mask s) (x y : Int) : shOk (mskAt mask s x y) := by
  have one : shOk 1 := ⟨Sz.one.up (by decide), by decide⟩
  unfold mskAt
  cases mask with
  | none => exact one
  | some l =>
    simp only
    split
    · cases e : l[(y * s.w + x).toNat]? with
      | none => exact one
      | some q => exact h.ok l rfl q (List.mem_of_getElem? e)
    · exact one
theorem br_ok {mask : Option (List Rat)} {s : Sht} {st : Rat} {z : Nat} (h1 : shOk st) (h2 : s.ok z) (h3 : mskOk mask s) (x y : Int) : Sz 2 (mskAt mask s x y * st) ∧ mskAt mask s x y * st ≤ 1 ∧ (wtF (s.at x y) (mskAt mask s x y * st)).ok (z + 2) := by
  obtain ⟨m1, m2⟩ := msk_ok h3 x y
  obtain ⟨k1, k2, k3⟩ := m1.mul1 h1.1 m2 h1.2
  have k4 : mskAt mask s x y * st ≤ 1 := by grind
  exact ⟨k1, k4, wtF_ok (at_ok h2 x y) k1 k4⟩
mutual
theorem on_ok : ∀ {d : Nat} {a : Nd} {n : Nat} {s : Sp} (x y : Int), a.wf d → s.ok n → (a.onF x y s).ok (n + a.wt)
  | d, .layer nm mn st sh l u mask sht z, n, s, x, y, h, hs => by
    have h : shOk st ∧ sht.ok z ∧ mskOk mask sht := by cases d <;> (rw [Nd.wf] at h; exact h)
    rw [Nd.onF, Nd.wt]
    cases sh with
    | true =>
      rw [if_pos rfl, Nat.add_comm]
      exact blF_ok mn (br_ok h.1 h.2.1 h.2.2 _ _).2.2 hs
    | false => exact hs.up (by omega)
  | d, .tone nm ru st sh, n, s, x, y, h, hs => by
    have h : shOk st := by cases d <;> (rw [Nd.wf] at h; exact h)
    rw [Nd.onF, Nd.wt]
    cases sh with
    | true =>
      rw [if_pos rfl]
      exact toF_ok ru hs h.1 h.2
    | false => exact hs.up (by omega)
  | 0, .group nm mn st sh ns, n, s, x, y, h, hs => by
    rw [Nd.wf] at h
    exact h.elim
  | d + 1, .group nm mn st sh ns, n, s, x, y, h, hs => by
    rw [Nd.wf] at h
    have k := shown_ok x y h.2 clr_ok
    rw [Nd.onF, Nd.wt]
    cases sh with
    | true =>
      rw [if_pos rfl]
      have := blF_ok mn (wtF_ok k h.1.1 h.1.2) hs
      exact this.up (by omega)
    | false => exact hs.up (by omega)
theorem shown_ok : ∀ {d : Nat} {ns : List Nd} {n : Nat} {s : Sp} (x y : Int), Nd.wfs d ns → s.ok n → (shownF ns s x y).ok (n + Nd.wts ns)
  | d, [], n, s, x, y, _, hs => by
    rw [shownF, Nd.wts]
    exact hs
  | d, a :: ns, n, s, x, y, h, hs => by
    rw [Nd.wfs] at h
    rw [shownF, Nd.wts, ← Nat.add_assoc]
    exact shown_ok x y h.2 (on_ok x y h.1 hs)
end
/-! ### words -/
theorem s_lg : eqO (.str "layer") (.str "group") = some false := by decide +kernel
theorem s_lt : eqO (.str "layer") (.str "tone") = some false := by decide +kernel
theorem s_gg : eqO (.str "group") (.str "group") = some true := by decide +kernel
theorem s_gt : eqO (.str "group") (.str "tone") = some false := by decide +kernel
theorem s_tg : eqO (.str "tone") (.str "group") = some false := by decide +kernel
theorem s_tt : eqO (.str "tone") (.str "tone") = some true := by decide +kernel
/-- going through nodes -/
theorem shown_for {Q : SO → Prop} {b : D → Gz.Env → Store → SO} {env : Gz.Env} {S : Store} {k : Gz.Env → Store → SO} {d B : Nat} {x y : Int} (E : Sp → Cell → Gz.Env) (hb : ∀ a s n c, Nd.wf d a → s.ok n → n + a.wt ≤ B → ∃ c', b (ndD a) (E s c) S = .nx (E (a.onF x y s) c') S) :
    ∀ {ns : List Nd} {s : Sp} {n : Nat} {c : Cell}, env = E s c → Nd.wfs d ns → s.ok n → n + Nd.wts ns ≤ B → (∀ c', Q (k (E (shownF ns s x y) c') S)) → Q ((forLoop b (ndsD ns) env S).then_ k) := by
  intro ns s n c he hw hs hB hk
  subst he
  have : ∀ (ns : List Nd) (s : Sp) (n : Nat) (c : Cell), Nd.wfs d ns → s.ok n → n + Nd.wts ns ≤ B → ∃ c', forLoop b (ndsD ns) (E s c) S = .nx (E (shownF ns s x y) c') S := by
    intro ns
    induction ns with
    | nil =>
      intro s n c _ _ _
      refine ⟨c, ?_⟩
      rw [ndsD, shownF]
      rfl
    | cons a ns ih =>
      intro s n c hw hs hB
      rw [Nd.wfs] at hw
      rw [Nd.wts] at hB
      obtain ⟨c1, h1⟩ := hb a s n c hw.1 hs (by omega)
      obtain ⟨c2, h2⟩ := ih (a.onF x y s) (n + a.wt) c1 hw.2 (on_ok x y hw.1 hs) (by omega)
      refine ⟨c2, ?_⟩
      rw [ndsD, shownF]
      unfold forLoop
      rw [h1]
      exact h2
  obtain ⟨c', h⟩ := this ns s n c hw hs hB
  rw [h]
  exact hk c'
end GzL
end -- HbA
section -- HbB
set_option maxHeartbeats 4000000
/-! HbB: what pictures show, run. -/
namespace GzL
open PySem PySem.Spec PyProof.Rows L2 Gz
structure HFl (P : Prog) : Prop where
  st : HSt P
  bl : HBl P
  to : HTo P
  weighted : P.defs.lookup ("weighted" : Str) = some f_weighted
  mask_at : P.defs.lookup ("mask_at" : Str) = some f_mask_at
  spot_of : P.defs.lookup ("spot_of" : Str) = some f_spot_of
  shown_on : P.defs.lookup ("shown_on" : Str) = some f_shown_on
  shown_by : P.defs.lookup ("shown_by" : Str) = some f_shown_by
theorem msk_ix {mask : Option (List Rat)} {s : Sht} {l : List Rat} {n : Nat} (hm : mskOk mask s) (e : mask = some l) (hs : s.ok n) {x y : Int} (c : 0 ≤ x ∧ x < s.w ∧ 0 ≤ y ∧ y < s.h) :
    okMul y s.w = true ∧ atD (l.map shD) (y * s.w + x) = some (shD (mskAt mask s x y)) := by
  obtain ⟨c1, c2, c3, c4⟩ := c
  have hw := hs.w1
  have hh := hs.h1
  have b1 : y * s.w ≤ (s.h - 1) * s.w := Int.mul_le_mul_of_nonneg_right (by omega) (by omega)
  have b2 : ((s.h : Int) - 1) * s.w = s.w * s.h - s.w := by grind
  have b3 : 0 ≤ y * s.w := Int.mul_nonneg c3 (by omega)
  have hl : (l.length : Int) = s.w * s.h := by rw [hm.len l e]; simp
  have hi : (y * s.w + x).toNat < l.length := by omega
  refine ⟨okMul_of (a := 4) (b := 4) (by omega) (by omega) (by decide), ?_⟩
  subst e
  unfold mskAt
  simp only
  rw [if_pos ⟨c1, c2, c3, c4⟩, atD_toNat _ _ (by omega), List.getElem?_map, List.getElem?_eq_getElem hi]
  rfl
theorem msk_out {mask : Option (List Rat)} {s : Sht} {x y : Int} (c : ¬ (0 ≤ x ∧ x < s.w ∧ 0 ≤ y ∧ y < s.h)) : mskAt mask s x y = 1 := by
  unfold mskAt
  cases mask with
  | none => rfl
  | some l => simp only; rw [if_neg c]
section
variable {P : Prog} (H : HFl P)
include H
theorem p_mask_at {nm : Str} {mn : Mn} {st : Rat} {sh : Bool} {l u : Int} {mask : Option (List Rat)} {s : Sht} {n z : Nat} (hs : s.ok n) (hm : mskOk mask s) (x y : Int) : Run P 2 "mask_at" [ndD (.layer nm mn st sh l u mask s z), .int x, .int y] (.fr (shD (mskAt mask s x y))) := by
  refine Run.of H.mask_at rfl fun m' S hm' => ?_
  have e0 := r_is_on H.st s.w s.h x y m' S (by omega)
  have x8 : idxEv (ndD (.layer nm mn st sh l u mask s z)) (.int 8) = some (.tup [.int s.w, .int s.h, .tup (s.s.map spD)]) := by rw [ndD]; rfl
  have x7 : idxEv (ndD (.layer nm mn st sh l u mask s z)) (.int 7) = some (mskD mask) := by rw [ndD]; rfl
  have all := H.bl.sp.all
  unfold f_mask_at entry
  cases mask with
  | none => simp [Gz.evSs, Gz.evS, Gz.evE, Gz.evEs, Gz.evXs, Gz.evT, Gz.slotRv, Gz.Out.bind, Gz.Out.st, Gz.Out.toO, Gz.Out.calm, Gz.ofOpt, Gz.Op2.ev, Gz.Cm.ev, Gz.Rv.hold, Gz.Rv.cell, Gz.SO.then_, Gz.setE, Gz.itEv, Gz.lcLoop, Gz.forLoop, Gz.Tg.bind, Gz.bindL, Gz.wipeE, Gz.Bi.ev, Gz.idx_tup, Gz.idx_lst, Gz.idx_scr, Gz.sl_tL, Gz.sl_tU, Gz.sl_tB, Gz.sl_lL, Gz.sl_lU, Gz.sl_lB, Gz.D.toInt, Gz.truthR, Gz.D.truth, Gz.lim, Gz.atD_0, Gz.atD_1, Gz.atD_2, Gz.atD_3, Gz.atD_4, Gz.atD_5, Gz.atD_6, Gz.atD_7, Gz.atD_8, Gz.cut_lo1, Gz.cut_hi1, Gz.cut_hi2, Gz.cut_hi4, Gz.cut_hi5, Gz.gixEv, x8, x7, mskD, all, mskAt]
  | some m =>
    by_cases c : 0 ≤ x ∧ x < s.w ∧ 0 ≤ y ∧ y < s.h
    · rw [decide_eq_true c] at e0
      obtain ⟨m1, a1⟩ := msk_ix hm rfl hs c
      simp [Gz.evSs, Gz.evS, Gz.evE, Gz.evEs, Gz.evXs, Gz.evT, Gz.slotRv, Gz.Out.bind, Gz.Out.st, Gz.Out.toO, Gz.Out.calm, Gz.ofOpt, Gz.Op2.ev, Gz.Cm.ev, Gz.Rv.hold, Gz.Rv.cell, Gz.SO.then_, Gz.setE, Gz.itEv, Gz.lcLoop, Gz.forLoop, Gz.Tg.bind, Gz.bindL, Gz.wipeE, Gz.Bi.ev, Gz.idx_tup, Gz.idx_lst, Gz.idx_scr, Gz.sl_tL, Gz.sl_tU, Gz.sl_tB, Gz.sl_lL, Gz.sl_lU, Gz.sl_lB, Gz.D.toInt, Gz.truthR, Gz.D.truth, Gz.lim, Gz.atD_0, Gz.atD_1, Gz.atD_2, Gz.atD_3, Gz.atD_4, Gz.atD_5, Gz.atD_6, Gz.atD_7, Gz.atD_8, Gz.cut_lo1, Gz.cut_hi1, Gz.cut_hi2, Gz.cut_hi4, Gz.cut_hi5, Gz.gixEv, x8, x7, mskD, e0, m1, a1]
    · rw [decide_eq_false c] at e0
      rw [msk_out c]
      simp [Gz.evSs, Gz.evS, Gz.evE, Gz.evEs, Gz.evXs, Gz.evT, Gz.slotRv, Gz.Out.bind, Gz.Out.st, Gz.Out.toO, Gz.Out.calm, Gz.ofOpt, Gz.Op2.ev, Gz.Cm.ev, Gz.Rv.hold, Gz.Rv.cell, Gz.SO.then_, Gz.setE, Gz.itEv, Gz.lcLoop, Gz.forLoop, Gz.Tg.bind, Gz.bindL, Gz.wipeE, Gz.Bi.ev, Gz.idx_tup, Gz.idx_lst, Gz.idx_scr, Gz.sl_tL, Gz.sl_tU, Gz.sl_tB, Gz.sl_lL, Gz.sl_lU, Gz.sl_lB, Gz.D.toInt, Gz.truthR, Gz.D.truth, Gz.lim, Gz.atD_0, Gz.atD_1, Gz.atD_2, Gz.atD_3, Gz.atD_4, Gz.atD_5, Gz.atD_6, Gz.atD_7, Gz.atD_8, Gz.cut_lo1, Gz.cut_hi1, Gz.cut_hi2, Gz.cut_hi4, Gz.cut_hi5, Gz.gixEv, x8, x7, mskD, e0, all]
theorem p_shown : ∀ (d : Nat) {ns : List Nd} (x y : Int), Nd.wfs d ns → Nd.wts ns ≤ 150 → Run P (8 + 3 * d) "shown_by" [.tup (ndsD ns), .int x, .int y] (.fr (spD (shownF ns clr x y)))
  | d, ns, x, y, hw, hB => by
    have on : ∀ {a : Nd} {s : Sp} {n : Nat}, a.wf d → s.ok n → n + a.wt ≤ 150 → Run P (7 + 3 * d) "shown_on" [ndD a, .int x, .int y, spD s] (.fr (spD (a.onF x y s))) := fun {a s n} ha hs hn => by
      refine (Run.of (k := 6 + 3 * d) H.shown_on rfl fun m' S hm => ?_).up (by omega)
      cases a with
      | layer nm mn st sh l u mask sht z =>
        have h : shOk st ∧ sht.ok z ∧ mskOk mask sht := by cases d <;> (rw [Nd.wf] at ha; exact ha)
        rw [Nd.wt] at hn
        have x4 : idxEv (ndD (.layer nm mn st sh l u mask sht z)) (.int 4) = some (.bl sh) := by rw [ndD]; rfl
        have x0 : idxEv (ndD (.layer nm mn st sh l u mask sht z)) (.int 0) = some (.str "layer") := by rw [ndD]; rfl
        have x2 : idxEv (ndD (.layer nm mn st sh l u mask sht z)) (.int 2) = some (.str mn.s) := by rw [ndD]; rfl
        obtain ⟨k1, k2, k3⟩ := br_ok h.1 h.2.1 h.2.2 (x - l) (y - u)
        have sp : Run P 6 "spot_of" [ndD (.layer nm mn st sh l u mask sht z), .int x, .int y] (.fr (spD (wtF (sht.at (x - l) (y - u)) (mskAt mask sht (x - l) (y - u) * st)))) := by
          refine Run.of H.spot_of rfl fun m' S hm => ?_
          have x5 : idxEv (ndD (.layer nm mn st sh l u mask sht z)) (.int 5) = some (.int l) := by rw [ndD]; rfl
          have x6 : idxEv (ndD (.layer nm mn st sh l u mask sht z)) (.int 6) = some (.int u) := by rw [ndD]; rfl
          have x8 : idxEv (ndD (.layer nm mn st sh l u mask sht z)) (.int 8) = some (shtD sht) := by rw [ndD]; rfl
          have x3 : idxEv (ndD (.layer nm mn st sh l u mask sht z)) (.int 3) = some (shD st) := by rw [ndD]; rfl
          have f1 := r_spot_at H.st h.2.1 (x - l) (y - u) m' S (by omega)
          have f2 := p_mask_at H (z := z) (nm := nm) (mn := mn) (st := st) (sh := sh) (l := l) (u := u) h.2.1 h.2.2 (x - l) (y - u) m' S (by omega)
          have f3 := p_times H.bl.sp (msk_ok h.2.2 (x - l) (y - u)).1 h.1.1 (by decide) m' S (by omega)
          have f4 := r_weighted H.bl.sp H.weighted (at_ok h.2.1 (x - l) (y - u)) k1 (by omega) m' S (by omega)
          unfold f_spot_of entry
          simp [Gz.evSs, Gz.evS, Gz.evE, Gz.evEs, Gz.evXs, Gz.evT, Gz.slotRv, Gz.Out.bind, Gz.Out.st, Gz.Out.toO, Gz.Out.calm, Gz.ofOpt, Gz.Op2.ev, Gz.Cm.ev, Gz.Rv.hold, Gz.Rv.cell, Gz.SO.then_, Gz.setE, Gz.itEv, Gz.lcLoop, Gz.forLoop, Gz.Tg.bind, Gz.bindL, Gz.wipeE, Gz.Bi.ev, Gz.idx_tup, Gz.idx_lst, Gz.idx_scr, Gz.sl_tL, Gz.sl_tU, Gz.sl_tB, Gz.sl_lL, Gz.sl_lU, Gz.sl_lB, Gz.D.toInt, Gz.truthR, Gz.D.truth, Gz.lim, Gz.atD_0, Gz.atD_1, Gz.atD_2, Gz.atD_3, Gz.atD_4, Gz.atD_5, Gz.atD_6, Gz.atD_7, Gz.atD_8, Gz.cut_lo1, Gz.cut_hi1, Gz.cut_hi2, Gz.cut_hi4, Gz.cut_hi5, Gz.gixEv, x0, x3, x5, x6, x8, s_lg, f1, f2, f3, f4]
        have f0 := sp m' S (by omega)
        unfold f_shown_on entry
        rw [Nd.onF]
        cases sh with
        | false => simp [Gz.evSs, Gz.evS, Gz.evE, Gz.evEs, Gz.evXs, Gz.evT, Gz.slotRv, Gz.Out.bind, Gz.Out.st, Gz.Out.toO, Gz.Out.calm, Gz.ofOpt, Gz.Op2.ev, Gz.Cm.ev, Gz.Rv.hold, Gz.Rv.cell, Gz.SO.then_, Gz.setE, Gz.itEv, Gz.lcLoop, Gz.forLoop, Gz.Tg.bind, Gz.bindL, Gz.wipeE, Gz.Bi.ev, Gz.idx_tup, Gz.idx_lst, Gz.idx_scr, Gz.sl_tL, Gz.sl_tU, Gz.sl_tB, Gz.sl_lL, Gz.sl_lU, Gz.sl_lB, Gz.D.toInt, Gz.truthR, Gz.D.truth, Gz.lim, Gz.atD_0, Gz.atD_1, Gz.atD_2, Gz.atD_3, Gz.atD_4, Gz.atD_5, Gz.atD_6, Gz.atD_7, Gz.atD_8, Gz.cut_lo1, Gz.cut_hi1, Gz.cut_hi2, Gz.cut_hi4, Gz.cut_hi5, Gz.gixEv, x4]
        | true =>
          have f1 := r_blended H.bl mn k3 hs (by omega) m' S (by omega)
          simp [Gz.evSs, Gz.evS, Gz.evE, Gz.evEs, Gz.evXs, Gz.evT, Gz.slotRv, Gz.Out.bind, Gz.Out.st, Gz.Out.toO, Gz.Out.calm, Gz.ofOpt, Gz.Op2.ev, Gz.Cm.ev, Gz.Rv.hold, Gz.Rv.cell, Gz.SO.then_, Gz.setE, Gz.itEv, Gz.lcLoop, Gz.forLoop, Gz.Tg.bind, Gz.bindL, Gz.wipeE, Gz.Bi.ev, Gz.idx_tup, Gz.idx_lst, Gz.idx_scr, Gz.sl_tL, Gz.sl_tU, Gz.sl_tB, Gz.sl_lL, Gz.sl_lU, Gz.sl_lB, Gz.D.toInt, Gz.truthR, Gz.D.truth, Gz.lim, Gz.atD_0, Gz.atD_1, Gz.atD_2, Gz.atD_3, Gz.atD_4, Gz.atD_5, Gz.atD_6, Gz.atD_7, Gz.atD_8, Gz.cut_lo1, Gz.cut_hi1, Gz.cut_hi2, Gz.cut_hi4, Gz.cut_hi5, Gz.gixEv, x4, x0, x2, s_lt, f0, f1]
      | tone nm ru st sh =>
        have h : shOk st := by cases d <;> (rw [Nd.wf] at ha; exact ha)
        rw [Nd.wt] at hn
        unfold f_shown_on entry
        rw [Nd.onF]
        cases sh with
        | false => simp [Gz.evSs, Gz.evS, Gz.evE, Gz.evEs, Gz.evXs, Gz.evT, Gz.slotRv, Gz.Out.bind, Gz.Out.st, Gz.Out.toO, Gz.Out.calm, Gz.ofOpt, Gz.Op2.ev, Gz.Cm.ev, Gz.Rv.hold, Gz.Rv.cell, Gz.SO.then_, Gz.setE, Gz.itEv, Gz.lcLoop, Gz.forLoop, Gz.Tg.bind, Gz.bindL, Gz.wipeE, Gz.Bi.ev, Gz.idx_tup, Gz.idx_lst, Gz.idx_scr, Gz.sl_tL, Gz.sl_tU, Gz.sl_tB, Gz.sl_lL, Gz.sl_lU, Gz.sl_lB, Gz.D.toInt, Gz.truthR, Gz.D.truth, Gz.lim, Gz.atD_0, Gz.atD_1, Gz.atD_2, Gz.atD_3, Gz.atD_4, Gz.atD_5, Gz.atD_6, Gz.atD_7, Gz.atD_8, Gz.cut_lo1, Gz.cut_hi1, Gz.cut_hi2, Gz.cut_hi4, Gz.cut_hi5, Gz.gixEv, ndD]
        | true =>
          have f1 := r_toned H.to ru hs h.1 h.2 (by omega) m' S (by omega)
          simp [Gz.evSs, Gz.evS, Gz.evE, Gz.evEs, Gz.evXs, Gz.evT, Gz.slotRv, Gz.Out.bind, Gz.Out.st, Gz.Out.toO, Gz.Out.calm, Gz.ofOpt, Gz.Op2.ev, Gz.Cm.ev, Gz.Rv.hold, Gz.Rv.cell, Gz.SO.then_, Gz.setE, Gz.itEv, Gz.lcLoop, Gz.forLoop, Gz.Tg.bind, Gz.bindL, Gz.wipeE, Gz.Bi.ev, Gz.idx_tup, Gz.idx_lst, Gz.idx_scr, Gz.sl_tL, Gz.sl_tU, Gz.sl_tB, Gz.sl_lL, Gz.sl_lU, Gz.sl_lB, Gz.D.toInt, Gz.truthR, Gz.D.truth, Gz.lim, Gz.atD_0, Gz.atD_1, Gz.atD_2, Gz.atD_3, Gz.atD_4, Gz.atD_5, Gz.atD_6, Gz.atD_7, Gz.atD_8, Gz.cut_lo1, Gz.cut_hi1, Gz.cut_hi2, Gz.cut_hi4, Gz.cut_hi5, Gz.gixEv, ndD, s_tt, f1]
      | group nm mn st sh ms =>
        cases d with
        | zero => rw [Nd.wf] at ha; exact ha.elim
        | succ d =>
          rw [Nd.wf] at ha
          rw [Nd.wt] at hn
          have x4 : idxEv (ndD (.group nm mn st sh ms)) (.int 4) = some (.bl sh) := by rw [ndD]; rfl
          have x0 : idxEv (ndD (.group nm mn st sh ms)) (.int 0) = some (.str "group") := by rw [ndD]; rfl
          have x2 : idxEv (ndD (.group nm mn st sh ms)) (.int 2) = some (.str mn.s) := by rw [ndD]; rfl
          have x3 : idxEv (ndD (.group nm mn st sh ms)) (.int 3) = some (shD st) := by rw [ndD]; rfl
          have x5 : idxEv (ndD (.group nm mn st sh ms)) (.int 5) = some (.tup (ndsD ms)) := by rw [ndD]; rfl
          have k := shown_ok x y ha.2 clr_ok
          have k3 := wtF_ok k ha.1.1 ha.1.2
          have sp : Run P (9 + 3 * d) "spot_of" [ndD (.group nm mn st sh ms), .int x, .int y] (.fr (spD (wtF (shownF ms clr x y) st))) := by
            refine (Run.of (k := 8 + 3 * d) H.spot_of rfl fun m' S hm => ?_).up (by omega)
            have f1 := p_shown d x y ha.2 (by omega) m' S (by omega)
            have f2 := r_weighted H.bl.sp H.weighted k ha.1.1 (by omega) m' S (by omega)
            unfold f_spot_of entry
            simp [Gz.evSs, Gz.evS, Gz.evE, Gz.evEs, Gz.evXs, Gz.evT, Gz.slotRv, Gz.Out.bind, Gz.Out.st, Gz.Out.toO, Gz.Out.calm, Gz.ofOpt, Gz.Op2.ev, Gz.Cm.ev, Gz.Rv.hold, Gz.Rv.cell, Gz.SO.then_, Gz.setE, Gz.itEv, Gz.lcLoop, Gz.forLoop, Gz.Tg.bind, Gz.bindL, Gz.wipeE, Gz.Bi.ev, Gz.idx_tup, Gz.idx_lst, Gz.idx_scr, Gz.sl_tL, Gz.sl_tU, Gz.sl_tB, Gz.sl_lL, Gz.sl_lU, Gz.sl_lB, Gz.D.toInt, Gz.truthR, Gz.D.truth, Gz.lim, Gz.atD_0, Gz.atD_1, Gz.atD_2, Gz.atD_3, Gz.atD_4, Gz.atD_5, Gz.atD_6, Gz.atD_7, Gz.atD_8, Gz.cut_lo1, Gz.cut_hi1, Gz.cut_hi2, Gz.cut_hi4, Gz.cut_hi5, Gz.gixEv, x0, x3, x5, s_gg, f1, f2]
          have f0 := sp m' S (by omega)
          unfold f_shown_on entry
          rw [Nd.onF]
          cases sh with
          | false => simp [Gz.evSs, Gz.evS, Gz.evE, Gz.evEs, Gz.evXs, Gz.evT, Gz.slotRv, Gz.Out.bind, Gz.Out.st, Gz.Out.toO, Gz.Out.calm, Gz.ofOpt, Gz.Op2.ev, Gz.Cm.ev, Gz.Rv.hold, Gz.Rv.cell, Gz.SO.then_, Gz.setE, Gz.itEv, Gz.lcLoop, Gz.forLoop, Gz.Tg.bind, Gz.bindL, Gz.wipeE, Gz.Bi.ev, Gz.idx_tup, Gz.idx_lst, Gz.idx_scr, Gz.sl_tL, Gz.sl_tU, Gz.sl_tB, Gz.sl_lL, Gz.sl_lU, Gz.sl_lB, Gz.D.toInt, Gz.truthR, Gz.D.truth, Gz.lim, Gz.atD_0, Gz.atD_1, Gz.atD_2, Gz.atD_3, Gz.atD_4, Gz.atD_5, Gz.atD_6, Gz.atD_7, Gz.atD_8, Gz.cut_lo1, Gz.cut_hi1, Gz.cut_hi2, Gz.cut_hi4, Gz.cut_hi5, Gz.gixEv, x4]
          | true =>
            have f1 := r_blended H.bl mn k3 hs (by omega) m' S (by omega)
            simp [Gz.evSs, Gz.evS, Gz.evE, Gz.evEs, Gz.evXs, Gz.evT, Gz.slotRv, Gz.Out.bind, Gz.Out.st, Gz.Out.toO, Gz.Out.calm, Gz.ofOpt, Gz.Op2.ev, Gz.Cm.ev, Gz.Rv.hold, Gz.Rv.cell, Gz.SO.then_, Gz.setE, Gz.itEv, Gz.lcLoop, Gz.forLoop, Gz.Tg.bind, Gz.bindL, Gz.wipeE, Gz.Bi.ev, Gz.idx_tup, Gz.idx_lst, Gz.idx_scr, Gz.sl_tL, Gz.sl_tU, Gz.sl_tB, Gz.sl_lL, Gz.sl_lU, Gz.sl_lB, Gz.D.toInt, Gz.truthR, Gz.D.truth, Gz.lim, Gz.atD_0, Gz.atD_1, Gz.atD_2, Gz.atD_3, Gz.atD_4, Gz.atD_5, Gz.atD_6, Gz.atD_7, Gz.atD_8, Gz.cut_lo1, Gz.cut_hi1, Gz.cut_hi2, Gz.cut_hi4, Gz.cut_hi5, Gz.gixEv, x4, x0, x2, s_gt, f0, f1]
    refine (Run.of (k := 7 + 3 * d) H.shown_by rfl fun m' S hm => ?_).up (by omega)
    have cl := H.st.clear
    unfold f_shown_by entry
    rw [vSs_cons]
    simp [Gz.vSs_nil, Gz.vS_asg, Gz.vS_asgO, Gz.vS_asgT, Gz.vS_par, Gz.vS_app, Gz.vS_ext, Gz.vS_ret, Gz.vS_retO, Gz.vS_ifs, Gz.vS_for, Gz.vS_expr, Gz.vS_pass, Gz.vS_frz, Gz.vS_rais, Gz.vS_try, Gz.vE_var, Gz.vE_int, Gz.vE_bl, Gz.vE_non, Gz.vE_str, Gz.vE_glob, Gz.vE_fnv, Gz.vE_call, Gz.vE_bi, Gz.vE_gix, Gz.vE_bin, Gz.vE_cmp, Gz.vE_chain, Gz.vE_not, Gz.vE_and, Gz.vE_or, Gz.vE_ite, Gz.vE_tup, Gz.vE_lst, Gz.vE_idx, Gz.vE_slL, Gz.vE_slU, Gz.vE_isi, Gz.vE_isx, Gz.vE_calle, Gz.evEs, Gz.evXs, Gz.slotRv, Gz.bind_ok, Gz.bind_exc, Gz.st_ok, Gz.st_exc, Gz.toO_some, Gz.ofOpt_some, Gz.hold_fr, Gz.hold_own, Gz.Rv.cell, Gz.bind_one, Gz.then_nx, Gz.then_rt, Gz.then_ex, Gz.setE, Gz.Tg.bind, Gz.bindL, Gz.truthR, Gz.D.truth, cl]
    rw [vSs_cons, vS_for_of (xs := [.tup (ndsD ns)]) (ds := ndsD ns) (by simp [Gz.vSs_nil, Gz.vS_asg, Gz.vS_asgO, Gz.vS_asgT, Gz.vS_par, Gz.vS_app, Gz.vS_ext, Gz.vS_ret, Gz.vS_retO, Gz.vS_ifs, Gz.vS_for, Gz.vS_expr, Gz.vS_pass, Gz.vS_frz, Gz.vS_rais, Gz.vS_try, Gz.vE_var, Gz.vE_int, Gz.vE_bl, Gz.vE_non, Gz.vE_str, Gz.vE_glob, Gz.vE_fnv, Gz.vE_call, Gz.vE_bi, Gz.vE_gix, Gz.vE_bin, Gz.vE_cmp, Gz.vE_chain, Gz.vE_not, Gz.vE_and, Gz.vE_or, Gz.vE_ite, Gz.vE_tup, Gz.vE_lst, Gz.vE_idx, Gz.vE_slL, Gz.vE_slU, Gz.vE_isi, Gz.vE_isx, Gz.vE_calle, Gz.evEs, Gz.evXs, Gz.slotRv, Gz.bind_ok, Gz.bind_exc, Gz.st_ok, Gz.st_exc, Gz.toO_some, Gz.ofOpt_some, Gz.hold_fr, Gz.hold_own, Gz.Rv.cell, Gz.bind_one, Gz.then_nx, Gz.then_rt, Gz.then_ex, Gz.setE, Gz.Tg.bind, Gz.bindL, Gz.truthR, Gz.D.truth]) rfl]
    refine Eq.symm (shown_for (x := x) (y := y) (d := d) (B := 150) (n := 0) (s := clr) (fun s c => [.fr (.tup (ndsD ns)), .fr (.int x), .fr (.int y), .fr (spD s), c]) (fun a s n c ha hs hn => ?_) rfl hw clr_ok (by omega) fun c' => ?_)
    · have f := on ha hs hn m' S (by omega)
      simp only [bind_one, toO_some]
      rw [vSs_cons]
      simp [Gz.vSs_nil, Gz.vS_asg, Gz.vS_asgO, Gz.vS_asgT, Gz.vS_par, Gz.vS_app, Gz.vS_ext, Gz.vS_ret, Gz.vS_retO, Gz.vS_ifs, Gz.vS_for, Gz.vS_expr, Gz.vS_pass, Gz.vS_frz, Gz.vS_rais, Gz.vS_try, Gz.vE_var, Gz.vE_int, Gz.vE_bl, Gz.vE_non, Gz.vE_str, Gz.vE_glob, Gz.vE_fnv, Gz.vE_call, Gz.vE_bi, Gz.vE_gix, Gz.vE_bin, Gz.vE_cmp, Gz.vE_chain, Gz.vE_not, Gz.vE_and, Gz.vE_or, Gz.vE_ite, Gz.vE_tup, Gz.vE_lst, Gz.vE_idx, Gz.vE_slL, Gz.vE_slU, Gz.vE_isi, Gz.vE_isx, Gz.vE_calle, Gz.evEs, Gz.evXs, Gz.slotRv, Gz.bind_ok, Gz.bind_exc, Gz.st_ok, Gz.st_exc, Gz.toO_some, Gz.ofOpt_some, Gz.hold_fr, Gz.hold_own, Gz.Rv.cell, Gz.bind_one, Gz.then_nx, Gz.then_rt, Gz.then_ex, Gz.setE, Gz.Tg.bind, Gz.bindL, Gz.truthR, Gz.D.truth, f]
    · rw [vSs_cons]
      simp [Gz.vSs_nil, Gz.vS_asg, Gz.vS_asgO, Gz.vS_asgT, Gz.vS_par, Gz.vS_app, Gz.vS_ext, Gz.vS_ret, Gz.vS_retO, Gz.vS_ifs, Gz.vS_for, Gz.vS_expr, Gz.vS_pass, Gz.vS_frz, Gz.vS_rais, Gz.vS_try, Gz.vE_var, Gz.vE_int, Gz.vE_bl, Gz.vE_non, Gz.vE_str, Gz.vE_glob, Gz.vE_fnv, Gz.vE_call, Gz.vE_bi, Gz.vE_gix, Gz.vE_bin, Gz.vE_cmp, Gz.vE_chain, Gz.vE_not, Gz.vE_and, Gz.vE_or, Gz.vE_ite, Gz.vE_tup, Gz.vE_lst, Gz.vE_idx, Gz.vE_slL, Gz.vE_slU, Gz.vE_isi, Gz.vE_isx, Gz.vE_calle, Gz.evEs, Gz.evXs, Gz.slotRv, Gz.bind_ok, Gz.bind_exc, Gz.st_ok, Gz.st_exc, Gz.toO_some, Gz.ofOpt_some, Gz.hold_fr, Gz.hold_own, Gz.Rv.cell, Gz.bind_one, Gz.then_nx, Gz.then_rt, Gz.then_ex, Gz.setE, Gz.Tg.bind, Gz.bindL, Gz.truthR, Gz.D.truth]
  termination_by d => d
end
structure HLf (P : Prog) : Prop where
  lb : HLb P
  lblend : P.defs.lookup ("_law_blend" : Str) = some f__law_blend
  tone : P.defs.lookup ("_law_tone" : Str) = some f__law_tone
  brought : P.defs.lookup ("_law_brought" : Str) = some f__law_brought
  shown : P.defs.lookup ("_law_shown" : Str) = some f__law_shown
section
variable {P : Prog} (H : HLf P)
include H
end
end GzL
end -- HbB
section -- HbC
set_option maxHeartbeats 4000000
/-! HbC: pictures, flat. -/
namespace GzL
open PySem PySem.Spec PyProof.Rows L2 Gz
structure Pic where
  w : Nat
  h : Nat
  ns : List Nd
def picD (p : Pic) : D := .tup [.int p.w, .int p.h, .tup (ndsD p.ns)]
structure Pic.ok (d : Nat) (p : Pic) : Prop where
  wf : Nd.wfs d p.ns
  wt : Nd.wts p.ns ≤ 150
  w0 : 0 < p.w
  h0 : 0 < p.h
  w1 : p.w ≤ 8
  h1 : p.h ≤ 8
def flatF (p : Pic) : Sht := mkSht p.w p.h fun x y => shownF p.ns clr x y
section
variable {P : Prog} {d : Nat}
theorem p_flat (H : HFl P) (hL : P.defs.lookup ("places" : Str) = some f_places) (hP : P.defs.lookup ("flat" : Str) = some f_flat) {p : Pic} (hp : p.ok d) : Run P (9 + 3 * d) "flat" [picD p] (.fr (shtD (flatF p))) := by
  refine (Run.of (k := 8 + 3 * d) hP rfl fun m' S hm => ?_).up (by omega)
  have e0 := r_places hL hp.w0 (by have := hp.w1; omega) (h := p.h) (by have := hp.h1; omega) m' S (by omega)
  have e1 := fun x y => p_shown H d x y hp.wf hp.wt m' S (by omega)
  unfold flatF
  rw [mkShtD]
  unfold f_flat entry picD
  rw [vSs_cons]
  simp [Gz.vSs_nil, Gz.vS_asg, Gz.vS_asgO, Gz.vS_asgT, Gz.vS_par, Gz.vS_app, Gz.vS_ext, Gz.vS_ret, Gz.vS_retO, Gz.vS_ifs, Gz.vS_for, Gz.vS_expr, Gz.vS_pass, Gz.vS_frz, Gz.vS_rais, Gz.vS_try, Gz.vE_var, Gz.vE_int, Gz.vE_bl, Gz.vE_non, Gz.vE_str, Gz.vE_glob, Gz.vE_fnv, Gz.vE_call, Gz.vE_bi, Gz.vE_gix, Gz.vE_bin, Gz.vE_cmp, Gz.vE_chain, Gz.vE_not, Gz.vE_and, Gz.vE_or, Gz.vE_ite, Gz.vE_tup, Gz.vE_lst, Gz.vE_idx, Gz.vE_slL, Gz.vE_slU, Gz.vE_isi, Gz.vE_isx, Gz.vE_calle, Gz.evEs, Gz.evXs, Gz.slotRv, Gz.bind_ok, Gz.bind_exc, Gz.st_ok, Gz.st_exc, Gz.toO_some, Gz.ofOpt_some, Gz.hold_fr, Gz.hold_own, Gz.Rv.cell, Gz.bind_one, Gz.then_nx, Gz.then_rt, Gz.then_ex, Gz.setE, Gz.Tg.bind, Gz.bindL, Gz.truthR, Gz.D.truth, Gz.bindL, Gz.Tg.bind]
  rw [vSs_cons, vS_ret, vE_tup]
  simp [Gz.vSs_nil, Gz.vS_asg, Gz.vS_asgO, Gz.vS_asgT, Gz.vS_par, Gz.vS_app, Gz.vS_ext, Gz.vS_ret, Gz.vS_retO, Gz.vS_ifs, Gz.vS_for, Gz.vS_expr, Gz.vS_pass, Gz.vS_frz, Gz.vS_rais, Gz.vS_try, Gz.vE_var, Gz.vE_int, Gz.vE_bl, Gz.vE_non, Gz.vE_str, Gz.vE_glob, Gz.vE_fnv, Gz.vE_call, Gz.vE_bi, Gz.vE_gix, Gz.vE_bin, Gz.vE_cmp, Gz.vE_chain, Gz.vE_not, Gz.vE_and, Gz.vE_or, Gz.vE_ite, Gz.vE_tup, Gz.vE_lst, Gz.vE_idx, Gz.vE_slL, Gz.vE_slU, Gz.vE_isi, Gz.vE_isx, Gz.vE_calle, Gz.evEs, Gz.evXs, Gz.slotRv, Gz.bind_ok, Gz.bind_exc, Gz.st_ok, Gz.st_exc, Gz.toO_some, Gz.ofOpt_some, Gz.hold_fr, Gz.hold_own, Gz.Rv.cell, Gz.bind_one, Gz.then_nx, Gz.then_rt, Gz.then_ex, Gz.setE, Gz.Tg.bind, Gz.bindL, Gz.truthR, Gz.D.truth]
  rw [lc_of (xs := [.lst (plcs p.w p.h)]) (as := List.range (p.w * p.h)) (e := plE p.w) (g := fun i => spD (shownF p.ns clr (((i % p.w : Nat)) : Int) (((i / p.w : Nat)) : Int)))]
  · simp [Gz.vSs_nil, Gz.vS_asg, Gz.vS_asgO, Gz.vS_asgT, Gz.vS_par, Gz.vS_app, Gz.vS_ext, Gz.vS_ret, Gz.vS_retO, Gz.vS_ifs, Gz.vS_for, Gz.vS_expr, Gz.vS_pass, Gz.vS_frz, Gz.vS_rais, Gz.vS_try, Gz.vE_var, Gz.vE_int, Gz.vE_bl, Gz.vE_non, Gz.vE_str, Gz.vE_glob, Gz.vE_fnv, Gz.vE_call, Gz.vE_bi, Gz.vE_gix, Gz.vE_bin, Gz.vE_cmp, Gz.vE_chain, Gz.vE_not, Gz.vE_and, Gz.vE_or, Gz.vE_ite, Gz.vE_tup, Gz.vE_lst, Gz.vE_idx, Gz.vE_slL, Gz.vE_slU, Gz.vE_isi, Gz.vE_isx, Gz.vE_calle, Gz.evEs, Gz.evXs, Gz.slotRv, Gz.bind_ok, Gz.bind_exc, Gz.st_ok, Gz.st_exc, Gz.toO_some, Gz.ofOpt_some, Gz.hold_fr, Gz.hold_own, Gz.Rv.cell, Gz.bind_one, Gz.then_nx, Gz.then_rt, Gz.then_ex, Gz.setE, Gz.Tg.bind, Gz.bindL, Gz.truthR, Gz.D.truth, Gz.Bi.ev]
  · simp [Gz.vSs_nil, Gz.vS_asg, Gz.vS_asgO, Gz.vS_asgT, Gz.vS_par, Gz.vS_app, Gz.vS_ext, Gz.vS_ret, Gz.vS_retO, Gz.vS_ifs, Gz.vS_for, Gz.vS_expr, Gz.vS_pass, Gz.vS_frz, Gz.vS_rais, Gz.vS_try, Gz.vE_var, Gz.vE_int, Gz.vE_bl, Gz.vE_non, Gz.vE_str, Gz.vE_glob, Gz.vE_fnv, Gz.vE_call, Gz.vE_bi, Gz.vE_gix, Gz.vE_bin, Gz.vE_cmp, Gz.vE_chain, Gz.vE_not, Gz.vE_and, Gz.vE_or, Gz.vE_ite, Gz.vE_tup, Gz.vE_lst, Gz.vE_idx, Gz.vE_slL, Gz.vE_slU, Gz.vE_isi, Gz.vE_isx, Gz.vE_calle, Gz.evEs, Gz.evXs, Gz.slotRv, Gz.bind_ok, Gz.bind_exc, Gz.st_ok, Gz.st_exc, Gz.toO_some, Gz.ofOpt_some, Gz.hold_fr, Gz.hold_own, Gz.Rv.cell, Gz.bind_one, Gz.then_nx, Gz.then_rt, Gz.then_ex, Gz.setE, Gz.Tg.bind, Gz.bindL, Gz.truthR, Gz.D.truth, e0]
  · rfl
  · exact rng_lim (by have := hp.w1; omega) (by have := hp.h1; omega)
  · intro i hi
    unfold lcF plE
    simp [Gz.evSs, Gz.evS, Gz.evE, Gz.evEs, Gz.evXs, Gz.evT, Gz.slotRv, Gz.Out.bind, Gz.Out.st, Gz.Out.toO, Gz.Out.calm, Gz.ofOpt, Gz.Op2.ev, Gz.Cm.ev, Gz.Rv.hold, Gz.Rv.cell, Gz.SO.then_, Gz.setE, Gz.itEv, Gz.lcLoop, Gz.forLoop, Gz.Tg.bind, Gz.bindL, Gz.wipeE, Gz.Bi.ev, Gz.idx_tup, Gz.idx_lst, Gz.idx_scr, Gz.sl_tL, Gz.sl_tU, Gz.sl_tB, Gz.sl_lL, Gz.sl_lU, Gz.sl_lB, Gz.D.toInt, Gz.truthR, Gz.D.truth, Gz.lim, Gz.atD_0, Gz.atD_1, Gz.atD_2, Gz.atD_3, Gz.atD_4, Gz.atD_5, Gz.atD_6, Gz.atD_7, Gz.atD_8, Gz.cut_lo1, Gz.cut_hi1, Gz.cut_hi2, Gz.cut_hi4, Gz.cut_hi5, Gz.gixEv, e1]
end
end GzL
end -- HbC
section -- HbD
set_option maxHeartbeats 4000000
/-! HbD: drawn names, leaves, nodes, pictures. -/
namespace GzL
open PySem PySem.Spec PyProof.Rows L2 Gz
/-! ### leaves -/
def ruAt (j : Int) : Ru := if j = 0 then .turn else if j = 1 then .grey else .round
def mnAt (j : Int) : Mn := if j = 0 then .over else if j = 1 then .multiply else if j = 2 then .screen else if j = 3 then .plus else if j = 4 then .atop else .cut
theorem ru_ix {j : Int} (h0 : 0 ≤ j) (h1 : j < 3) : idxEv (.lst [.str "turn", .str "grey", .str "round"]) (.int j) = some (.str (ruAt j).s) := by
  have : j = 0 ∨ j = 1 ∨ j = 2 := by omega
  rcases this with rfl | rfl | rfl <;> rfl
theorem mn_ix {j : Int} (h0 : 0 ≤ j) (h1 : j < 6) : idxEv (.lst [.str "over", .str "multiply", .str "screen", .str "plus", .str "atop", .str "cut"]) (.int j) = some (.str (mnAt j).s) := by
  have : j = 0 ∨ j = 1 ∨ j = 2 ∨ j = 3 ∨ j = 4 ∨ j = 5 := by omega
  rcases this with rfl | rfl | rfl | rfl | rfl | rfl <;> rfl
theorem mn_ix4 {j : Int} (h0 : 0 ≤ j) (h1 : j < 4) : idxEv (.lst [.str "over", .str "multiply", .str "screen", .str "plus"]) (.int j) = some (.str (mnAt j).s) := by
  have : j = 0 ∨ j = 1 ∨ j = 2 ∨ j = 3 := by omega
  rcases this with rfl | rfl | rfl | rfl <;> rfl
def leafF (ns : List Int) (k : Int) (nm : Str) (main : Mn) : Nd :=
  let st := shF ns k
  let sh := decide (0 < drF ns (k + 3) 6)
  if drF ns (k + 4) 6 = 0 then .tone nm (ruAt (drF ns (k + 5) 3)) st sh else
  let mn := if 0 < drF ns (k + 6) 3 then main else mnAt (drF ns (k + 5) 6)
  let w := (1 + drF ns (k + 7) 3).toNat
  let h := (1 + drF ns (k + 8) 3).toNat
  if drF ns (k + 12) 3 = 0 then .layer nm mn st sh 0 0 none (shtF ns (k + 50) 3 3) 2
  else .layer nm mn st sh (drF ns (k + 10) 4 - 1) (drF ns (k + 11) 4 - 1) (if drF ns (k + 9) 3 = 0 then some ((List.range (w * h)).map fun i : Nat => shF ns (k + 20 + 3 * (i : Int))) else none) (shtF ns (k + 50) w h) 2
theorem msk_none (s : Sht) : mskOk none s := ⟨(fun l e => by cases e), (fun l e => by cases e)⟩
theorem leaf_ok (ns : List Int) (k : Int) (nm : Str) (main : Mn) (d : Nat) : (leafF ns k nm main).wf d ∧ (leafF ns k nm main).wt ≤ 4 := by
  have so : shOk (shF ns k) := shF_ok ns k
  have d7 := drF_nonneg (ns := ns) (k := k + 7) (many := 3) (by decide)
  have d7' := drF_lt (ns := ns) (k := k + 7) (many := 3) (by decide)
  have d8 := drF_nonneg (ns := ns) (k := k + 8) (many := 3) (by decide)
  have d8' := drF_lt (ns := ns) (k := k + 8) (many := 3) (by decide)
  unfold leafF
  simp only
  generalize drF ns (k + 7) 3 = a at *
  generalize drF ns (k + 8) 3 = b at *
  split
  · exact ⟨by cases d <;> (rw [Nd.wf]; exact so), by rw [Nd.wt]; decide⟩
  · split
    · exact ⟨by cases d <;> (rw [Nd.wf]; exact ⟨so, shtF_ok ns _ (by decide) (by decide) (by decide) (by decide), msk_none _⟩), by rw [Nd.wt]; exact Nat.le_refl _⟩
    · have hm : mskOk (if drF ns (k + 9) 3 = 0 then some ((List.range ((1 + a).toNat * (1 + b).toNat)).map fun i : Nat => shF ns (k + 20 + 3 * (i : Int))) else none) (shtF ns (k + 50) (1 + a).toNat (1 + b).toNat) := by
        split
        · refine ⟨fun l e => ?_, fun l e q hq => ?_⟩
          · cases e
            rw [List.length_map, List.length_range]
            rfl
          · cases e
            obtain ⟨i, _, rfl⟩ := List.mem_map.mp hq
            exact shF_ok ns _
        · exact msk_none _
      exact ⟨by cases d <;> (rw [Nd.wf]; exact ⟨so, shtF_ok ns _ (by omega) (by omega) (by omega) (by omega), hm⟩), by rw [Nd.wt]; exact Nat.le_refl _⟩
structure HGe (P : Prog) : Prop where
  ls : HLs P
  lsheet : P.defs.lookup ("_law_sheet" : Str) = some f__law_sheet
  leaf : P.defs.lookup ("_law_leaf" : Str) = some f__law_leaf
theorem r_leaf {P : Prog} (H : HGe P) {ns : List Int} {k : Int} (k0 : 0 ≤ k) (k1 : k < 700000) (hl : ns.length ≤ 63) (nm : Str) (main : Mn) : Run P 6 "_law_leaf" [.scr ns, .int k, .str nm, .str main.s] (.fr (ndD (leafF ns k nm main))) := by
  refine Run.of H.leaf rfl fun m' S hm => ?_
  have e := fun (j many : Int) (j0 : 0 ≤ j) (j1 : j < 1000) (h0 : 0 < many) (h1 : many < 2000000) => r_drawn H.ls.dr (ns := ns) (k := k + j) (many := many) (by omega) (by omega) hl (by omega) m' S (by omega)
  have e0 := r_share H.ls (ns := ns) (k := k) k0 (by omega) hl m' S (by omega)
  have e3 := e 3 6 (by decide) (by decide) (by decide) (by decide)
  have e4 := e 4 6 (by decide) (by decide) (by decide) (by decide)
  have e5 := e 5 3 (by decide) (by decide) (by decide) (by decide)
  have e5' := e 5 6 (by decide) (by decide) (by decide) (by decide)
  have e6 := e 6 3 (by decide) (by decide) (by decide) (by decide)
  have e7 := e 7 3 (by decide) (by decide) (by decide) (by decide)
  have e8 := e 8 3 (by decide) (by decide) (by decide) (by decide)
  have e9 := e 9 3 (by decide) (by decide) (by decide) (by decide)
  have e10 := e 10 4 (by decide) (by decide) (by decide) (by decide)
  have e11 := e 11 4 (by decide) (by decide) (by decide) (by decide)
  have e12 := e 12 3 (by decide) (by decide) (by decide) (by decide)
  have i5 := ru_ix (drF_nonneg (ns := ns) (k := k + 5) (many := 3) (by decide)) (drF_lt (by decide))
  have i6 := mn_ix (drF_nonneg (ns := ns) (k := k + 5) (many := 6) (by decide)) (drF_lt (by decide))
  have d7 := drF_nonneg (ns := ns) (k := k + 7) (many := 3) (by decide)
  have d7' := drF_lt (ns := ns) (k := k + 7) (many := 3) (by decide)
  have d8 := drF_nonneg (ns := ns) (k := k + 8) (many := 3) (by decide)
  have d8' := drF_lt (ns := ns) (k := k + 8) (many := 3) (by decide)
  have s3 := r_lsheet H.ls H.lsheet (ns := ns) (k := k + 50) (w := 3) (h := 3) (by omega) (by omega) hl (by decide) (by decide) (by decide) (by decide) m' S (by omega)
  rw [show ((3 : Nat) : Int) = 3 from rfl] at s3
  obtain ⟨w, hw⟩ : ∃ w : Nat, 1 + drF ns (k + 7) 3 = (w : Int) := ⟨(1 + drF ns (k + 7) 3).toNat, by omega⟩
  obtain ⟨h, hh⟩ : ∃ h : Nat, 1 + drF ns (k + 8) 3 = (h : Int) := ⟨(1 + drF ns (k + 8) 3).toNat, by omega⟩
  have s1 := r_lsheet H.ls H.lsheet (ns := ns) (k := k + 50) (w := w) (h := h) (by omega) (by omega) hl (by omega) (by omega) (by omega) (by omega) m' S (by omega)
  have m1 : okMul (w : Int) (h : Int) = true := okMul_of (a := 4) (b := 4) (by omega) (by omega) (by decide)
  have b1 : w * h ≤ 3 * 3 := Nat.mul_le_mul (by omega) (by omega)
  have limE : lim = 16777216 := by unfold lim; rfl
  have esh : ∀ i : Nat, i < w * h → den P m' "_law_share" [.scr ns, .int (k + 20 + 3 * (i : Int))] S = .ok (.fr (shD (shF ns (k + 20 + 3 * (i : Int))))) S := fun i hi => r_share H.ls (by omega) (by omega) hl m' S (by omega)
  have o3 : ∀ i : Nat, i < w * h → okMul 3 (i : Int) = true := fun i hi => okMul_of (a := 2) (b := 4) (by decide) (by omega) (by decide)
  unfold leafF
  simp only
  rw [hw, hh]
  simp only [Int.toNat_natCast]
  generalize hq3 : decide (0 < drF ns (k + 3) 6) = q3 at *
  generalize drF ns (k + 4) 6 = q4 at *
  generalize drF ns (k + 6) 3 = q6 at *
  generalize drF ns (k + 9) 3 = q9 at *
  generalize drF ns (k + 10) 4 = q10 at *
  generalize drF ns (k + 11) 4 = q11 at *
  generalize drF ns (k + 12) 3 = q12 at *
  generalize mnAt (drF ns (k + 5) 6) = mn0 at *
  unfold f__law_leaf entry
  iterate 2 (rw [vSs_cons]; simp [Gz.vSs_nil, Gz.vS_asg, Gz.vS_asgO, Gz.vS_asgT, Gz.vS_par, Gz.vS_app, Gz.vS_ext, Gz.vS_ret, Gz.vS_retO, Gz.vS_ifs, Gz.vS_for, Gz.vS_expr, Gz.vS_pass, Gz.vS_frz, Gz.vS_rais, Gz.vS_try, Gz.vE_var, Gz.vE_int, Gz.vE_bl, Gz.vE_non, Gz.vE_str, Gz.vE_glob, Gz.vE_fnv, Gz.vE_call, Gz.vE_bi, Gz.vE_gix, Gz.vE_bin, Gz.vE_cmp, Gz.vE_chain, Gz.vE_not, Gz.vE_and, Gz.vE_or, Gz.vE_ite, Gz.vE_tup, Gz.vE_lst, Gz.vE_idx, Gz.vE_slL, Gz.vE_slU, Gz.vE_isi, Gz.vE_isx, Gz.vE_calle, Gz.evEs, Gz.evXs, Gz.slotRv, Gz.bind_ok, Gz.bind_exc, Gz.st_ok, Gz.st_exc, Gz.toO_some, Gz.ofOpt_some, Gz.hold_fr, Gz.hold_own, Gz.Rv.cell, Gz.bind_one, Gz.then_nx, Gz.then_rt, Gz.then_ex, Gz.setE, Gz.Tg.bind, Gz.bindL, Gz.truthR, Gz.D.truth, Gz.Op2.ev, Gz.Cm.ev, e0, e3, hq3])
  rw [vSs_cons]
  by_cases c4 : q4 = 0
  · rw [if_pos c4, ndD]
    simp [Gz.vSs_nil, Gz.vS_asg, Gz.vS_asgO, Gz.vS_asgT, Gz.vS_par, Gz.vS_app, Gz.vS_ext, Gz.vS_ret, Gz.vS_retO, Gz.vS_ifs, Gz.vS_for, Gz.vS_expr, Gz.vS_pass, Gz.vS_frz, Gz.vS_rais, Gz.vS_try, Gz.vE_var, Gz.vE_int, Gz.vE_bl, Gz.vE_non, Gz.vE_str, Gz.vE_glob, Gz.vE_fnv, Gz.vE_call, Gz.vE_bi, Gz.vE_gix, Gz.vE_bin, Gz.vE_cmp, Gz.vE_chain, Gz.vE_not, Gz.vE_and, Gz.vE_or, Gz.vE_ite, Gz.vE_tup, Gz.vE_lst, Gz.vE_idx, Gz.vE_slL, Gz.vE_slU, Gz.vE_isi, Gz.vE_isx, Gz.vE_calle, Gz.evEs, Gz.evXs, Gz.slotRv, Gz.bind_ok, Gz.bind_exc, Gz.st_ok, Gz.st_exc, Gz.toO_some, Gz.ofOpt_some, Gz.hold_fr, Gz.hold_own, Gz.Rv.cell, Gz.bind_one, Gz.then_nx, Gz.then_rt, Gz.then_ex, Gz.setE, Gz.Tg.bind, Gz.bindL, Gz.truthR, Gz.D.truth, Gz.vSs_cons, Gz.Op2.ev, Gz.Cm.ev, eqO_int, e4, c4, e5, i5]
  rw [if_neg c4]
  simp [Gz.vSs_nil, Gz.vS_asg, Gz.vS_asgO, Gz.vS_asgT, Gz.vS_par, Gz.vS_app, Gz.vS_ext, Gz.vS_ret, Gz.vS_retO, Gz.vS_ifs, Gz.vS_for, Gz.vS_expr, Gz.vS_pass, Gz.vS_frz, Gz.vS_rais, Gz.vS_try, Gz.vE_var, Gz.vE_int, Gz.vE_bl, Gz.vE_non, Gz.vE_str, Gz.vE_glob, Gz.vE_fnv, Gz.vE_call, Gz.vE_bi, Gz.vE_gix, Gz.vE_bin, Gz.vE_cmp, Gz.vE_chain, Gz.vE_not, Gz.vE_and, Gz.vE_or, Gz.vE_ite, Gz.vE_tup, Gz.vE_lst, Gz.vE_idx, Gz.vE_slL, Gz.vE_slU, Gz.vE_isi, Gz.vE_isx, Gz.vE_calle, Gz.evEs, Gz.evXs, Gz.slotRv, Gz.bind_ok, Gz.bind_exc, Gz.st_ok, Gz.st_exc, Gz.toO_some, Gz.ofOpt_some, Gz.hold_fr, Gz.hold_own, Gz.Rv.cell, Gz.bind_one, Gz.then_nx, Gz.then_rt, Gz.then_ex, Gz.setE, Gz.Tg.bind, Gz.bindL, Gz.truthR, Gz.D.truth, Gz.Op2.ev, Gz.Cm.ev, eqO_int, e4, c4]
  rw [vSs_cons]
  simp [Gz.vSs_nil, Gz.vS_asg, Gz.vS_asgO, Gz.vS_asgT, Gz.vS_par, Gz.vS_app, Gz.vS_ext, Gz.vS_ret, Gz.vS_retO, Gz.vS_ifs, Gz.vS_for, Gz.vS_expr, Gz.vS_pass, Gz.vS_frz, Gz.vS_rais, Gz.vS_try, Gz.vE_var, Gz.vE_int, Gz.vE_bl, Gz.vE_non, Gz.vE_str, Gz.vE_glob, Gz.vE_fnv, Gz.vE_call, Gz.vE_bi, Gz.vE_gix, Gz.vE_bin, Gz.vE_cmp, Gz.vE_chain, Gz.vE_not, Gz.vE_and, Gz.vE_or, Gz.vE_ite, Gz.vE_tup, Gz.vE_lst, Gz.vE_idx, Gz.vE_slL, Gz.vE_slU, Gz.vE_isi, Gz.vE_isx, Gz.vE_calle, Gz.evEs, Gz.evXs, Gz.slotRv, Gz.bind_ok, Gz.bind_exc, Gz.st_ok, Gz.st_exc, Gz.toO_some, Gz.ofOpt_some, Gz.hold_fr, Gz.hold_own, Gz.Rv.cell, Gz.bind_one, Gz.then_nx, Gz.then_rt, Gz.then_ex, Gz.setE, Gz.Tg.bind, Gz.bindL, Gz.truthR, Gz.D.truth, Gz.Op2.ev, e5', i6]
  rw [vSs_cons]
  have st6 : evS (den P m') P (.ifs (.cmp .gt (.call "_law_drawn" (.cons (.var 0) (.cons (.bin .add (.var 1) (.int 6)) (.cons (.int 3) .nil)))) (.int 0)) (.cons (.asg 6 (.var 3)) .nil) (.nil))
      [.fr (.scr ns), .fr (.int k), .fr (.str nm), .fr (.str main.s), .fr (shD (shF ns k)), .fr (.bl q3), .fr (.str mn0.s), .un, .un, .un, .un, .un, .un, .un] S =
      .nx [.fr (.scr ns), .fr (.int k), .fr (.str nm), .fr (.str main.s), .fr (shD (shF ns k)), .fr (.bl q3), .fr (.str (if 0 < q6 then main else mn0).s), .un, .un, .un, .un, .un, .un, .un] S := by
    by_cases c6 : 0 < q6 <;> simp [Gz.vSs_nil, Gz.vS_asg, Gz.vS_asgO, Gz.vS_asgT, Gz.vS_par, Gz.vS_app, Gz.vS_ext, Gz.vS_ret, Gz.vS_retO, Gz.vS_ifs, Gz.vS_for, Gz.vS_expr, Gz.vS_pass, Gz.vS_frz, Gz.vS_rais, Gz.vS_try, Gz.vE_var, Gz.vE_int, Gz.vE_bl, Gz.vE_non, Gz.vE_str, Gz.vE_glob, Gz.vE_fnv, Gz.vE_call, Gz.vE_bi, Gz.vE_gix, Gz.vE_bin, Gz.vE_cmp, Gz.vE_chain, Gz.vE_not, Gz.vE_and, Gz.vE_or, Gz.vE_ite, Gz.vE_tup, Gz.vE_lst, Gz.vE_idx, Gz.vE_slL, Gz.vE_slU, Gz.vE_isi, Gz.vE_isx, Gz.vE_calle, Gz.evEs, Gz.evXs, Gz.slotRv, Gz.bind_ok, Gz.bind_exc, Gz.st_ok, Gz.st_exc, Gz.toO_some, Gz.ofOpt_some, Gz.hold_fr, Gz.hold_own, Gz.Rv.cell, Gz.bind_one, Gz.then_nx, Gz.then_rt, Gz.then_ex, Gz.setE, Gz.Tg.bind, Gz.bindL, Gz.truthR, Gz.D.truth, Gz.vSs_cons, Gz.Op2.ev, Gz.Cm.ev, e6, c6]
  rw [st6, then_nx]
  generalize (if 0 < q6 then main else mn0) = mn at *
  iterate 3 (rw [vSs_cons]; simp [Gz.vSs_nil, Gz.vS_asg, Gz.vS_asgO, Gz.vS_asgT, Gz.vS_par, Gz.vS_app, Gz.vS_ext, Gz.vS_ret, Gz.vS_retO, Gz.vS_ifs, Gz.vS_for, Gz.vS_expr, Gz.vS_pass, Gz.vS_frz, Gz.vS_rais, Gz.vS_try, Gz.vE_var, Gz.vE_int, Gz.vE_bl, Gz.vE_non, Gz.vE_str, Gz.vE_glob, Gz.vE_fnv, Gz.vE_call, Gz.vE_bi, Gz.vE_gix, Gz.vE_bin, Gz.vE_cmp, Gz.vE_chain, Gz.vE_not, Gz.vE_and, Gz.vE_or, Gz.vE_ite, Gz.vE_tup, Gz.vE_lst, Gz.vE_idx, Gz.vE_slL, Gz.vE_slU, Gz.vE_isi, Gz.vE_isx, Gz.vE_calle, Gz.evEs, Gz.evXs, Gz.slotRv, Gz.bind_ok, Gz.bind_exc, Gz.st_ok, Gz.st_exc, Gz.toO_some, Gz.ofOpt_some, Gz.hold_fr, Gz.hold_own, Gz.Rv.cell, Gz.bind_one, Gz.then_nx, Gz.then_rt, Gz.then_ex, Gz.setE, Gz.Tg.bind, Gz.bindL, Gz.truthR, Gz.D.truth, Gz.Op2.ev, e7, e8, hw, hh])
  rw [vSs_cons]
  have st9 : evS (den P m') P (.ifs (.cmp .eq (.call "_law_drawn" (.cons (.var 0) (.cons (.bin .add (.var 1) (.int 9)) (.cons (.int 3) .nil)))) (.int 0)) (.cons (.asg 9 (.bi .tuple (.cons (.lc [("_law_k", 13)] (.one 13) .rng (.cons (.bin .mul (.var 7) (.var 8)) .nil) (.nil) (.call "_law_share" (.cons (.var 0) (.cons (.bin .add (.bin .add (.var 1) (.int 20)) (.bin .mul (.int 3) (.var 13))) .nil)))) .nil))) .nil) (.nil))
      [.fr (.scr ns), .fr (.int k), .fr (.str nm), .fr (.str main.s), .fr (shD (shF ns k)), .fr (.bl q3), .fr (.str mn.s), .fr (.int w), .fr (.int h), .fr .non, .un, .un, .un, .un] S =
      .nx [.fr (.scr ns), .fr (.int k), .fr (.str nm), .fr (.str main.s), .fr (shD (shF ns k)), .fr (.bl q3), .fr (.str mn.s), .fr (.int w), .fr (.int h), .fr (mskD (if q9 = 0 then some ((List.range (w * h)).map fun i : Nat => shF ns (k + 20 + 3 * (i : Int))) else none)), .un, .un, .un, .un] S := by
    by_cases c9 : q9 = 0
    · rw [if_pos c9]
      rw [vS_ifs]
      simp [Gz.vSs_nil, Gz.vS_asg, Gz.vS_asgO, Gz.vS_asgT, Gz.vS_par, Gz.vS_app, Gz.vS_ext, Gz.vS_ret, Gz.vS_retO, Gz.vS_ifs, Gz.vS_for, Gz.vS_expr, Gz.vS_pass, Gz.vS_frz, Gz.vS_rais, Gz.vS_try, Gz.vE_var, Gz.vE_int, Gz.vE_bl, Gz.vE_non, Gz.vE_str, Gz.vE_glob, Gz.vE_fnv, Gz.vE_call, Gz.vE_bi, Gz.vE_gix, Gz.vE_bin, Gz.vE_cmp, Gz.vE_chain, Gz.vE_not, Gz.vE_and, Gz.vE_or, Gz.vE_ite, Gz.vE_tup, Gz.vE_lst, Gz.vE_idx, Gz.vE_slL, Gz.vE_slU, Gz.vE_isi, Gz.vE_isx, Gz.vE_calle, Gz.evEs, Gz.evXs, Gz.slotRv, Gz.bind_ok, Gz.bind_exc, Gz.st_ok, Gz.st_exc, Gz.toO_some, Gz.ofOpt_some, Gz.hold_fr, Gz.hold_own, Gz.Rv.cell, Gz.bind_one, Gz.then_nx, Gz.then_rt, Gz.then_ex, Gz.setE, Gz.Tg.bind, Gz.bindL, Gz.truthR, Gz.D.truth, Gz.Op2.ev, Gz.Cm.ev, eqO_int, e9, c9]
      rw [vSs_cons, vS_asg, vE_bi]
      simp only [evXs]
      rw [lc_of (xs := [.int (((w * h : Nat)) : Int)]) (as := List.range (w * h)) (e := fun i => .int (i : Int)) (g := fun i => shD (shF ns (k + 20 + 3 * (i : Int))))]
      rotate_left
      · simp [Gz.vSs_nil, Gz.vS_asg, Gz.vS_asgO, Gz.vS_asgT, Gz.vS_par, Gz.vS_app, Gz.vS_ext, Gz.vS_ret, Gz.vS_retO, Gz.vS_ifs, Gz.vS_for, Gz.vS_expr, Gz.vS_pass, Gz.vS_frz, Gz.vS_rais, Gz.vS_try, Gz.vE_var, Gz.vE_int, Gz.vE_bl, Gz.vE_non, Gz.vE_str, Gz.vE_glob, Gz.vE_fnv, Gz.vE_call, Gz.vE_bi, Gz.vE_gix, Gz.vE_bin, Gz.vE_cmp, Gz.vE_chain, Gz.vE_not, Gz.vE_and, Gz.vE_or, Gz.vE_ite, Gz.vE_tup, Gz.vE_lst, Gz.vE_idx, Gz.vE_slL, Gz.vE_slU, Gz.vE_isi, Gz.vE_isx, Gz.vE_calle, Gz.evEs, Gz.evXs, Gz.slotRv, Gz.bind_ok, Gz.bind_exc, Gz.st_ok, Gz.st_exc, Gz.toO_some, Gz.ofOpt_some, Gz.hold_fr, Gz.hold_own, Gz.Rv.cell, Gz.bind_one, Gz.then_nx, Gz.then_rt, Gz.then_ex, Gz.setE, Gz.Tg.bind, Gz.bindL, Gz.truthR, Gz.D.truth, Gz.Op2.ev, m1]
      · exact it_rng (by omega)
      · rw [List.length_range, limE]; omega
      · intro i hi
        have hi := List.mem_range.mp hi
        have f1 := esh i hi
        have f2 := o3 i hi
        unfold lcF
        simp [Gz.evSs, Gz.evS, Gz.evE, Gz.evEs, Gz.evXs, Gz.evT, Gz.slotRv, Gz.Out.bind, Gz.Out.st, Gz.Out.toO, Gz.Out.calm, Gz.ofOpt, Gz.Op2.ev, Gz.Cm.ev, Gz.Rv.hold, Gz.Rv.cell, Gz.SO.then_, Gz.setE, Gz.itEv, Gz.lcLoop, Gz.forLoop, Gz.Tg.bind, Gz.bindL, Gz.wipeE, Gz.Bi.ev, Gz.idx_tup, Gz.idx_lst, Gz.idx_scr, Gz.sl_tL, Gz.sl_tU, Gz.sl_tB, Gz.sl_lL, Gz.sl_lU, Gz.sl_lB, Gz.D.toInt, Gz.truthR, Gz.D.truth, Gz.lim, Gz.atD_0, Gz.atD_1, Gz.atD_2, Gz.atD_3, Gz.atD_4, Gz.atD_5, Gz.atD_6, Gz.atD_7, Gz.atD_8, Gz.cut_lo1, Gz.cut_hi1, Gz.cut_hi2, Gz.cut_hi4, Gz.cut_hi5, Gz.gixEv, f1, f2]
      simp only [bind_ok, ofOpt_some, Gz.Bi.ev, st_ok, hold_fr, toO_some, then_nx, setE, List.set, vSs_nil, mskD, List.map_map]
      rfl
    · rw [if_neg c9]
      simp [Gz.vSs_nil, Gz.vS_asg, Gz.vS_asgO, Gz.vS_asgT, Gz.vS_par, Gz.vS_app, Gz.vS_ext, Gz.vS_ret, Gz.vS_retO, Gz.vS_ifs, Gz.vS_for, Gz.vS_expr, Gz.vS_pass, Gz.vS_frz, Gz.vS_rais, Gz.vS_try, Gz.vE_var, Gz.vE_int, Gz.vE_bl, Gz.vE_non, Gz.vE_str, Gz.vE_glob, Gz.vE_fnv, Gz.vE_call, Gz.vE_bi, Gz.vE_gix, Gz.vE_bin, Gz.vE_cmp, Gz.vE_chain, Gz.vE_not, Gz.vE_and, Gz.vE_or, Gz.vE_ite, Gz.vE_tup, Gz.vE_lst, Gz.vE_idx, Gz.vE_slL, Gz.vE_slU, Gz.vE_isi, Gz.vE_isx, Gz.vE_calle, Gz.evEs, Gz.evXs, Gz.slotRv, Gz.bind_ok, Gz.bind_exc, Gz.st_ok, Gz.st_exc, Gz.toO_some, Gz.ofOpt_some, Gz.hold_fr, Gz.hold_own, Gz.Rv.cell, Gz.bind_one, Gz.then_nx, Gz.then_rt, Gz.then_ex, Gz.setE, Gz.Tg.bind, Gz.bindL, Gz.truthR, Gz.D.truth, Gz.vSs_cons, Gz.Op2.ev, Gz.Cm.ev, eqO_int, e9, c9, mskD]
  rw [st9, then_nx]
  generalize (if q9 = 0 then some ((List.range (w * h)).map fun i : Nat => shF ns (k + 20 + 3 * (i : Int))) else none) = mask at *
  iterate 2 (rw [vSs_cons]; simp [Gz.vSs_nil, Gz.vS_asg, Gz.vS_asgO, Gz.vS_asgT, Gz.vS_par, Gz.vS_app, Gz.vS_ext, Gz.vS_ret, Gz.vS_retO, Gz.vS_ifs, Gz.vS_for, Gz.vS_expr, Gz.vS_pass, Gz.vS_frz, Gz.vS_rais, Gz.vS_try, Gz.vE_var, Gz.vE_int, Gz.vE_bl, Gz.vE_non, Gz.vE_str, Gz.vE_glob, Gz.vE_fnv, Gz.vE_call, Gz.vE_bi, Gz.vE_gix, Gz.vE_bin, Gz.vE_cmp, Gz.vE_chain, Gz.vE_not, Gz.vE_and, Gz.vE_or, Gz.vE_ite, Gz.vE_tup, Gz.vE_lst, Gz.vE_idx, Gz.vE_slL, Gz.vE_slU, Gz.vE_isi, Gz.vE_isx, Gz.vE_calle, Gz.evEs, Gz.evXs, Gz.slotRv, Gz.bind_ok, Gz.bind_exc, Gz.st_ok, Gz.st_exc, Gz.toO_some, Gz.ofOpt_some, Gz.hold_fr, Gz.hold_own, Gz.Rv.cell, Gz.bind_one, Gz.then_nx, Gz.then_rt, Gz.then_ex, Gz.setE, Gz.Tg.bind, Gz.bindL, Gz.truthR, Gz.D.truth, Gz.Op2.ev, e10, e11])
  rw [vSs_cons]
  by_cases c12 : q12 = 0
  · rw [if_pos c12, ndD]
    simp [Gz.vSs_nil, Gz.vS_asg, Gz.vS_asgO, Gz.vS_asgT, Gz.vS_par, Gz.vS_app, Gz.vS_ext, Gz.vS_ret, Gz.vS_retO, Gz.vS_ifs, Gz.vS_for, Gz.vS_expr, Gz.vS_pass, Gz.vS_frz, Gz.vS_rais, Gz.vS_try, Gz.vE_var, Gz.vE_int, Gz.vE_bl, Gz.vE_non, Gz.vE_str, Gz.vE_glob, Gz.vE_fnv, Gz.vE_call, Gz.vE_bi, Gz.vE_gix, Gz.vE_bin, Gz.vE_cmp, Gz.vE_chain, Gz.vE_not, Gz.vE_and, Gz.vE_or, Gz.vE_ite, Gz.vE_tup, Gz.vE_lst, Gz.vE_idx, Gz.vE_slL, Gz.vE_slU, Gz.vE_isi, Gz.vE_isx, Gz.vE_calle, Gz.evEs, Gz.evXs, Gz.slotRv, Gz.bind_ok, Gz.bind_exc, Gz.st_ok, Gz.st_exc, Gz.toO_some, Gz.ofOpt_some, Gz.hold_fr, Gz.hold_own, Gz.Rv.cell, Gz.bind_one, Gz.then_nx, Gz.then_rt, Gz.then_ex, Gz.setE, Gz.Tg.bind, Gz.bindL, Gz.truthR, Gz.D.truth, Gz.vSs_cons, Gz.Op2.ev, Gz.Cm.ev, Gz.Tg.bind, Gz.bindL, eqO_int, e12, c12, s3, mskD]
  · rw [if_neg c12, ndD]
    simp [Gz.vSs_nil, Gz.vS_asg, Gz.vS_asgO, Gz.vS_asgT, Gz.vS_par, Gz.vS_app, Gz.vS_ext, Gz.vS_ret, Gz.vS_retO, Gz.vS_ifs, Gz.vS_for, Gz.vS_expr, Gz.vS_pass, Gz.vS_frz, Gz.vS_rais, Gz.vS_try, Gz.vE_var, Gz.vE_int, Gz.vE_bl, Gz.vE_non, Gz.vE_str, Gz.vE_glob, Gz.vE_fnv, Gz.vE_call, Gz.vE_bi, Gz.vE_gix, Gz.vE_bin, Gz.vE_cmp, Gz.vE_chain, Gz.vE_not, Gz.vE_and, Gz.vE_or, Gz.vE_ite, Gz.vE_tup, Gz.vE_lst, Gz.vE_idx, Gz.vE_slL, Gz.vE_slU, Gz.vE_isi, Gz.vE_isx, Gz.vE_calle, Gz.evEs, Gz.evXs, Gz.slotRv, Gz.bind_ok, Gz.bind_exc, Gz.st_ok, Gz.st_exc, Gz.toO_some, Gz.ofOpt_some, Gz.hold_fr, Gz.hold_own, Gz.Rv.cell, Gz.bind_one, Gz.then_nx, Gz.then_rt, Gz.then_ex, Gz.setE, Gz.Tg.bind, Gz.bindL, Gz.truthR, Gz.D.truth, Gz.vSs_cons, Gz.Op2.ev, Gz.Cm.ev, eqO_int, e12, c12, s1]
end GzL
end -- HbD
section -- HbE
set_option maxHeartbeats 4000000
/-! HbE: drawn nodes, pictures. -/
namespace Gz
open PySem PySem.Spec PyProof.Rows L2
theorem vE_slB {cl : Calls} {P : Prog} {env : Env} {S : Store} (a i j : E) : evE cl P (.slB a i j) env S = (evE cl P a env S).bind fun x S => (evE cl P i env S).bind fun y S => (ofOpt y.d.toInt S).bind fun n S => (evE cl P j env S).bind fun z S => ofOpt (slEv x.d (some (.int n)) (some z.d)) S := by rw [evE]
theorem vE_mt {cl : Calls} {P : Prog} {env : Env} {S : Store} (m : Mt) (o : E) (es : Es) : evE cl P (.mt m o es) env S = (evE cl P o env S).bind fun x S => if m.okO x.d then (evXs cl P es env S).bind fun ds S => ofOpt (m.ev x.d ds) S else .no := by rw [evE]
end Gz
namespace GzL
open PySem PySem.Spec PyProof.Rows L2 Gz
theorem wts_append : ∀ a b : List Nd, Nd.wts (a ++ b) = Nd.wts a + Nd.wts b
  | [], b => by rw [List.nil_append, Nd.wts]; omega
  | x :: a, b => by rw [List.cons_append, Nd.wts, Nd.wts, wts_append a b]; omega
theorem wfs_iff {d : Nat} : ∀ {l : List Nd}, Nd.wfs d l ↔ ∀ a ∈ l, a.wf d
  | [] => by rw [Nd.wfs]; simp
  | x :: l => by rw [Nd.wfs, wfs_iff (l := l)]; simp
mutual
theorem wf_up : ∀ {d : Nat} {a : Nd}, a.wf d → a.wf (d + 1)
  | d, .layer _ _ _ _ _ _ _ _ _, h => by cases d <;> (rw [Nd.wf] at h ⊢; exact h)
  | d, .tone _ _ _ _, h => by cases d <;> (rw [Nd.wf] at h ⊢; exact h)
  | 0, .group _ _ _ _ _, h => by rw [Nd.wf] at h; exact h.elim
  | d + 1, .group _ _ _ _ ns, h => by
    rw [Nd.wf] at h ⊢
    exact ⟨h.1, wfs_up h.2⟩
theorem wfs_up : ∀ {d : Nat} {l : List Nd}, Nd.wfs d l → Nd.wfs (d + 1) l
  | d, [], _ => by rw [Nd.wfs]; trivial
  | d, x :: l, h => by
    rw [Nd.wfs] at h ⊢
    exact ⟨wf_up h.1, wfs_up h.2⟩
end
/-! ### some put into a group -/
/-! ### the run -/
/-- behind it: something holds -/
def NxP (I : Gz.Env → Prop) (S : Store) (o : SO) : Prop := ∃ env, o = .nx env S ∧ I env
theorem for_inv {Q : SO → Prop} {b : D → Gz.Env → Store → SO} {ds : List D} {env : Gz.Env} {S : Store} {k : Gz.Env → Store → SO} (I : Nat → Gz.Env → Prop) (h0 : I 0 env) (hs : ∀ j d env, ds[j]? = some d → I j env → NxP (I (j + 1)) S (b d env S)) (hk : ∀ env, I ds.length env → Q (k env S)) :
    Q ((forLoop b ds env S).then_ k) := by
  obtain ⟨env', e, h⟩ := forLoop_inv (b := b) (S := S) I ds 0 env h0 fun j d env hj hI => by
    rw [Nat.zero_add] at hI ⊢
    exact hs j d env hj hI
  rw [e]
  rw [Nat.zero_add] at h
  exact hk env' h
structure HNo (P : Prog) : Prop where
  ge : HGe P
  nodes : P.defs.lookup ("_law_nodes" : Str) = some f__law_nodes
theorem ndsD_len (l : List Nd) : (ndsD l).length = l.length := by rw [ndsD_map, List.length_map]
end GzL
end -- HbE
section -- HbF
set_option maxHeartbeats 4000000
/-! HbF: drawn names. -/
namespace GzL
open PySem PySem.Spec PyProof.Rows L2 Gz
def letterF (j : Int) : Str := ⟨#[((("abcdefghijklmnopqrstuvwxyz" : Str).cps.toList)[j.toNat]?).getD 97]⟩
def signF (i : Nat) : Str := ⟨#[((("abcdefghijklmn" : Str).cps.toList)[i]?).getD 97]⟩
theorem limE : lim = 16777216 := by unfold lim; rfl
theorem alpha_ix {j : Int} (h0 : 0 ≤ j) (h1 : j < 26) : idxEv (.str "abcdefghijklmnopqrstuvwxyz") (.int j) = some (.str (letterF j)) := by
  have hl : (("abcdefghijklmnopqrstuvwxyz" : Str).cps.toList).length = 26 := by decide +kernel
  have hz : ("abcdefghijklmnopqrstuvwxyz" : Str).length ≤ lim := by
    have : ("abcdefghijklmnopqrstuvwxyz" : Str).length = 26 := by decide +kernel
    rw [this, limE]
    omega
  show (if ("abcdefghijklmnopqrstuvwxyz" : Str).length ≤ lim then (atD ("abcdefghijklmnopqrstuvwxyz" : Str).cps.toList j).map fun c => D.str ⟨#[c]⟩ else none) = _
  rw [if_pos hz, atD_toNat _ _ h0]
  unfold letterF
  have hi : j.toNat < (("abcdefghijklmnopqrstuvwxyz" : Str).cps.toList).length := by omega
  generalize ("abcdefghijklmnopqrstuvwxyz" : Str).cps.toList = cs at *
  rw [List.getElem?_eq_getElem hi]
  rfl
theorem sign_ix {i : Nat} (h1 : i < 14) : idxEv (.str "abcdefghijklmn") (.int (i : Int)) = some (.str (signF i)) := by
  have hl : (("abcdefghijklmn" : Str).cps.toList).length = 14 := by decide +kernel
  have hz : ("abcdefghijklmn" : Str).length ≤ lim := by
    have : ("abcdefghijklmn" : Str).length = 14 := by decide +kernel
    rw [this, limE]
    omega
  show (if ("abcdefghijklmn" : Str).length ≤ lim then (atD ("abcdefghijklmn" : Str).cps.toList (i : Int)).map fun c => D.str ⟨#[c]⟩ else none) = _
  rw [if_pos hz, atD_nat]
  unfold signF
  have hi : i < (("abcdefghijklmn" : Str).cps.toList).length := by omega
  generalize ("abcdefghijklmn" : Str).cps.toList = cs at *
  rw [List.getElem?_eq_getElem hi]
  rfl
def wordF (a b : Int) : Str := Txt.join "" [letterF a, letterF b]
theorem word_is (a b : Int) : wordF a b = ⟨(letterF a).cps ++ (letterF b).cps⟩ := by
  unfold wordF
  rfl
def cutS (w : Str) (n : Int) : Str := ⟨(cut w.cps.toList none (some n)).toArray⟩
theorem cutS_len (w : Str) (n : Int) : (cutS w n).length ≤ w.length := by
  show (cut w.cps.toList none (some n)).toArray.size ≤ w.cps.size
  rw [List.size_toArray]
  have := (cut_sub w.cps.toList none (some n)).1
  rwa [Array.length_toList] at this
/-- a drawn name -/
def nmF (ns : List Int) (k : Int) (i : Nat) : Str :=
  let w := cutS (wordF (drF ns (k + 1 + 3 * (i : Int) + ((0 : Nat) : Int)) 26) (drF ns (k + 1 + 3 * (i : Int) + ((1 : Nat) : Int)) 26)) (drF ns (k + 3 + 3 * (i : Int)) 3)
  let w := if drF ns (k + 2 + 3 * (i : Int)) 2 = 0 then w else w ++ w
  if drF ns k 2 = 0 then signF i ++ w else w ++ signF i
theorem join_ev (a b : Int) : Mt.ev .join (.str "") [.lst [.str (letterF a), .str (letterF b)]] = some (.fr (.str (wordF a b))) := by
  show ((strsOf [.str (letterF a), .str (letterF b)]).bind fun ss => if joinOk "" ss then some (Rv.fr (.str (Txt.join "" ss))) else none) = _
  have h : strsOf [.str (letterF a), .str (letterF b)] = some [letterF a, letterF b] := rfl
  rw [h]
  have j : joinOk "" [letterF a, letterF b] = true := by
    unfold joinOk
    rw [decide_eq_true_eq]
    show 1 + (1 + 0) + 2 * ("" : Str).length ≤ 16777216
    have : ("" : Str).length = 0 := by decide +kernel
    rw [this]
    omega
  show (if joinOk "" [letterF a, letterF b] = true then some (Rv.fr (.str (Txt.join "" [letterF a, letterF b]))) else none) = _
  rw [if_pos j]
  rfl
theorem cut_ev {w : Str} (h : w.length ≤ 1000) (n : Int) : slEv (.str w) none (some (.int n)) = some (.fr (.str (cutS w n))) := by
  show (if w.length ≤ lim then some (Rv.fr (.str ⟨(cut w.cps.toList none (some n)).toArray⟩)) else none) = _
  rw [if_pos (by rw [limE]; omega)]
  rfl
theorem mul_ev {w : Str} (h : w.length ≤ 1000) {j : Int} (h0 : 0 ≤ j) (h1 : j < 2) : ∃ n : Int, idxEv (.lst [.int 1, .int 2]) (.int j) = some (.int n) ∧ Op2.ev .mul (.str w) (.int n) = some (.fr (.str (if j = 0 then w else w ++ w))) := by
  have : j = 0 ∨ j = 1 := by omega
  rcases this with rfl | rfl
  · refine ⟨1, rfl, ?_⟩
    show (if (decide ((1 : Int) ≤ 1) && decide ((1 : Int) ≤ 2) && decide (w.length ≤ 1000)) = true then some (Rv.fr (.str (if (1 : Int) = 1 then w else w ++ w))) else none) = _
    rw [decide_eq_true h]
    rfl
  · refine ⟨2, rfl, ?_⟩
    show (if (decide ((1 : Int) ≤ 2) && decide ((2 : Int) ≤ 2) && decide (w.length ≤ 1000)) = true then some (Rv.fr (.str (if (2 : Int) = 1 then w else w ++ w))) else none) = _
    rw [decide_eq_true h]
    rfl
theorem add_ev {w z : Str} (h : w.length ≤ 1000) (h2 : z.length ≤ 1000) : Op2.ev .add (.str w) (.str z) = some (.fr (.str (w ++ z))) := by
  show (if w.length + z.length ≤ lim then some (Rv.fr (.str (w ++ z))) else none) = _
  rw [if_pos (by rw [limE]; omega)]
theorem len_app (w z : Str) : (w ++ z).length = w.length + z.length := by
  show (w.cps ++ z.cps).size = w.cps.size + z.cps.size
  rw [Array.size_append]
theorem r_names {P : Prog} (H : HDr P) (hP : P.defs.lookup ("_law_names" : Str) = some f__law_names) {ns : List Int} {k : Int} {many : Nat} (k0 : 0 ≤ k) (k1 : k < 10000) (hl : ns.length ≤ 63) (hm : many ≤ 14) :
    Run P 3 "_law_names" [.scr ns, .int k, .int many] ⟨.lst (((List.range many).map (nmF ns k)).map D.str), .own⟩ := by
  refine Run.of hP rfl fun m' S hm' => ?_
  have dd := fun (a many : Int) (h : 0 ≤ a) (h2 : a < 100000) (h3 : 0 < many) (h4 : many < 1000) => r_drawn H (ns := ns) (k := a) (many := many) h (by omega) hl (by omega) m' S (by omega)
  have e0 := dd k 2 k0 (by omega) (by decide) (by decide)
  unfold f__law_names entry
  iterate 2 (rw [vSs_cons]; simp [Gz.vSs_nil, Gz.vS_asg, Gz.vS_asgO, Gz.vS_asgT, Gz.vS_par, Gz.vS_app, Gz.vS_ext, Gz.vS_ret, Gz.vS_retO, Gz.vS_ifs, Gz.vS_for, Gz.vS_expr, Gz.vS_pass, Gz.vS_frz, Gz.vS_rais, Gz.vS_try, Gz.vE_var, Gz.vE_int, Gz.vE_bl, Gz.vE_non, Gz.vE_str, Gz.vE_glob, Gz.vE_fnv, Gz.vE_call, Gz.vE_bi, Gz.vE_gix, Gz.vE_bin, Gz.vE_cmp, Gz.vE_chain, Gz.vE_not, Gz.vE_and, Gz.vE_or, Gz.vE_ite, Gz.vE_tup, Gz.vE_lst, Gz.vE_idx, Gz.vE_slL, Gz.vE_slU, Gz.vE_isi, Gz.vE_isx, Gz.vE_calle, Gz.evEs, Gz.evXs, Gz.slotRv, Gz.bind_ok, Gz.bind_exc, Gz.st_ok, Gz.st_exc, Gz.toO_some, Gz.ofOpt_some, Gz.hold_fr, Gz.hold_own, Gz.Rv.cell, Gz.bind_one, Gz.then_nx, Gz.then_rt, Gz.then_ex, Gz.setE, Gz.Tg.bind, Gz.bindL, Gz.truthR, Gz.D.truth, Gz.Cm.ev, eqO_int, e0])
  rw [vSs_cons, vS_for_of (xs := [.int (many : Int)]) (ds := (List.range many).map fun i : Nat => D.int (i : Int)) (by simp [Gz.vSs_nil, Gz.vS_asg, Gz.vS_asgO, Gz.vS_asgT, Gz.vS_par, Gz.vS_app, Gz.vS_ext, Gz.vS_ret, Gz.vS_retO, Gz.vS_ifs, Gz.vS_for, Gz.vS_expr, Gz.vS_pass, Gz.vS_frz, Gz.vS_rais, Gz.vS_try, Gz.vE_var, Gz.vE_int, Gz.vE_bl, Gz.vE_non, Gz.vE_str, Gz.vE_glob, Gz.vE_fnv, Gz.vE_call, Gz.vE_bi, Gz.vE_gix, Gz.vE_bin, Gz.vE_cmp, Gz.vE_chain, Gz.vE_not, Gz.vE_and, Gz.vE_or, Gz.vE_ite, Gz.vE_tup, Gz.vE_lst, Gz.vE_idx, Gz.vE_slL, Gz.vE_slU, Gz.vE_isi, Gz.vE_isx, Gz.vE_calle, Gz.evEs, Gz.evXs, Gz.slotRv, Gz.bind_ok, Gz.bind_exc, Gz.st_ok, Gz.st_exc, Gz.toO_some, Gz.ofOpt_some, Gz.hold_fr, Gz.hold_own, Gz.Rv.cell, Gz.bind_one, Gz.then_nx, Gz.then_rt, Gz.then_ex, Gz.setE, Gz.Tg.bind, Gz.bindL, Gz.truthR, Gz.D.truth]) (it_rng (by omega))]
  refine Eq.symm (for_inv (fun i env => ∃ c5 c6 c7, env = [.fr (.scr ns), .fr (.int k), .fr (.int many), .fr (.bl (decide (drF ns k 2 = 0))), .own (((List.range i).map (nmF ns k)).map D.str), c5, c6, c7]) ⟨_, _, _, rfl⟩ ?_ ?_)
  · rintro j d env hj ⟨c5, c6, c7, rfl⟩
    rw [List.getElem?_map] at hj
    obtain ⟨j', hj', rfl⟩ := Option.map_eq_some_iff.mp hj
    obtain ⟨hlt, rfl⟩ := List.getElem?_eq_some_iff.mp hj'
    rw [List.length_range] at hlt
    rw [List.getElem_range]
    simp only [bind_one, toO_some]
    have f1 := fun t : Nat => fun ht : t < 2 => dd (k + 1 + 3 * (j : Int) + (t : Int)) 26 (by omega) (by omega) (by decide) (by decide)
    have f2 := dd (k + 3 + 3 * (j : Int)) 3 (by omega) (by omega) (by decide) (by decide)
    have f3 := dd (k + 2 + 3 * (j : Int)) 2 (by omega) (by omega) (by decide) (by decide)
    have l1 := fun t : Nat => alpha_ix (drF_nonneg (ns := ns) (k := k + 1 + 3 * (j : Int) + (t : Int)) (many := 26) (by decide)) (drF_lt (by decide))
    have o3 : okMul 3 (j : Int) = true := okMul_of (a := 2) (b := 4) (by decide) (by omega) (by decide)
    have q1 : nmF ns k j = (if drF ns k 2 = 0 then signF j ++ (if drF ns (k + 2 + 3 * (j : Int)) 2 = 0 then cutS (wordF (drF ns (k + 1 + 3 * (j : Int) + ((0 : Nat) : Int)) 26) (drF ns (k + 1 + 3 * (j : Int) + ((1 : Nat) : Int)) 26)) (drF ns (k + 3 + 3 * (j : Int)) 3) else cutS (wordF (drF ns (k + 1 + 3 * (j : Int) + ((0 : Nat) : Int)) 26) (drF ns (k + 1 + 3 * (j : Int) + ((1 : Nat) : Int)) 26)) (drF ns (k + 3 + 3 * (j : Int)) 3) ++ cutS (wordF (drF ns (k + 1 + 3 * (j : Int) + ((0 : Nat) : Int)) 26) (drF ns (k + 1 + 3 * (j : Int) + ((1 : Nat) : Int)) 26)) (drF ns (k + 3 + 3 * (j : Int)) 3)) else (if drF ns (k + 2 + 3 * (j : Int)) 2 = 0 then cutS (wordF (drF ns (k + 1 + 3 * (j : Int) + ((0 : Nat) : Int)) 26) (drF ns (k + 1 + 3 * (j : Int) + ((1 : Nat) : Int)) 26)) (drF ns (k + 3 + 3 * (j : Int)) 3) else cutS (wordF (drF ns (k + 1 + 3 * (j : Int) + ((0 : Nat) : Int)) 26) (drF ns (k + 1 + 3 * (j : Int) + ((1 : Nat) : Int)) 26)) (drF ns (k + 3 + 3 * (j : Int)) 3) ++ cutS (wordF (drF ns (k + 1 + 3 * (j : Int) + ((0 : Nat) : Int)) 26) (drF ns (k + 1 + 3 * (j : Int) + ((1 : Nat) : Int)) 26)) (drF ns (k + 3 + 3 * (j : Int)) 3)) ++ signF j) := rfl
    have wl : (wordF (drF ns (k + 1 + 3 * (j : Int) + ((0 : Nat) : Int)) 26) (drF ns (k + 1 + 3 * (j : Int) + ((1 : Nat) : Int)) 26)).length = 2 := by
      rw [word_is]
      rfl
    have je := join_ev (drF ns (k + 1 + 3 * (j : Int) + ((0 : Nat) : Int)) 26) (drF ns (k + 1 + 3 * (j : Int) + ((1 : Nat) : Int)) 26)
    rw [vSs_cons, vS_asg, vE_mt]
    simp only [vE_str, bind_ok]
    rw [if_pos (show Mt.okO .join (.str "") = true from rfl)]
    simp only [evXs]
    rw [lc_of (xs := [.int ((2 : Nat) : Int)]) (as := List.range 2) (e := fun i => .int (i : Int)) (g := fun t : Nat => .str (letterF (drF ns (k + 1 + 3 * (j : Int) + (t : Int)) 26)))]
    rotate_left
    · simp [Gz.vSs_nil, Gz.vS_asg, Gz.vS_asgO, Gz.vS_asgT, Gz.vS_par, Gz.vS_app, Gz.vS_ext, Gz.vS_ret, Gz.vS_retO, Gz.vS_ifs, Gz.vS_for, Gz.vS_expr, Gz.vS_pass, Gz.vS_frz, Gz.vS_rais, Gz.vS_try, Gz.vE_var, Gz.vE_int, Gz.vE_bl, Gz.vE_non, Gz.vE_str, Gz.vE_glob, Gz.vE_fnv, Gz.vE_call, Gz.vE_bi, Gz.vE_gix, Gz.vE_bin, Gz.vE_cmp, Gz.vE_chain, Gz.vE_not, Gz.vE_and, Gz.vE_or, Gz.vE_ite, Gz.vE_tup, Gz.vE_lst, Gz.vE_idx, Gz.vE_slL, Gz.vE_slU, Gz.vE_isi, Gz.vE_isx, Gz.vE_calle, Gz.evEs, Gz.evXs, Gz.slotRv, Gz.bind_ok, Gz.bind_exc, Gz.st_ok, Gz.st_exc, Gz.toO_some, Gz.ofOpt_some, Gz.hold_fr, Gz.hold_own, Gz.Rv.cell, Gz.bind_one, Gz.then_nx, Gz.then_rt, Gz.then_ex, Gz.setE, Gz.Tg.bind, Gz.bindL, Gz.truthR, Gz.D.truth]
    · exact it_rng (by decide)
    · rw [List.length_range, limE]; omega
    · intro t ht
      have ht := List.mem_range.mp ht
      have f := f1 t ht
      have l := l1 t
      unfold lcF
      simp [Gz.evSs, Gz.evS, Gz.evE, Gz.evEs, Gz.evXs, Gz.evT, Gz.slotRv, Gz.Out.bind, Gz.Out.st, Gz.Out.toO, Gz.Out.calm, Gz.ofOpt, Gz.Op2.ev, Gz.Cm.ev, Gz.Rv.hold, Gz.Rv.cell, Gz.SO.then_, Gz.setE, Gz.itEv, Gz.lcLoop, Gz.forLoop, Gz.Tg.bind, Gz.bindL, Gz.wipeE, Gz.Bi.ev, Gz.idx_tup, Gz.idx_lst, Gz.idx_scr, Gz.sl_tL, Gz.sl_tU, Gz.sl_tB, Gz.sl_lL, Gz.sl_lU, Gz.sl_lB, Gz.D.toInt, Gz.truthR, Gz.D.truth, Gz.lim, Gz.atD_0, Gz.atD_1, Gz.atD_2, Gz.atD_3, Gz.atD_4, Gz.atD_5, Gz.atD_6, Gz.atD_7, Gz.atD_8, Gz.cut_lo1, Gz.cut_hi1, Gz.cut_hi2, Gz.cut_hi4, Gz.cut_hi5, Gz.gixEv, o3, f, l]
    have r2 : (List.range 2).map (fun t : Nat => D.str (letterF (drF ns (k + 1 + 3 * (j : Int) + (t : Int)) 26))) = [.str (letterF (drF ns (k + 1 + 3 * (j : Int) + ((0 : Nat) : Int)) 26)), .str (letterF (drF ns (k + 1 + 3 * (j : Int) + ((1 : Nat) : Int)) 26))] := rfl
    simp only [bind_ok]
    rw [r2, je]
    simp only [ofOpt_some, st_ok, hold_fr, toO_some, then_nx, setE, List.set]
    clear je r2 l1 f1
    rw [List.range_succ, List.map_append, List.map_append, List.map_cons, List.map_nil, List.map_cons, List.map_nil, q1]
    clear q1
    generalize wordF (drF ns (k + 1 + 3 * (j : Int) + ((0 : Nat) : Int)) 26) (drF ns (k + 1 + 3 * (j : Int) + ((1 : Nat) : Int)) 26) = w at *
    have l2 := cutS_len w (drF ns (k + 3 + 3 * (j : Int)) 3)
    have ce := cut_ev (w := w) (by omega) (drF ns (k + 3 + 3 * (j : Int)) 3)
    generalize cutS w (drF ns (k + 3 + 3 * (j : Int)) 3) = w1 at *
    have h3 := drF_nonneg (ns := ns) (k := k + 2 + 3 * (j : Int)) (many := 2) (by decide)
    have h3' := drF_lt (ns := ns) (k := k + 2 + 3 * (j : Int)) (many := 2) (by decide)
    have st6 : ∃ w2 : Str, w2.length ≤ 4 ∧ (if drF ns (k + 2 + 3 * (j : Int)) 2 = 0 then w1 else w1 ++ w1) = w2 := by
      refine ⟨_, ?_, rfl⟩
      split
      · omega
      · rw [len_app]; omega
    obtain ⟨w2, hw2, ew2⟩ := st6
    have hw1 : w1.length ≤ 1000 := by omega
    have mu : ∀ n : Int, idxEv (.lst [.int 1, .int 2]) (.int (drF ns (k + 2 + 3 * (j : Int)) 2)) = some (.int n) → Op2.ev .mul (.str w1) (.int n) = some (.fr (.str w2)) := fun n hn => by
      obtain ⟨n', n1, n2⟩ := mul_ev hw1 h3 h3'
      rw [n1] at hn
      cases hn
      rw [n2, ew2]
    obtain ⟨n, n1, _⟩ := mul_ev hw1 h3 h3'
    have mu := mu n n1
    rw [ew2]
    generalize drF ns (k + 2 + 3 * (j : Int)) 2 = a3 at *
    have ad : ∀ x y : Int, Op2.ev .add (.int x) (.int y) = some (.fr (.int (x + y))) := fun _ _ => rfl
    have ml : ∀ y : Int, okMul 3 y = true → Op2.ev .mul (.int 3) (.int y) = some (.fr (.int (3 * y))) := fun y hy => by
      show (if okMul 3 y = true then some (Rv.fr (.int (3 * y))) else none) = _
      rw [if_pos hy]
    rw [vSs_cons]
    simp [Gz.vSs_nil, Gz.vS_asg, Gz.vS_asgO, Gz.vS_asgT, Gz.vS_par, Gz.vS_app, Gz.vS_ext, Gz.vS_ret, Gz.vS_retO, Gz.vS_ifs, Gz.vS_for, Gz.vS_expr, Gz.vS_pass, Gz.vS_frz, Gz.vS_rais, Gz.vS_try, Gz.vE_var, Gz.vE_int, Gz.vE_bl, Gz.vE_non, Gz.vE_str, Gz.vE_glob, Gz.vE_fnv, Gz.vE_call, Gz.vE_bi, Gz.vE_gix, Gz.vE_bin, Gz.vE_cmp, Gz.vE_chain, Gz.vE_not, Gz.vE_and, Gz.vE_or, Gz.vE_ite, Gz.vE_tup, Gz.vE_lst, Gz.vE_idx, Gz.vE_slL, Gz.vE_slU, Gz.vE_isi, Gz.vE_isx, Gz.vE_calle, Gz.evEs, Gz.evXs, Gz.slotRv, Gz.bind_ok, Gz.bind_exc, Gz.st_ok, Gz.st_exc, Gz.toO_some, Gz.ofOpt_some, Gz.hold_fr, Gz.hold_own, Gz.Rv.cell, Gz.bind_one, Gz.then_nx, Gz.then_rt, Gz.then_ex, Gz.setE, Gz.Tg.bind, Gz.bindL, Gz.truthR, Gz.D.truth, ad, ml, o3, f2, f3, ce, n1, mu]
    have sg := sign_ix (i := j) (by omega)
    have sl : (signF j).length = 1 := rfl
    have a1 := add_ev (w := w2) (z := signF j) (by omega) (by omega)
    have a2 := add_ev (w := signF j) (z := w2) (by omega) (by omega)
    have ll : ((((List.range j).map (nmF ns k)).map D.str).length) < lim := by
      rw [List.length_map, List.length_map, List.length_range, limE]
      omega
    have jl : j < lim := by rw [limE]; omega
    rw [vSs_cons]
    generalize signF j = sj at *
    generalize ((List.range j).map (nmF ns k)).map D.str = acc at *
    by_cases hb : drF ns k 2 = 0
    · rw [if_pos hb]
      simp [Gz.vSs_nil, Gz.vS_asg, Gz.vS_asgO, Gz.vS_asgT, Gz.vS_par, Gz.vS_app, Gz.vS_ext, Gz.vS_ret, Gz.vS_retO, Gz.vS_ifs, Gz.vS_for, Gz.vS_expr, Gz.vS_pass, Gz.vS_frz, Gz.vS_rais, Gz.vS_try, Gz.vE_var, Gz.vE_int, Gz.vE_bl, Gz.vE_non, Gz.vE_str, Gz.vE_glob, Gz.vE_fnv, Gz.vE_call, Gz.vE_bi, Gz.vE_gix, Gz.vE_bin, Gz.vE_cmp, Gz.vE_chain, Gz.vE_not, Gz.vE_and, Gz.vE_or, Gz.vE_ite, Gz.vE_tup, Gz.vE_lst, Gz.vE_idx, Gz.vE_slL, Gz.vE_slU, Gz.vE_isi, Gz.vE_isx, Gz.vE_calle, Gz.evEs, Gz.evXs, Gz.slotRv, Gz.bind_ok, Gz.bind_exc, Gz.st_ok, Gz.st_exc, Gz.toO_some, Gz.ofOpt_some, Gz.hold_fr, Gz.hold_own, Gz.Rv.cell, Gz.bind_one, Gz.then_nx, Gz.then_rt, Gz.then_ex, Gz.setE, Gz.Tg.bind, Gz.bindL, Gz.truthR, Gz.D.truth, Gz.Bi.ev, hb, sg, a1, a2, jl, ll, idx_lst, atD_0, atD_1]
      exact ⟨_, rfl, _, _, _, rfl⟩
    · rw [if_neg hb]
      simp [Gz.vSs_nil, Gz.vS_asg, Gz.vS_asgO, Gz.vS_asgT, Gz.vS_par, Gz.vS_app, Gz.vS_ext, Gz.vS_ret, Gz.vS_retO, Gz.vS_ifs, Gz.vS_for, Gz.vS_expr, Gz.vS_pass, Gz.vS_frz, Gz.vS_rais, Gz.vS_try, Gz.vE_var, Gz.vE_int, Gz.vE_bl, Gz.vE_non, Gz.vE_str, Gz.vE_glob, Gz.vE_fnv, Gz.vE_call, Gz.vE_bi, Gz.vE_gix, Gz.vE_bin, Gz.vE_cmp, Gz.vE_chain, Gz.vE_not, Gz.vE_and, Gz.vE_or, Gz.vE_ite, Gz.vE_tup, Gz.vE_lst, Gz.vE_idx, Gz.vE_slL, Gz.vE_slU, Gz.vE_isi, Gz.vE_isx, Gz.vE_calle, Gz.evEs, Gz.evXs, Gz.slotRv, Gz.bind_ok, Gz.bind_exc, Gz.st_ok, Gz.st_exc, Gz.toO_some, Gz.ofOpt_some, Gz.hold_fr, Gz.hold_own, Gz.Rv.cell, Gz.bind_one, Gz.then_nx, Gz.then_rt, Gz.then_ex, Gz.setE, Gz.Tg.bind, Gz.bindL, Gz.truthR, Gz.D.truth, Gz.Bi.ev, hb, sg, a1, a2, jl, ll, idx_lst, atD_0, atD_1]
      exact ⟨_, rfl, _, _, _, rfl⟩
  · rintro env ⟨c5, c6, c7, rfl⟩
    rw [List.length_map, List.length_range, vSs_cons]
    simp [Gz.vSs_nil, Gz.vS_asg, Gz.vS_asgO, Gz.vS_asgT, Gz.vS_par, Gz.vS_app, Gz.vS_ext, Gz.vS_ret, Gz.vS_retO, Gz.vS_ifs, Gz.vS_for, Gz.vS_expr, Gz.vS_pass, Gz.vS_frz, Gz.vS_rais, Gz.vS_try, Gz.vE_var, Gz.vE_int, Gz.vE_bl, Gz.vE_non, Gz.vE_str, Gz.vE_glob, Gz.vE_fnv, Gz.vE_call, Gz.vE_bi, Gz.vE_gix, Gz.vE_bin, Gz.vE_cmp, Gz.vE_chain, Gz.vE_not, Gz.vE_and, Gz.vE_or, Gz.vE_ite, Gz.vE_tup, Gz.vE_lst, Gz.vE_idx, Gz.vE_slL, Gz.vE_slU, Gz.vE_isi, Gz.vE_isx, Gz.vE_calle, Gz.evEs, Gz.evXs, Gz.slotRv, Gz.bind_ok, Gz.bind_exc, Gz.st_ok, Gz.st_exc, Gz.toO_some, Gz.ofOpt_some, Gz.hold_fr, Gz.hold_own, Gz.Rv.cell, Gz.bind_one, Gz.then_nx, Gz.then_rt, Gz.then_ex, Gz.setE, Gz.Tg.bind, Gz.bindL, Gz.truthR, Gz.D.truth]
end GzL
end -- HbF
section -- HbG
set_option maxHeartbeats 4000000
/-! HbG: what nodes bring; needless nodes. -/
namespace Gz
open PySem PySem.Spec PyProof.Rows L2
theorem bind_two (i j : Nat) (env : Env) (a b : D) : (Tg.many [i, j]).bind env (.tup [a, b]) = some (setE (setE env i (.fr a)) j (.fr b)) := by cases a <;> rfl
end Gz
namespace GzL
open PySem PySem.Spec PyProof.Rows L2 Gz
/-! ### parts of a node -/
def Nd.nm : Nd → Str
  | .layer nm _ _ _ _ _ _ _ _ => nm
  | .tone nm _ _ _ => nm
  | .group nm _ _ _ _ => nm
def Nd.w0 : Nd → Str
  | .layer _ _ _ _ _ _ _ _ _ => "layer"
  | .tone _ _ _ _ => "tone"
  | .group _ _ _ _ _ => "group"
def Nd.w2 : Nd → Str
  | .layer _ mn _ _ _ _ _ _ _ => mn.s
  | .tone _ ru _ _ => ru.s
  | .group _ mn _ _ _ => mn.s
def Nd.st : Nd → Rat
  | .layer _ _ st _ _ _ _ _ _ => st
  | .tone _ _ st _ => st
  | .group _ _ st _ _ => st
def Nd.sh : Nd → Bool
  | .layer _ _ _ sh _ _ _ _ _ => sh
  | .tone _ _ _ sh => sh
  | .group _ _ _ sh _ => sh
def Nd.isTone : Nd → Bool
  | .tone _ _ _ _ => true
  | _ => false
def Nd.isOver : Nd → Bool
  | .layer _ .over _ _ _ _ _ _ _ => true
  | .group _ .over _ _ _ => true
  | _ => false
def Nd.brF : Nd → Int → Int → Sp
  | .layer _ _ st _ l u mask s z, x, y => wtF (s.at (x - l) (y - u)) (mskAt mask s (x - l) (y - u) * st)
  | .tone _ _ _ _, _, _ => clr
  | .group _ _ st _ ns, x, y => wtF (shownF ns clr x y) st
theorem nd0 (a : Nd) : idxEv (ndD a) (.int 0) = some (.str a.w0) := by cases a <;> (rw [ndD]; rfl)
theorem nd1 (a : Nd) : idxEv (ndD a) (.int 1) = some (.str a.nm) := by cases a <;> (rw [ndD]; rfl)
theorem nd2 (a : Nd) : idxEv (ndD a) (.int 2) = some (.str a.w2) := by cases a <;> (rw [ndD]; rfl)
theorem nd3 (a : Nd) : idxEv (ndD a) (.int 3) = some (shD a.st) := by cases a <;> (rw [ndD]; rfl)
theorem nd4 (a : Nd) : idxEv (ndD a) (.int 4) = some (.bl a.sh) := by cases a <;> (rw [ndD]; rfl)
theorem w0_tone (a : Nd) : eqO (.str a.w0) (.str "tone") = some a.isTone := by
  cases a
  · exact s_lt
  · exact s_tt
  · exact s_gt
theorem brF_ok {d : Nat} {a : Nd} (h : a.wf d) (x y : Int) : (a.brF x y).ok a.wt := by
  cases a with
  | layer nm mn st sh l u mask s z =>
    have h : shOk st ∧ s.ok z ∧ mskOk mask s := by cases d <;> (rw [Nd.wf] at h; exact h)
    rw [Nd.wt]
    exact (br_ok h.1 h.2.1 h.2.2 _ _).2.2
  | tone nm ru st sh => exact clr_ok.up (by omega)
  | group nm mn st sh ns =>
    cases d with
    | zero => rw [Nd.wf] at h; exact h.elim
    | succ d =>
      rw [Nd.wf] at h
      have k := shown_ok x y h.2 clr_ok
      have := wtF_ok k h.1.1 h.1.2
      rw [Nd.wt]
      exact this.up (by omega)
theorem wts_mem {a : Nd} : ∀ {l : List Nd}, a ∈ l → a.wt ≤ Nd.wts l
  | x :: l, h => by
    rw [Nd.wts]
    rcases List.mem_cons.mp h with rfl | h
    · omega
    · have := wts_mem h
      omega
/-! ### the run -/
section
variable {P : Prog} (H : HFl P)
include H
theorem p_spot_of {d : Nat} {a : Nd} (x y : Int) (h : a.wf d) (hB : a.wt ≤ 150) (ht : a.isTone = false) : Run P (9 + 3 * d) "spot_of" [ndD a, .int x, .int y] (.fr (spD (a.brF x y))) := by
  cases a with
  | layer nm mn st sh l u mask sht z =>
    refine (Run.of (k := 5) H.spot_of rfl fun m' S hm => ?_).up (by omega)
    have h : shOk st ∧ sht.ok z ∧ mskOk mask sht := by cases d <;> (rw [Nd.wf] at h; exact h)
    have x0 := nd0 (.layer nm mn st sh l u mask sht z)
    have x3 := nd3 (.layer nm mn st sh l u mask sht z)
    have x5 : idxEv (ndD (.layer nm mn st sh l u mask sht z)) (.int 5) = some (.int l) := by rw [ndD]; rfl
    have x6 : idxEv (ndD (.layer nm mn st sh l u mask sht z)) (.int 6) = some (.int u) := by rw [ndD]; rfl
    have x8 : idxEv (ndD (.layer nm mn st sh l u mask sht z)) (.int 8) = some (shtD sht) := by rw [ndD]; rfl
    simp only [Nd.w0, Nd.st] at x0 x3
    obtain ⟨k1, k2, k3⟩ := br_ok h.1 h.2.1 h.2.2 (x - l) (y - u)
    have f1 := r_spot_at H.st h.2.1 (x - l) (y - u) m' S (by omega)
    have f2 := p_mask_at H (z := z) (nm := nm) (mn := mn) (st := st) (sh := sh) (l := l) (u := u) h.2.1 h.2.2 (x - l) (y - u) m' S (by omega)
    have f3 := p_times H.bl.sp (msk_ok h.2.2 (x - l) (y - u)).1 h.1.1 (by decide) m' S (by omega)
    have f4 := r_weighted H.bl.sp H.weighted (at_ok h.2.1 (x - l) (y - u)) k1 (by rw [Nd.wt] at hB; omega) m' S (by omega)
    rw [Nd.brF]
    unfold f_spot_of entry
    simp [Gz.evSs, Gz.evS, Gz.evE, Gz.evEs, Gz.evXs, Gz.evT, Gz.slotRv, Gz.Out.bind, Gz.Out.st, Gz.Out.toO, Gz.Out.calm, Gz.ofOpt, Gz.Op2.ev, Gz.Cm.ev, Gz.Rv.hold, Gz.Rv.cell, Gz.SO.then_, Gz.setE, Gz.itEv, Gz.lcLoop, Gz.forLoop, Gz.Tg.bind, Gz.bindL, Gz.wipeE, Gz.Bi.ev, Gz.idx_tup, Gz.idx_lst, Gz.idx_scr, Gz.sl_tL, Gz.sl_tU, Gz.sl_tB, Gz.sl_lL, Gz.sl_lU, Gz.sl_lB, Gz.D.toInt, Gz.truthR, Gz.D.truth, Gz.lim, Gz.atD_0, Gz.atD_1, Gz.atD_2, Gz.atD_3, Gz.atD_4, Gz.atD_5, Gz.atD_6, Gz.atD_7, Gz.atD_8, Gz.cut_lo1, Gz.cut_hi1, Gz.cut_hi2, Gz.cut_hi4, Gz.cut_hi5, Gz.gixEv, x0, x3, x5, x6, x8, s_lg, f1, f2, f3, f4]
  | tone => cases ht
  | group nm mn st sh ms =>
    cases d with
    | zero => rw [Nd.wf] at h; exact h.elim
    | succ d =>
      refine (Run.of (k := 8 + 3 * d) H.spot_of rfl fun m' S hm => ?_).up (by omega)
      rw [Nd.wf] at h
      rw [Nd.wt] at hB
      have x0 := nd0 (.group nm mn st sh ms)
      have x3 := nd3 (.group nm mn st sh ms)
      have x5 : idxEv (ndD (.group nm mn st sh ms)) (.int 5) = some (.tup (ndsD ms)) := by rw [ndD]; rfl
      simp only [Nd.w0, Nd.st] at x0 x3
      have k := shown_ok x y h.2 clr_ok
      have f1 := p_shown H d x y h.2 (by omega) m' S (by omega)
      have f2 := r_weighted H.bl.sp H.weighted k h.1.1 (by omega) m' S (by omega)
      rw [Nd.brF]
      unfold f_spot_of entry
      simp [Gz.evSs, Gz.evS, Gz.evE, Gz.evEs, Gz.evXs, Gz.evT, Gz.slotRv, Gz.Out.bind, Gz.Out.st, Gz.Out.toO, Gz.Out.calm, Gz.ofOpt, Gz.Op2.ev, Gz.Cm.ev, Gz.Rv.hold, Gz.Rv.cell, Gz.SO.then_, Gz.setE, Gz.itEv, Gz.lcLoop, Gz.forLoop, Gz.Tg.bind, Gz.bindL, Gz.wipeE, Gz.Bi.ev, Gz.idx_tup, Gz.idx_lst, Gz.idx_scr, Gz.sl_tL, Gz.sl_tU, Gz.sl_tB, Gz.sl_lL, Gz.sl_lU, Gz.sl_lB, Gz.D.toInt, Gz.truthR, Gz.D.truth, Gz.lim, Gz.atD_0, Gz.atD_1, Gz.atD_2, Gz.atD_3, Gz.atD_4, Gz.atD_5, Gz.atD_6, Gz.atD_7, Gz.atD_8, Gz.cut_lo1, Gz.cut_hi1, Gz.cut_hi2, Gz.cut_hi4, Gz.cut_hi5, Gz.gixEv, x0, x3, x5, s_gg, f1, f2]
theorem p_spots_of (hL : P.defs.lookup ("places" : Str) = some f_places) (hP : P.defs.lookup ("spots_of" : Str) = some f_spots_of) {d : Nat} {a : Nd} {p : Pic} (w0 : 0 < p.w) (w1 : p.w ≤ 8) (h1 : p.h ≤ 8) (h : a.wf d) (hB : a.wt ≤ 150) (ht : a.isTone = false) :
    Run P (10 + 3 * d) "spots_of" [picD p, ndD a] ⟨.lst ((List.range (p.w * p.h)).map fun i : Nat => spD (a.brF (((i % p.w : Nat)) : Int) (((i / p.w : Nat)) : Int))), .own⟩ := by
  refine (Run.of (k := 9 + 3 * d) hP rfl fun m' S hm => ?_).up (by omega)
  have e0 := r_places hL w0 (by omega) (h := p.h) (by omega) m' S (by omega)
  have e1 := fun x y => p_spot_of H x y h hB ht m' S (by omega)
  have x0 : idxEv (picD p) (.int 0) = some (.int p.w) := rfl
  have x1 : idxEv (picD p) (.int 1) = some (.int p.h) := rfl
  unfold f_spots_of entry
  rw [vSs_cons, vS_ret, lc_of (xs := [.lst (plcs p.w p.h)]) (as := List.range (p.w * p.h)) (e := plE p.w) (g := fun i => spD (a.brF (((i % p.w : Nat)) : Int) (((i / p.w : Nat)) : Int)))]
  · simp only [st_ok, then_rt]
  · simp [Gz.vSs_nil, Gz.vS_asg, Gz.vS_asgO, Gz.vS_asgT, Gz.vS_par, Gz.vS_app, Gz.vS_ext, Gz.vS_ret, Gz.vS_retO, Gz.vS_ifs, Gz.vS_for, Gz.vS_expr, Gz.vS_pass, Gz.vS_frz, Gz.vS_rais, Gz.vS_try, Gz.vE_var, Gz.vE_int, Gz.vE_bl, Gz.vE_non, Gz.vE_str, Gz.vE_glob, Gz.vE_fnv, Gz.vE_call, Gz.vE_bi, Gz.vE_gix, Gz.vE_bin, Gz.vE_cmp, Gz.vE_chain, Gz.vE_not, Gz.vE_and, Gz.vE_or, Gz.vE_ite, Gz.vE_tup, Gz.vE_lst, Gz.vE_idx, Gz.vE_slL, Gz.vE_slU, Gz.vE_isi, Gz.vE_isx, Gz.vE_calle, Gz.evEs, Gz.evXs, Gz.slotRv, Gz.bind_ok, Gz.bind_exc, Gz.st_ok, Gz.st_exc, Gz.toO_some, Gz.ofOpt_some, Gz.hold_fr, Gz.hold_own, Gz.Rv.cell, Gz.bind_one, Gz.then_nx, Gz.then_rt, Gz.then_ex, Gz.setE, Gz.Tg.bind, Gz.bindL, Gz.truthR, Gz.D.truth, x0, x1, e0]
  · rfl
  · exact rng_lim (by omega) (by omega)
  · intro i hi
    unfold lcF plE
    simp [Gz.evSs, Gz.evS, Gz.evE, Gz.evEs, Gz.evXs, Gz.evT, Gz.slotRv, Gz.Out.bind, Gz.Out.st, Gz.Out.toO, Gz.Out.calm, Gz.ofOpt, Gz.Op2.ev, Gz.Cm.ev, Gz.Rv.hold, Gz.Rv.cell, Gz.SO.then_, Gz.setE, Gz.itEv, Gz.lcLoop, Gz.forLoop, Gz.Tg.bind, Gz.bindL, Gz.wipeE, Gz.Bi.ev, Gz.idx_tup, Gz.idx_lst, Gz.idx_scr, Gz.sl_tL, Gz.sl_tU, Gz.sl_tB, Gz.sl_lL, Gz.sl_lU, Gz.sl_lB, Gz.D.toInt, Gz.truthR, Gz.D.truth, Gz.lim, Gz.atD_0, Gz.atD_1, Gz.atD_2, Gz.atD_3, Gz.atD_4, Gz.atD_5, Gz.atD_6, Gz.atD_7, Gz.atD_8, Gz.cut_lo1, Gz.cut_hi1, Gz.cut_hi2, Gz.cut_hi4, Gz.cut_hi5, Gz.gixEv, e1]
end
/-! ### needless -/
def plcAll (p : Pic) (f : Int → Int → Bool) : Bool := (List.range (p.w * p.h)).all fun i : Nat => f (((i % p.w : Nat)) : Int) (((i / p.w : Nat)) : Int)
def idleB (p : Pic) (a : Nd) : Bool := !a.sh || (decide (a.st = 0) || (!a.isTone && plcAll p fun x y => decide (a.brF x y = clr)))
def coverB (p : Pic) (a : Nd) : Bool := a.sh && (!a.isTone && (a.isOver && plcAll p fun x y => decide ((a.brF x y).c = 1)))
mutual
def Nd.needIn (p : Pic) : Nd → List Str
  | .layer _ _ _ _ _ _ _ _ _ => []
  | .tone _ _ _ _ => []
  | .group _ _ _ _ ns => needF p ns
def needF (p : Pic) : List Nd → List Str
  | [] => []
  | n :: ns => (if idleB p n || ns.any (coverB p) then [n.nm] else Nd.needIn p n) ++ needF p ns
end
structure HSe (P : Prog) : Prop where
  fl : HFl P
  none : P.cons.lookup ("NONE" : Str) = some (shD 0)
  places : P.defs.lookup ("places" : Str) = some f_places
  spots_of : P.defs.lookup ("spots_of" : Str) = some f_spots_of
  is_idle : P.defs.lookup ("is_idle" : Str) = some f_is_idle
  covers : P.defs.lookup ("covers" : Str) = some f_covers
  needless_in : P.defs.lookup ("needless_in" : Str) = some f_needless_in
  needless : P.defs.lookup ("needless" : Str) = some f_needless
section
variable {P : Prog} (H : HSe P) {p : Pic} {d : Nat} {a : Nd}
include H
end
end GzL
end -- HbG
section -- HbH
set_option maxHeartbeats 4000000
/-! HbH: needless, run; names within nodes. -/
namespace GzL
open PySem PySem.Spec PyProof.Rows L2 Gz
mutual
theorem needIn_len (p : Pic) : ∀ a : Nd, (a.needIn p).length ≤ a.wt - 1 ∧ 1 ≤ a.wt
  | .layer _ _ _ _ _ _ _ _ _ => by rw [Nd.needIn, Nd.wt]; exact ⟨Nat.zero_le _, by omega⟩
  | .tone _ _ _ _ => by rw [Nd.needIn, Nd.wt]; decide
  | .group _ _ _ _ ns => by
    rw [Nd.needIn, Nd.wt]
    have := need_len p ns
    omega
theorem need_len (p : Pic) : ∀ l : List Nd, (needF p l).length ≤ Nd.wts l
  | [] => by rw [needF]; exact Nat.zero_le _
  | n :: ns => by
    rw [needF, Nd.wts, List.length_append]
    have h1 := needIn_len p n
    have h2 := need_len p ns
    split
    · rw [List.length_singleton]; omega
    · omega
end
theorem len_wts : ∀ l : List Nd, l.length ≤ Nd.wts l
  | [] => by rw [List.length_nil]; exact Nat.zero_le _
  | x :: l => by
    have := len_wts l
    have := (needIn_len ⟨1, 1, []⟩ x).2
    rw [Nd.wts, List.length_cons]
    omega
section
variable {P : Prog} (H : HSe P) {p : Pic}
include H
end
end GzL
end -- HbH
section -- HbI
set_option maxHeartbeats 4000000
/-! HbI: names of nodes; comprehensions with a test. -/
namespace GzL
open PySem PySem.Spec PyProof.Rows L2 Gz
theorem lc_ofM {α : Type} {cl : Calls} {P : Prog} {vs : List (Str × Nat)} {tg : Tg} {k : Ik} {it cs : Es} {elt : Gz.E} {env : Gz.Env} {S : Store} {xs : List D} {as : List α} {e : α → D} {g : α → Option D} (h1 : evXs cl P it env S = .ok xs S) (h2 : itEv k xs = some (as.map e)) (h3 : as.length ≤ lim)
    (h4 : ∀ a ∈ as, lcF cl P vs tg cs elt env (e a) S = .ok (g a) S) : evE cl P (.lc vs tg k it cs elt) env S = .ok ⟨.lst (as.filterMap g), .own⟩ S := by
  rw [vE_lc, h1]
  simp only [Out.bind]
  rw [h2]
  simp only [ofOpt]
  rw [if_pos (by rw [List.length_map]; exact h3)]
  have : ∀ (as : List α) (acc : List D), (∀ a ∈ as, lcF cl P vs tg cs elt env (e a) S = .ok (g a) S) → lcLoop (lcF cl P vs tg cs elt env) (as.map e) acc S = .ok (acc ++ as.filterMap g) S := by
    intro as
    induction as with
    | nil => intro acc _; simp [lcLoop]
    | cons a as ih =>
      intro acc h
      rw [List.map_cons]
      unfold lcLoop
      rw [h a (by simp)]
      simp only [Out.bind]
      cases hg : g a with
      | none =>
        simp only
        rw [ih _ fun x hx => h x (by simp [hx]), List.filterMap_cons, hg]
      | some y =>
        simp only
        rw [ih _ fun x hx => h x (by simp [hx]), List.filterMap_cons, hg]
        simp
  rw [this as [] h4]
  rfl
/-! ### names within -/
mutual
def Nd.nms : Nd → List Str
  | .layer nm _ _ _ _ _ _ _ _ => [nm]
  | .tone nm _ _ _ => [nm]
  | .group nm _ _ _ ns => nm :: ndsNms ns
def ndsNms : List Nd → List Str
  | [] => []
  | n :: ns => n.nms ++ ndsNms ns
end
theorem nms_app : ∀ a b : List Nd, ndsNms (a ++ b) = ndsNms a ++ ndsNms b
  | [], b => by rw [ndsNms]; rfl
  | x :: a, b => by rw [List.cons_append, ndsNms, ndsNms, nms_app a b, List.append_assoc]
theorem nm_nms (a : Nd) : a.nm ∈ a.nms := by cases a <;> (rw [Nd.nms]; exact List.mem_cons_self)
/-! ### drawn names are unlike -/
theorem sign_inj : ∀ i < 14, ∀ j < 14, signF i = signF j → i = j := by decide +kernel
theorem nmF_inj (ns : List Int) (k : Int) {i j : Nat} (hi : i < 14) (hj : j < 14) (h : nmF ns k i = nmF ns k j) : i = j := by
  refine sign_inj i hi j hj ?_
  unfold nmF at h
  simp only at h
  generalize (if drF ns (k + 2 + 3 * (i : Int)) 2 = 0 then _ else _ : Str) = a at h
  generalize (if drF ns (k + 2 + 3 * (j : Int)) 2 = 0 then _ else _ : Str) = b at h
  obtain ⟨c, hc⟩ : ∃ c, signF i = ⟨#[c]⟩ := ⟨_, rfl⟩
  obtain ⟨d, hd⟩ : ∃ d, signF j = ⟨#[d]⟩ := ⟨_, rfl⟩
  rw [hc, hd] at h ⊢
  by_cases h0 : drF ns k 2 = 0
  · rw [if_pos h0, if_pos h0] at h
    have : #[c] ++ a.cps = #[d] ++ b.cps := congrArg Str.cps h
    have := congrArg Array.toList this
    simp at this
    rw [this.1]
  · rw [if_neg h0, if_neg h0] at h
    have : a.cps ++ #[c] = b.cps ++ #[d] := congrArg Str.cps h
    have := congrArg (fun x => x.toList.getLast?) this
    simp at this
    rw [this]
/-! ### what is compared -/
def chOk (s : Str) : Prop := PyData.strOk s = true
theorem chOk_iff (s : Str) : chOk s ↔ ∀ c ∈ s.cps.toList, c < 1114112 := by
  unfold chOk PyData.strOk
  simp only [Array.all_eq_true_iff_forall_mem, decide_eq_true_eq]
  constructor
  · intro h c hc
    exact h c (by simpa using hc)
  · intro h c hc
    exact h c (by simpa using hc)
theorem letter_ok (j : Int) : ∀ c ∈ (letterF j).cps.toList, c < 1114112 := by
  have al : ∀ c ∈ ("abcdefghijklmnopqrstuvwxyz" : Str).cps.toList, c < 1114112 := by decide +kernel
  unfold letterF
  intro c hc
  have hc : c = ((("abcdefghijklmnopqrstuvwxyz" : Str).cps.toList)[j.toNat]?).getD 97 := by simpa using hc
  subst hc
  generalize ("abcdefghijklmnopqrstuvwxyz" : Str).cps.toList = cs at *
  cases e : cs[j.toNat]? with
  | none => decide
  | some c => exact al c (List.mem_of_getElem? e)
theorem sign_ok (i : Nat) : ∀ c ∈ (signF i).cps.toList, c < 1114112 := by
  have al : ∀ c ∈ ("abcdefghijklmn" : Str).cps.toList, c < 1114112 := by decide +kernel
  unfold signF
  intro c hc
  have hc : c = ((("abcdefghijklmn" : Str).cps.toList)[i]?).getD 97 := by simpa using hc
  subst hc
  generalize ("abcdefghijklmn" : Str).cps.toList = cs at *
  cases e : cs[i]? with
  | none => decide
  | some c => exact al c (List.mem_of_getElem? e)
theorem nmF_ok (ns : List Int) (k : Int) (i : Nat) : chOk (nmF ns k i) := by
  have app : ∀ a b : Str, (∀ c ∈ a.cps.toList, c < 1114112) → (∀ c ∈ b.cps.toList, c < 1114112) → ∀ c ∈ (a ++ b).cps.toList, c < 1114112 := fun a b ha hb c hc => by
    have : c ∈ (a.cps ++ b.cps).toList := hc
    rw [Array.toList_append] at this
    rcases List.mem_append.mp this with h | h
    · exact ha c h
    · exact hb c h
  rw [chOk_iff]
  unfold nmF
  simp only
  have hw : ∀ c ∈ (cutS (wordF (drF ns (k + 1 + 3 * (i : Int) + ((0 : Nat) : Int)) 26) (drF ns (k + 1 + 3 * (i : Int) + ((1 : Nat) : Int)) 26)) (drF ns (k + 3 + 3 * (i : Int)) 3)).cps.toList, c < 1114112 := fun c hc => by
    have hc : c ∈ cut (wordF (drF ns (k + 1 + 3 * (i : Int) + ((0 : Nat) : Int)) 26) (drF ns (k + 1 + 3 * (i : Int) + ((1 : Nat) : Int)) 26)).cps.toList none (some (drF ns (k + 3 + 3 * (i : Int)) 3)) := by simpa [cutS] using hc
    have := (cut_sub _ _ _).2 c hc
    rw [word_is] at this
    exact app _ _ (letter_ok _) (letter_ok _) c this
  have h2 : ∀ c ∈ (if drF ns (k + 2 + 3 * (i : Int)) 2 = 0 then cutS (wordF (drF ns (k + 1 + 3 * (i : Int) + ((0 : Nat) : Int)) 26) (drF ns (k + 1 + 3 * (i : Int) + ((1 : Nat) : Int)) 26)) (drF ns (k + 3 + 3 * (i : Int)) 3) else cutS (wordF (drF ns (k + 1 + 3 * (i : Int) + ((0 : Nat) : Int)) 26) (drF ns (k + 1 + 3 * (i : Int) + ((1 : Nat) : Int)) 26)) (drF ns (k + 3 + 3 * (i : Int)) 3) ++ cutS (wordF (drF ns (k + 1 + 3 * (i : Int) + ((0 : Nat) : Int)) 26) (drF ns (k + 1 + 3 * (i : Int) + ((1 : Nat) : Int)) 26)) (drF ns (k + 3 + 3 * (i : Int)) 3)).cps.toList, c < 1114112 := by
    split
    · exact hw
    · exact app _ _ hw hw
  split
  · exact app _ _ (sign_ok i) h2
  · exact app _ _ h2 (sign_ok i)
theorem mn_chOk (m : Mn) : chOk m.s := by cases m <;> (unfold chOk; decide +kernel)
theorem ru_chOk (m : Ru) : chOk m.s := by cases m <;> (unfold chOk; decide +kernel)
theorem okq_str {n : Nat} {s : Str} (h : chOk s) : (D.str s).okq n = true := by cases n <;> (rw [D.okq]; exact h)
theorem okq_prim (n : Nat) : (∀ i, (D.int i).okq n = true) ∧ (∀ b, (D.bl b).okq n = true) ∧ D.non.okq n = true := by cases n <;> simp [D.okq]
theorem okq_msk (n : Nat) (m : Option (List Rat)) : (mskD m).okq (n + 2) = true := by
  cases m with
  | none => exact (okq_prim _).2.2
  | some l =>
    unfold mskD
    rw [D.okq]
    exact oks_of fun d hd => by
      obtain ⟨q, _, rfl⟩ := List.mem_map.mp hd
      exact okq_sh n q
theorem okq_sht (n : Nat) (t : Sht) : (shtD t).okq (n + 4) = true := by
  have := oks_sps n (id : Sp → Sp) t.s
  unfold shtD
  simp [D.okq, D.oks]
  exact this
mutual
theorem okq_nd : ∀ (d : Nat) {a : Nd} (n : Nat), a.wf d → (∀ x ∈ a.nms, chOk x) → (ndD a).okq (n + 2 * d + 5) = true
  | d, .layer nm mn st sh l u mask s z, n, h, hn => by
    rw [Nd.nms] at hn
    have h1 := hn nm (by simp)
    have l1 : chOk "layer" := by unfold chOk; decide +kernel
    rw [ndD, show n + 2 * d + 5 = (n + 2 * d + 4) + 1 by omega, D.okq]
    simp only [D.oks, okq_str l1, okq_str h1, okq_str (mn_chOk mn), (okq_prim _).1, (okq_prim _).2.1, Bool.true_and]
    have q1 := okq_sh (n + 2 * d + 3) st
    have q2 := okq_msk (n + 2 * d + 2) mask
    have q3 := okq_sht (n + 2 * d) s
    rw [show n + 2 * d + 3 + 1 = n + 2 * d + 4 by omega] at q1
    rw [show n + 2 * d + 2 + 2 = n + 2 * d + 4 by omega] at q2
    rw [q1, q2, q3]
    rfl
  | d, .tone nm ru st sh, n, h, hn => by
    rw [Nd.nms] at hn
    have h1 := hn nm (by simp)
    have l1 : chOk "tone" := by unfold chOk; decide +kernel
    rw [ndD, show n + 2 * d + 5 = (n + 2 * d + 4) + 1 by omega, D.okq]
    simp only [D.oks, okq_str l1, okq_str h1, okq_str (ru_chOk ru), (okq_prim _).1, (okq_prim _).2.1, Bool.true_and]
    have q1 := okq_sh (n + 2 * d + 3) st
    rw [show n + 2 * d + 3 + 1 = n + 2 * d + 4 by omega] at q1
    rw [q1]
    rfl
  | 0, .group nm mn st sh ns, n, h, hn => by rw [Nd.wf] at h; exact h.elim
  | d + 1, .group nm mn st sh ns, n, h, hn => by
    rw [Nd.nms] at hn
    rw [Nd.wf] at h
    have h1 := hn nm (by simp)
    have l1 : chOk "group" := by unfold chOk; decide +kernel
    have q0 := oks_nd d n h.2 fun x hx => hn x (List.mem_cons_of_mem _ hx)
    rw [ndD, show n + 2 * (d + 1) + 5 = (n + 2 * d + 6) + 1 by omega, D.okq]
    simp only [D.oks, okq_str l1, okq_str h1, okq_str (mn_chOk mn), (okq_prim _).1, (okq_prim _).2.1, Bool.true_and]
    have q1 := okq_sh (n + 2 * d + 5) st
    rw [show n + 2 * d + 5 + 1 = n + 2 * d + 6 by omega] at q1
    rw [q1, show n + 2 * d + 6 = (n + 2 * d + 5) + 1 by omega, D.okq, q0]
    rfl
theorem oks_nd : ∀ (d : Nat) {l : List Nd} (n : Nat), Nd.wfs d l → (∀ x ∈ ndsNms l, chOk x) → D.oks (n + 2 * d + 5) (ndsD l) = true
  | d, [], n, h, hn => by rw [ndsD, D.oks]
  | d, a :: l, n, h, hn => by
    rw [ndsNms] at hn
    rw [Nd.wfs] at h
    rw [ndsD, D.oks, okq_nd d n h.1 fun x hx => hn x (List.mem_append_left _ hx), oks_nd d n h.2 fun x hx => hn x (List.mem_append_right _ hx)]
    rfl
end
theorem isin_strs {a : Str} {l : List Str} (ha : chOk a) (hl : ∀ x ∈ l, chOk x) : Cm.ev .isin (.str a) (.lst (l.map D.str)) = some (decide (a ∈ l)) ∧ Cm.ev .notin (.str a) (.lst (l.map D.str)) = some (!decide (a ∈ l)) := by
  have ok : D.oks 60 (l.map D.str) = true := oks_of fun d hd => by
    obtain ⟨x, hx, rfl⟩ := List.mem_map.mp hd
    exact okq_str (hl x hx)
  have an : ((l.map D.str).any fun z => z.eqb (.str a)) = decide (a ∈ l) := by
    rw [Bool.eq_iff_iff, List.any_eq_true, decide_eq_true_eq]
    constructor
    · rintro ⟨d, hd, e⟩
      obtain ⟨x, hx, rfl⟩ := List.mem_map.mp hd
      rw [D.eqb, beq_iff_eq] at e
      rwa [← e]
    · intro h
      exact ⟨_, List.mem_map.mpr ⟨a, h, rfl⟩, by rw [D.eqb]; simp⟩
  have h1 : Cm.ev .isin (.str a) (.lst (l.map D.str)) = if (D.str a).okq 60 && D.oks 60 (l.map D.str) then some ((l.map D.str).any fun z => z.eqb (.str a)) else none := rfl
  have h2 : Cm.ev .notin (.str a) (.lst (l.map D.str)) = if (D.str a).okq 60 && D.oks 60 (l.map D.str) then some (!(l.map D.str).any fun z => z.eqb (.str a)) else none := rfl
  rw [h1, h2, okq_str ha, ok, an]
  exact ⟨rfl, rfl⟩
end GzL
end -- HbI
section -- HbJ
set_option maxHeartbeats 4000000
/-! HbJ: all nodes; the node of a name changed: plain law. -/
namespace GzL
open PySem PySem.Spec PyProof.Rows L2 Gz
mutual
def Nd.allN : Nd → List Nd
  | .layer nm mn st sh l u mask s z => [.layer nm mn st sh l u mask s z]
  | .tone nm ru st sh => [.tone nm ru st sh]
  | .group nm mn st sh ns => .group nm mn st sh ns :: allF ns
def allF : List Nd → List Nd
  | [] => []
  | n :: ns => n.allN ++ allF ns
end
theorem allF_app : ∀ a b : List Nd, allF (a ++ b) = allF a ++ allF b
  | [], b => by rw [allF]; rfl
  | x :: a, b => by rw [List.cons_append, allF, allF, allF_app a b, List.append_assoc]
mutual
theorem allN_len : ∀ a : Nd, a.allN.length ≤ a.wt
  | .layer _ _ _ _ _ _ _ _ _ => by rw [Nd.allN, Nd.wt, List.length_singleton]; omega
  | .tone _ _ _ _ => by rw [Nd.allN, Nd.wt, List.length_singleton]; omega
  | .group _ _ _ _ ns => by
    have := allF_len ns
    rw [Nd.allN, Nd.wt, List.length_cons]; omega
theorem allF_len : ∀ l : List Nd, (allF l).length ≤ Nd.wts l
  | [] => by rw [allF]; exact Nat.zero_le _
  | n :: ns => by
    have := allN_len n
    have := allF_len ns
    rw [allF, Nd.wts, List.length_append]; omega
end
mutual
theorem allN_wf : ∀ {d : Nat} (a : Nd), a.wf d → ∀ b ∈ a.allN, b.wf d ∧ (∀ x ∈ b.nms, x ∈ a.nms)
  | d, .layer nm mn st sh l u mask s z, h, b, hb => by
    rw [Nd.allN, List.mem_singleton] at hb
    subst hb
    exact ⟨h, fun x hx => hx⟩
  | d, .tone nm ru st sh, h, b, hb => by
    rw [Nd.allN, List.mem_singleton] at hb
    subst hb
    exact ⟨h, fun x hx => hx⟩
  | 0, .group nm mn st sh ns, h, b, hb => by rw [Nd.wf] at h; exact h.elim
  | d + 1, .group nm mn st sh ns, h, b, hb => by
    rw [Nd.allN] at hb
    rcases List.mem_cons.mp hb with rfl | hb
    · exact ⟨h, fun x hx => hx⟩
    · rw [Nd.wf] at h
      obtain ⟨h1, h2⟩ := allF_wf ns h.2 b hb
      exact ⟨wf_up h1, fun x hx => by rw [Nd.nms]; exact List.mem_cons_of_mem _ (h2 x hx)⟩
theorem allF_wf : ∀ {d : Nat} (l : List Nd), Nd.wfs d l → ∀ b ∈ allF l, b.wf d ∧ (∀ x ∈ b.nms, x ∈ ndsNms l)
  | d, [], h, b, hb => by rw [allF] at hb; cases hb
  | d, n :: ns, h, b, hb => by
    rw [allF] at hb
    rw [Nd.wfs] at h
    rcases List.mem_append.mp hb with hb | hb
    · obtain ⟨h1, h2⟩ := allN_wf n h.1 b hb
      exact ⟨h1, fun x hx => by rw [ndsNms]; exact List.mem_append_left _ (h2 x hx)⟩
    · obtain ⟨h1, h2⟩ := allF_wf ns h.2 b hb
      exact ⟨h1, fun x hx => by rw [ndsNms]; exact List.mem_append_right _ (h2 x hx)⟩
end
mutual
theorem allN_nms : ∀ a : Nd, a.allN.map Nd.nm = a.nms
  | .layer _ _ _ _ _ _ _ _ _ => by rw [Nd.allN, Nd.nms]; rfl
  | .tone _ _ _ _ => by rw [Nd.allN, Nd.nms]; rfl
  | .group _ _ _ _ ns => by rw [Nd.allN, Nd.nms, List.map_cons, allF_nms ns]; rfl
theorem allF_nms : ∀ l : List Nd, (allF l).map Nd.nm = ndsNms l
  | [] => by rw [allF, ndsNms]; rfl
  | n :: ns => by rw [allF, ndsNms, List.map_append, allN_nms n, allF_nms ns]
end
/-! ### the list of a name, lists changed -/
mutual
def Nd.lwN (nm : Str) : Nd → Option (List Nd)
  | .layer _ _ _ _ _ _ _ _ _ => none
  | .tone _ _ _ _ => none
  | .group _ _ _ _ ns => if nm ∈ ns.map Nd.nm then some ns else lwL nm ns
def lwL (nm : Str) : List Nd → Option (List Nd)
  | [] => none
  | n :: ns => match n.lwN nm with
    | some l => some l
    | none => lwL nm ns
end
def lwF (nm : Str) (l : List Nd) : Option (List Nd) := if nm ∈ l.map Nd.nm then some l else lwL nm l
mutual
def Nd.chN (nm : Str) (o : List Nd) : Nd → Nd
  | .layer a mn st sh l u mask s z => .layer a mn st sh l u mask s z
  | .tone a ru st sh => .tone a ru st sh
  | .group a mn st sh ns => .group a mn st sh (if nm ∈ ns.map Nd.nm then o else chL nm o ns)
def chL (nm : Str) (o : List Nd) : List Nd → List Nd
  | [] => []
  | n :: ns => n.chN nm o :: chL nm o ns
end
def chF (nm : Str) (o l : List Nd) : List Nd := if nm ∈ l.map Nd.nm then o else chL nm o l
mutual
/-- with another node of a name -/
def Nd.wnN (nm : Str) (b : Nd) : Nd → Nd
  | .layer a mn st sh l u mask s z => .layer a mn st sh l u mask s z
  | .tone a ru st sh => .tone a ru st sh
  | .group a mn st sh ns => .group a mn st sh (wnL nm b ns)
def wnL (nm : Str) (b : Nd) : List Nd → List Nd
  | [] => []
  | n :: ns => (if n.nm = nm then b else Nd.wnN nm b n) :: wnL nm b ns
end
theorem nm_in_nms {nm : Str} : ∀ {l : List Nd}, nm ∈ l.map Nd.nm → nm ∈ ndsNms l
  | x :: l, h => by
    rw [ndsNms]
    rw [List.map_cons] at h
    rcases List.mem_cons.mp h with rfl | h
    · exact List.mem_append_left _ (nm_nms x)
    · exact List.mem_append_right _ (nm_in_nms h)
mutual
theorem no_N {nm : Str} {o : List Nd} {b : Nd} : ∀ a : Nd, nm ∉ a.nms → a.lwN nm = none ∧ a.chN nm o = a ∧ (if a.nm = nm then b else Nd.wnN nm b a) = a
  | .layer a mn st sh l u mask s z, h => by
    rw [Nd.nms, List.mem_singleton] at h
    rw [Nd.lwN, Nd.chN, Nd.wnN]
    exact ⟨rfl, rfl, if_neg fun e => h e.symm⟩
  | .tone a ru st sh, h => by
    rw [Nd.nms, List.mem_singleton] at h
    rw [Nd.lwN, Nd.chN, Nd.wnN]
    exact ⟨rfl, rfl, if_neg fun e => h e.symm⟩
  | .group a mn st sh ns, h => by
    rw [Nd.nms, List.mem_cons, not_or] at h
    obtain ⟨h1, h2, h3⟩ := no_L (o := o) (b := b) ns h.2
    have hn : nm ∉ ns.map Nd.nm := fun q => h.2 (nm_in_nms q)
    rw [Nd.lwN, Nd.chN, Nd.wnN, if_neg hn, if_neg hn, h1, h2, h3]
    exact ⟨rfl, rfl, if_neg fun e => h.1 e.symm⟩
theorem no_L {nm : Str} {o : List Nd} {b : Nd} : ∀ l : List Nd, nm ∉ ndsNms l → lwL nm l = none ∧ chL nm o l = l ∧ wnL nm b l = l
  | [], h => by rw [lwL, chL, wnL]; exact ⟨rfl, rfl, rfl⟩
  | n :: ns, h => by
    rw [ndsNms, List.mem_append, not_or] at h
    obtain ⟨h1, h2, h3⟩ := no_N (o := o) (b := b) n h.1
    obtain ⟨k1, k2, k3⟩ := no_L (o := o) (b := b) ns h.2
    rw [lwL, chL, wnL, h1, h2, h3, k1, k2, k3]
    exact ⟨rfl, rfl, rfl⟩
end
/-! ### what it shows -/
end GzL
end -- HbJ
section -- HbK
set_option maxHeartbeats 4000000
/-! HbK: all nodes; the node of a name changed: the run. -/
namespace GzL
open PySem PySem.Spec PyProof.Rows L2 Gz
def Nd.isGr : Nd → Bool
  | .group _ _ _ _ _ => true
  | _ => false
theorem w0_gr (a : Nd) : eqO (.str a.w0) (.str "group") = some a.isGr := by
  cases a
  · exact s_lg
  · exact s_tg
  · exact s_gg
def Nd.kids : Nd → List Nd
  | .group _ _ _ _ ns => ns
  | _ => []
theorem nd5 {a : Nd} (h : a.isGr = true) : idxEv (ndD a) (.int 5) = some (.tup (ndsD a.kids)) := by
  cases a with
  | group => rw [ndD]; rfl
  | layer => cases h
  | tone => cases h
theorem kids_wf {d : Nat} {a : Nd} (h : a.isGr = true) (hw : a.wf d) : ∃ e, d = e + 1 ∧ Nd.wfs e a.kids ∧ a.wt = 1 + Nd.wts a.kids := by
  cases a with
  | group nm mn st sh ns =>
    cases d with
    | zero => rw [Nd.wf] at hw; exact hw.elim
    | succ d => rw [Nd.wf] at hw; exact ⟨d, rfl, hw.2, by rw [Nd.wt]; rfl⟩
  | layer => cases h
  | tone => cases h
theorem allN_gr (a : Nd) : a.allN = a :: (if a.isGr then allF a.kids else []) := by
  cases a <;> (rw [Nd.allN]; rfl)
theorem nms_gr (a : Nd) : a.nms = a.nm :: (if a.isGr then ndsNms a.kids else []) := by
  cases a <;> (rw [Nd.nms]; rfl)
theorem ndsD_snoc (l : List Nd) (a : Nd) : ndsD (l ++ [a]) = ndsD l ++ [ndD a] := by simp only [ndsD_map, List.map_append, List.map_cons, List.map_nil]
theorem ndsD_app (l m : List Nd) : ndsD (l ++ m) = ndsD l ++ ndsD m := by simp only [ndsD_map, List.map_append]
theorem take_succ' (l : List Nd) {j : Nat} (h : j < l.length) : l.take (j + 1) = l.take j ++ [l[j]] := by
  rw [List.take_succ, List.getElem?_eq_getElem h]
  rfl
theorem wts_take (l : List Nd) (j : Nat) : Nd.wts (l.take j) ≤ Nd.wts l := by
  have := congrArg Nd.wts (List.take_append_drop j l)
  rw [wts_append] at this
  omega
theorem allF_one (a : Nd) : allF [a] = a.allN := by rw [allF, allF, List.append_nil]
theorem nds_get {l : List Nd} {j : Nat} {x : D} (h : (ndsD l)[j]? = some x) : ∃ hlt : j < l.length, x = ndD l[j] := by
  rw [ndsD_map, List.getElem?_map] at h
  obtain ⟨a, ha, rfl⟩ := Option.map_eq_some_iff.mp h
  obtain ⟨hlt, rfl⟩ := List.getElem?_eq_some_iff.mp ha
  exact ⟨hlt, rfl⟩
section
variable {P : Prog}
theorem p_all (hP : P.defs.lookup ("all_nodes" : Str) = some f_all_nodes) : ∀ (d : Nat) {l : List Nd}, Nd.wfs d l → Nd.wts l ≤ 1000 → Run P (1 + d) "all_nodes" [.tup (ndsD l)] ⟨.lst (ndsD (allF l)), .own⟩
  | d, l, hw, hB => by
    refine (Run.of (k := d) hP rfl fun m' S hm => ?_).up (by omega)
    unfold f_all_nodes entry
    rw [vSs_cons]
    simp [Gz.vSs_nil, Gz.vS_asg, Gz.vS_asgO, Gz.vS_asgT, Gz.vS_par, Gz.vS_app, Gz.vS_ext, Gz.vS_ret, Gz.vS_retO, Gz.vS_ifs, Gz.vS_for, Gz.vS_expr, Gz.vS_pass, Gz.vS_frz, Gz.vS_rais, Gz.vS_try, Gz.vE_var, Gz.vE_int, Gz.vE_bl, Gz.vE_non, Gz.vE_str, Gz.vE_glob, Gz.vE_fnv, Gz.vE_call, Gz.vE_bi, Gz.vE_gix, Gz.vE_bin, Gz.vE_cmp, Gz.vE_chain, Gz.vE_not, Gz.vE_and, Gz.vE_or, Gz.vE_ite, Gz.vE_tup, Gz.vE_lst, Gz.vE_idx, Gz.vE_slL, Gz.vE_slU, Gz.vE_isi, Gz.vE_isx, Gz.vE_calle, Gz.evEs, Gz.evXs, Gz.slotRv, Gz.bind_ok, Gz.bind_exc, Gz.st_ok, Gz.st_exc, Gz.toO_some, Gz.ofOpt_some, Gz.hold_fr, Gz.hold_own, Gz.Rv.cell, Gz.bind_one, Gz.then_nx, Gz.then_rt, Gz.then_ex, Gz.setE, Gz.Tg.bind, Gz.bindL, Gz.truthR, Gz.D.truth]
    rw [vSs_cons, vS_for_of (xs := [.tup (ndsD l)]) (ds := ndsD l) (by simp [Gz.vSs_nil, Gz.vS_asg, Gz.vS_asgO, Gz.vS_asgT, Gz.vS_par, Gz.vS_app, Gz.vS_ext, Gz.vS_ret, Gz.vS_retO, Gz.vS_ifs, Gz.vS_for, Gz.vS_expr, Gz.vS_pass, Gz.vS_frz, Gz.vS_rais, Gz.vS_try, Gz.vE_var, Gz.vE_int, Gz.vE_bl, Gz.vE_non, Gz.vE_str, Gz.vE_glob, Gz.vE_fnv, Gz.vE_call, Gz.vE_bi, Gz.vE_gix, Gz.vE_bin, Gz.vE_cmp, Gz.vE_chain, Gz.vE_not, Gz.vE_and, Gz.vE_or, Gz.vE_ite, Gz.vE_tup, Gz.vE_lst, Gz.vE_idx, Gz.vE_slL, Gz.vE_slU, Gz.vE_isi, Gz.vE_isx, Gz.vE_calle, Gz.evEs, Gz.evXs, Gz.slotRv, Gz.bind_ok, Gz.bind_exc, Gz.st_ok, Gz.st_exc, Gz.toO_some, Gz.ofOpt_some, Gz.hold_fr, Gz.hold_own, Gz.Rv.cell, Gz.bind_one, Gz.then_nx, Gz.then_rt, Gz.then_ex, Gz.setE, Gz.Tg.bind, Gz.bindL, Gz.truthR, Gz.D.truth]) rfl]
    refine Eq.symm (for_inv (fun j env => ∃ c2, env = [.fr (.tup (ndsD l)), .own (ndsD (allF (l.take j))), c2]) ⟨_, by rw [List.take_zero, allF, ndsD]⟩ ?_ ?_)
    · rintro j x env hj ⟨c2, rfl⟩
      obtain ⟨hlt, rfl⟩ := nds_get hj
      rw [take_succ' l hlt, allF_app, allF_one, allN_gr]
      have ha := wfs_iff.mp hw l[j] (List.getElem_mem hlt)
      have hb := wts_mem (List.getElem_mem hlt)
      have h1 := allF_len (l.take j)
      have h2 := wts_take l j
      generalize l[j] = a at *
      have x0 := nd0 a
      have g0 := w0_gr a
      generalize hA : allF (l.take j) = A at *
      have l1 : (ndsD A).length < lim := by rw [ndsD_len, limE]; omega
      simp only [bind_one, toO_some]
      rw [vSs_cons]
      cases hg : a.isGr with
      | false =>
        rw [if_neg (by decide), ndsD_snoc]
        rw [hg] at g0
        generalize ndsD A = B at *
        simp [Gz.vSs_nil, Gz.vS_asg, Gz.vS_asgO, Gz.vS_asgT, Gz.vS_par, Gz.vS_app, Gz.vS_ext, Gz.vS_ret, Gz.vS_retO, Gz.vS_ifs, Gz.vS_for, Gz.vS_expr, Gz.vS_pass, Gz.vS_frz, Gz.vS_rais, Gz.vS_try, Gz.vE_var, Gz.vE_int, Gz.vE_bl, Gz.vE_non, Gz.vE_str, Gz.vE_glob, Gz.vE_fnv, Gz.vE_call, Gz.vE_bi, Gz.vE_gix, Gz.vE_bin, Gz.vE_cmp, Gz.vE_chain, Gz.vE_not, Gz.vE_and, Gz.vE_or, Gz.vE_ite, Gz.vE_tup, Gz.vE_lst, Gz.vE_idx, Gz.vE_slL, Gz.vE_slU, Gz.vE_isi, Gz.vE_isx, Gz.vE_calle, Gz.evEs, Gz.evXs, Gz.slotRv, Gz.bind_ok, Gz.bind_exc, Gz.st_ok, Gz.st_exc, Gz.toO_some, Gz.ofOpt_some, Gz.hold_fr, Gz.hold_own, Gz.Rv.cell, Gz.bind_one, Gz.then_nx, Gz.then_rt, Gz.then_ex, Gz.setE, Gz.Tg.bind, Gz.bindL, Gz.truthR, Gz.D.truth, l1]
        rw [vSs_cons]
        simp [Gz.vSs_nil, Gz.vS_asg, Gz.vS_asgO, Gz.vS_asgT, Gz.vS_par, Gz.vS_app, Gz.vS_ext, Gz.vS_ret, Gz.vS_retO, Gz.vS_ifs, Gz.vS_for, Gz.vS_expr, Gz.vS_pass, Gz.vS_frz, Gz.vS_rais, Gz.vS_try, Gz.vE_var, Gz.vE_int, Gz.vE_bl, Gz.vE_non, Gz.vE_str, Gz.vE_glob, Gz.vE_fnv, Gz.vE_call, Gz.vE_bi, Gz.vE_gix, Gz.vE_bin, Gz.vE_cmp, Gz.vE_chain, Gz.vE_not, Gz.vE_and, Gz.vE_or, Gz.vE_ite, Gz.vE_tup, Gz.vE_lst, Gz.vE_idx, Gz.vE_slL, Gz.vE_slU, Gz.vE_isi, Gz.vE_isx, Gz.vE_calle, Gz.evEs, Gz.evXs, Gz.slotRv, Gz.bind_ok, Gz.bind_exc, Gz.st_ok, Gz.st_exc, Gz.toO_some, Gz.ofOpt_some, Gz.hold_fr, Gz.hold_own, Gz.Rv.cell, Gz.bind_one, Gz.then_nx, Gz.then_rt, Gz.then_ex, Gz.setE, Gz.Tg.bind, Gz.bindL, Gz.truthR, Gz.D.truth, Gz.Cm.ev, x0, g0]
        exact ⟨_, rfl, _, rfl⟩
      | true =>
        rw [hg] at g0
        obtain ⟨e, rfl, k1, k2⟩ := kids_wf hg ha
        have f := p_all hP e k1 (by omega) m' S (by omega)
        have x5 := nd5 hg
        have h3 := allF_len a.kids
        rw [if_pos rfl, show A ++ a :: allF a.kids = (A ++ [a]) ++ allF a.kids by simp, ndsD_app, ndsD_snoc]
        have l2 : (ndsD A ++ [ndD a]).length + (ndsD (allF a.kids)).length ≤ lim := by rw [List.length_append, ndsD_len, ndsD_len, limE, List.length_singleton]; omega
        generalize ndsD (allF a.kids) = C at *
        generalize ndsD A = B at *
        simp [Gz.vSs_nil, Gz.vS_asg, Gz.vS_asgO, Gz.vS_asgT, Gz.vS_par, Gz.vS_app, Gz.vS_ext, Gz.vS_ret, Gz.vS_retO, Gz.vS_ifs, Gz.vS_for, Gz.vS_expr, Gz.vS_pass, Gz.vS_frz, Gz.vS_rais, Gz.vS_try, Gz.vE_var, Gz.vE_int, Gz.vE_bl, Gz.vE_non, Gz.vE_str, Gz.vE_glob, Gz.vE_fnv, Gz.vE_call, Gz.vE_bi, Gz.vE_gix, Gz.vE_bin, Gz.vE_cmp, Gz.vE_chain, Gz.vE_not, Gz.vE_and, Gz.vE_or, Gz.vE_ite, Gz.vE_tup, Gz.vE_lst, Gz.vE_idx, Gz.vE_slL, Gz.vE_slU, Gz.vE_isi, Gz.vE_isx, Gz.vE_calle, Gz.evEs, Gz.evXs, Gz.slotRv, Gz.bind_ok, Gz.bind_exc, Gz.st_ok, Gz.st_exc, Gz.toO_some, Gz.ofOpt_some, Gz.hold_fr, Gz.hold_own, Gz.Rv.cell, Gz.bind_one, Gz.then_nx, Gz.then_rt, Gz.then_ex, Gz.setE, Gz.Tg.bind, Gz.bindL, Gz.truthR, Gz.D.truth, l1]
        rw [vSs_cons]
        have l3 : B.length + 1 + C.length ≤ lim := by simpa using l2
        simp [Gz.vSs_nil, Gz.vS_asg, Gz.vS_asgO, Gz.vS_asgT, Gz.vS_par, Gz.vS_app, Gz.vS_ext, Gz.vS_ret, Gz.vS_retO, Gz.vS_ifs, Gz.vS_for, Gz.vS_expr, Gz.vS_pass, Gz.vS_frz, Gz.vS_rais, Gz.vS_try, Gz.vE_var, Gz.vE_int, Gz.vE_bl, Gz.vE_non, Gz.vE_str, Gz.vE_glob, Gz.vE_fnv, Gz.vE_call, Gz.vE_bi, Gz.vE_gix, Gz.vE_bin, Gz.vE_cmp, Gz.vE_chain, Gz.vE_not, Gz.vE_and, Gz.vE_or, Gz.vE_ite, Gz.vE_tup, Gz.vE_lst, Gz.vE_idx, Gz.vE_slL, Gz.vE_slU, Gz.vE_isi, Gz.vE_isx, Gz.vE_calle, Gz.evEs, Gz.evXs, Gz.slotRv, Gz.bind_ok, Gz.bind_exc, Gz.st_ok, Gz.st_exc, Gz.toO_some, Gz.ofOpt_some, Gz.hold_fr, Gz.hold_own, Gz.Rv.cell, Gz.bind_one, Gz.then_nx, Gz.then_rt, Gz.then_ex, Gz.setE, Gz.Tg.bind, Gz.bindL, Gz.truthR, Gz.D.truth, Gz.vSs_cons, Gz.Cm.ev, x0, g0, x5, f, l3]
        exact ⟨_, rfl, _, rfl⟩
    · rintro env ⟨c2, rfl⟩
      rw [ndsD_len, List.take_length, vSs_cons]
      simp [Gz.vSs_nil, Gz.vS_asg, Gz.vS_asgO, Gz.vS_asgT, Gz.vS_par, Gz.vS_app, Gz.vS_ext, Gz.vS_ret, Gz.vS_retO, Gz.vS_ifs, Gz.vS_for, Gz.vS_expr, Gz.vS_pass, Gz.vS_frz, Gz.vS_rais, Gz.vS_try, Gz.vE_var, Gz.vE_int, Gz.vE_bl, Gz.vE_non, Gz.vE_str, Gz.vE_glob, Gz.vE_fnv, Gz.vE_call, Gz.vE_bi, Gz.vE_gix, Gz.vE_bin, Gz.vE_cmp, Gz.vE_chain, Gz.vE_not, Gz.vE_and, Gz.vE_or, Gz.vE_ite, Gz.vE_tup, Gz.vE_lst, Gz.vE_idx, Gz.vE_slL, Gz.vE_slU, Gz.vE_isi, Gz.vE_isx, Gz.vE_calle, Gz.evEs, Gz.evXs, Gz.slotRv, Gz.bind_ok, Gz.bind_exc, Gz.st_ok, Gz.st_exc, Gz.toO_some, Gz.ofOpt_some, Gz.hold_fr, Gz.hold_own, Gz.Rv.cell, Gz.bind_one, Gz.then_nx, Gz.then_rt, Gz.then_ex, Gz.setE, Gz.Tg.bind, Gz.bindL, Gz.truthR, Gz.D.truth]
  termination_by d => d
/-- the names of nodes -/
theorem nm_lc {cl : Calls} {env : Gz.Env} {S : Store} {i : Nat} {x : Str} {it : Es} {l : List Nd} (hi : i < env.length) (hl : l.length ≤ 1000) (h1 : evXs cl P it env S = .ok [.tup (ndsD l)] S) :
    evE cl P (.lc [(x, i)] (.one i) .seq it (.nil) (.idx (.var i) (.int 1))) env S = .ok ⟨.lst ((l.map Nd.nm).map D.str), .own⟩ S := by
  rw [lc_of (xs := [.tup (ndsD l)]) (as := l) (e := ndD) (g := fun a => D.str a.nm)]
  · rw [List.map_map]; rfl
  · exact h1
  · rw [ndsD_map]; rfl
  · rw [limE]; omega
  · intro a _
    have := nd1 a
    unfold lcF
    simp [Gz.evSs, Gz.evS, Gz.evE, Gz.evEs, Gz.evXs, Gz.evT, Gz.slotRv, Gz.Out.bind, Gz.Out.st, Gz.Out.toO, Gz.Out.calm, Gz.ofOpt, Gz.Op2.ev, Gz.Cm.ev, Gz.Rv.hold, Gz.Rv.cell, Gz.SO.then_, Gz.setE, Gz.itEv, Gz.lcLoop, Gz.forLoop, Gz.Tg.bind, Gz.bindL, Gz.wipeE, Gz.Bi.ev, Gz.idx_tup, Gz.idx_lst, Gz.idx_scr, Gz.sl_tL, Gz.sl_tU, Gz.sl_tB, Gz.sl_lL, Gz.sl_lU, Gz.sl_lB, Gz.D.toInt, Gz.truthR, Gz.D.truth, Gz.lim, Gz.atD_0, Gz.atD_1, Gz.atD_2, Gz.atD_3, Gz.atD_4, Gz.atD_5, Gz.atD_6, Gz.atD_7, Gz.atD_8, Gz.cut_lo1, Gz.cut_hi1, Gz.cut_hi2, Gz.cut_hi4, Gz.cut_hi5, Gz.gixEv, this, hi]
structure HWb (P : Prog) : Prop where
  all : P.defs.lookup ("all_nodes" : Str) = some f_all_nodes
  named : P.defs.lookup ("node_named" : Str) = some f_node_named
  lw : P.defs.lookup ("list_with" : Str) = some f_list_with
  ch : P.defs.lookup ("lists_changed" : Str) = some f_lists_changed
  pl : P.defs.lookup ("place_of" : Str) = some f_place_of
  around : P.defs.lookup ("around" : Str) = some f_around
  wl : P.defs.lookup ("with_list" : Str) = some f_with_list
def optD : Option (List Nd) → D
  | none => .non
  | some m => .tup (ndsD m)
theorem nms_sub {l : List Nd} {a : Nd} (h : a ∈ l) : ∀ x ∈ a.nms, x ∈ ndsNms l := by
  induction l with
  | nil => cases h
  | cons b l ih =>
    intro x hx
    rw [ndsNms]
    rcases List.mem_cons.mp h with rfl | h
    · exact List.mem_append_left _ hx
    · exact List.mem_append_right _ (ih h x hx)
theorem lwN_gr (nm : Str) (a : Nd) : a.lwN nm = if a.isGr then lwF nm a.kids else none := by
  cases a <;> (rw [Nd.lwN]; rfl)
theorem p_list_with (H : HWb P) {nm : Str} (hc : chOk nm) : ∀ (d : Nat) {l : List Nd}, Nd.wfs d l → Nd.wts l ≤ 1000 → (∀ x ∈ ndsNms l, chOk x) → Run P (1 + d) "list_with" [.tup (ndsD l), .str nm] (.fr (optD (lwF nm l)))
  | d, l, hw, hB, hn => by
    refine (Run.of (k := d) H.lw rfl fun m' S hm => ?_).up (by omega)
    have ll := len_wts l
    have is := (isin_strs (a := nm) (l := l.map Nd.nm) hc fun x hx => hn x (nm_in_nms hx)).1
    unfold f_list_with entry
    rw [vSs_cons]
    simp [Gz.vSs_nil, Gz.vS_asg, Gz.vS_asgO, Gz.vS_asgT, Gz.vS_par, Gz.vS_app, Gz.vS_ext, Gz.vS_ret, Gz.vS_retO, Gz.vS_ifs, Gz.vS_for, Gz.vS_expr, Gz.vS_pass, Gz.vS_frz, Gz.vS_rais, Gz.vS_try, Gz.vE_var, Gz.vE_int, Gz.vE_bl, Gz.vE_non, Gz.vE_str, Gz.vE_glob, Gz.vE_fnv, Gz.vE_call, Gz.vE_bi, Gz.vE_gix, Gz.vE_bin, Gz.vE_cmp, Gz.vE_chain, Gz.vE_not, Gz.vE_and, Gz.vE_or, Gz.vE_ite, Gz.vE_tup, Gz.vE_lst, Gz.vE_idx, Gz.vE_slL, Gz.vE_slU, Gz.vE_isi, Gz.vE_isx, Gz.vE_calle, Gz.evEs, Gz.evXs, Gz.slotRv, Gz.bind_ok, Gz.bind_exc, Gz.st_ok, Gz.st_exc, Gz.toO_some, Gz.ofOpt_some, Gz.hold_fr, Gz.hold_own, Gz.Rv.cell, Gz.bind_one, Gz.then_nx, Gz.then_rt, Gz.then_ex, Gz.setE, Gz.Tg.bind, Gz.bindL, Gz.truthR, Gz.D.truth]
    rw [nm_lc (l := l) (by simp) (by omega) (by simp [Gz.vSs_nil, Gz.vS_asg, Gz.vS_asgO, Gz.vS_asgT, Gz.vS_par, Gz.vS_app, Gz.vS_ext, Gz.vS_ret, Gz.vS_retO, Gz.vS_ifs, Gz.vS_for, Gz.vS_expr, Gz.vS_pass, Gz.vS_frz, Gz.vS_rais, Gz.vS_try, Gz.vE_var, Gz.vE_int, Gz.vE_bl, Gz.vE_non, Gz.vE_str, Gz.vE_glob, Gz.vE_fnv, Gz.vE_call, Gz.vE_bi, Gz.vE_gix, Gz.vE_bin, Gz.vE_cmp, Gz.vE_chain, Gz.vE_not, Gz.vE_and, Gz.vE_or, Gz.vE_ite, Gz.vE_tup, Gz.vE_lst, Gz.vE_idx, Gz.vE_slL, Gz.vE_slU, Gz.vE_isi, Gz.vE_isx, Gz.vE_calle, Gz.evEs, Gz.evXs, Gz.slotRv, Gz.bind_ok, Gz.bind_exc, Gz.st_ok, Gz.st_exc, Gz.toO_some, Gz.ofOpt_some, Gz.hold_fr, Gz.hold_own, Gz.Rv.cell, Gz.bind_one, Gz.then_nx, Gz.then_rt, Gz.then_ex, Gz.setE, Gz.Tg.bind, Gz.bindL, Gz.truthR, Gz.D.truth])]
    unfold lwF
    generalize hN : (l.map Nd.nm).map D.str = N at *
    by_cases hi : nm ∈ l.map Nd.nm
    · rw [decide_eq_true hi] at is
      rw [if_pos hi]
      simp [Gz.vSs_nil, Gz.vS_asg, Gz.vS_asgO, Gz.vS_asgT, Gz.vS_par, Gz.vS_app, Gz.vS_ext, Gz.vS_ret, Gz.vS_retO, Gz.vS_ifs, Gz.vS_for, Gz.vS_expr, Gz.vS_pass, Gz.vS_frz, Gz.vS_rais, Gz.vS_try, Gz.vE_var, Gz.vE_int, Gz.vE_bl, Gz.vE_non, Gz.vE_str, Gz.vE_glob, Gz.vE_fnv, Gz.vE_call, Gz.vE_bi, Gz.vE_gix, Gz.vE_bin, Gz.vE_cmp, Gz.vE_chain, Gz.vE_not, Gz.vE_and, Gz.vE_or, Gz.vE_ite, Gz.vE_tup, Gz.vE_lst, Gz.vE_idx, Gz.vE_slL, Gz.vE_slU, Gz.vE_isi, Gz.vE_isx, Gz.vE_calle, Gz.evEs, Gz.evXs, Gz.slotRv, Gz.bind_ok, Gz.bind_exc, Gz.st_ok, Gz.st_exc, Gz.toO_some, Gz.ofOpt_some, Gz.hold_fr, Gz.hold_own, Gz.Rv.cell, Gz.bind_one, Gz.then_nx, Gz.then_rt, Gz.then_ex, Gz.setE, Gz.Tg.bind, Gz.bindL, Gz.truthR, Gz.D.truth, Gz.vSs_cons, is, optD]
    · rw [decide_eq_false hi] at is
      rw [if_neg hi]
      simp [Gz.vSs_nil, Gz.vS_asg, Gz.vS_asgO, Gz.vS_asgT, Gz.vS_par, Gz.vS_app, Gz.vS_ext, Gz.vS_ret, Gz.vS_retO, Gz.vS_ifs, Gz.vS_for, Gz.vS_expr, Gz.vS_pass, Gz.vS_frz, Gz.vS_rais, Gz.vS_try, Gz.vE_var, Gz.vE_int, Gz.vE_bl, Gz.vE_non, Gz.vE_str, Gz.vE_glob, Gz.vE_fnv, Gz.vE_call, Gz.vE_bi, Gz.vE_gix, Gz.vE_bin, Gz.vE_cmp, Gz.vE_chain, Gz.vE_not, Gz.vE_and, Gz.vE_or, Gz.vE_ite, Gz.vE_tup, Gz.vE_lst, Gz.vE_idx, Gz.vE_slL, Gz.vE_slU, Gz.vE_isi, Gz.vE_isx, Gz.vE_calle, Gz.evEs, Gz.evXs, Gz.slotRv, Gz.bind_ok, Gz.bind_exc, Gz.st_ok, Gz.st_exc, Gz.toO_some, Gz.ofOpt_some, Gz.hold_fr, Gz.hold_own, Gz.Rv.cell, Gz.bind_one, Gz.then_nx, Gz.then_rt, Gz.then_ex, Gz.setE, Gz.Tg.bind, Gz.bindL, Gz.truthR, Gz.D.truth, is]
      rw [vSs_cons, vS_for_of (xs := [.tup (ndsD l)]) (ds := ndsD l) (by simp [Gz.vSs_nil, Gz.vS_asg, Gz.vS_asgO, Gz.vS_asgT, Gz.vS_par, Gz.vS_app, Gz.vS_ext, Gz.vS_ret, Gz.vS_retO, Gz.vS_ifs, Gz.vS_for, Gz.vS_expr, Gz.vS_pass, Gz.vS_frz, Gz.vS_rais, Gz.vS_try, Gz.vE_var, Gz.vE_int, Gz.vE_bl, Gz.vE_non, Gz.vE_str, Gz.vE_glob, Gz.vE_fnv, Gz.vE_call, Gz.vE_bi, Gz.vE_gix, Gz.vE_bin, Gz.vE_cmp, Gz.vE_chain, Gz.vE_not, Gz.vE_and, Gz.vE_or, Gz.vE_ite, Gz.vE_tup, Gz.vE_lst, Gz.vE_idx, Gz.vE_slL, Gz.vE_slU, Gz.vE_isi, Gz.vE_isx, Gz.vE_calle, Gz.evEs, Gz.evXs, Gz.slotRv, Gz.bind_ok, Gz.bind_exc, Gz.st_ok, Gz.st_exc, Gz.toO_some, Gz.ofOpt_some, Gz.hold_fr, Gz.hold_own, Gz.Rv.cell, Gz.bind_one, Gz.then_nx, Gz.then_rt, Gz.then_ex, Gz.setE, Gz.Tg.bind, Gz.bindL, Gz.truthR, Gz.D.truth]) rfl]
      have loop : ∀ (b : D → Gz.Env → Store → SO) (L : List Nd), (∀ a ∈ L, ∀ c2 c3, match a.lwN nm with
            | some m => b (ndD a) [.fr (.tup (ndsD l)), .fr (.str nm), c2, c3] S = .rt (.fr (.tup (ndsD m))) S
            | none => ∃ c2' c3', b (ndD a) [.fr (.tup (ndsD l)), .fr (.str nm), c2, c3] S = .nx [.fr (.tup (ndsD l)), .fr (.str nm), c2', c3'] S) →
          ∀ c2 c3, match lwL nm L with
            | some m => forLoop b (ndsD L) [.fr (.tup (ndsD l)), .fr (.str nm), c2, c3] S = .rt (.fr (.tup (ndsD m))) S
            | none => ∃ c2' c3', forLoop b (ndsD L) [.fr (.tup (ndsD l)), .fr (.str nm), c2, c3] S = .nx [.fr (.tup (ndsD l)), .fr (.str nm), c2', c3'] S := by
        intro b L
        induction L with
        | nil =>
          intro _ c2 c3
          rw [lwL, ndsD]
          exact ⟨c2, c3, rfl⟩
        | cons a L ih =>
          intro h c2 c3
          have ha := h a List.mem_cons_self c2 c3
          rw [lwL, ndsD]
          cases e : a.lwN nm with
          | some m =>
            rw [e] at ha
            simp only at ha ⊢
            unfold forLoop
            rw [ha]
            rfl
          | none =>
            rw [e] at ha
            simp only at ha ⊢
            obtain ⟨c2', c3', ha⟩ := ha
            have := ih (fun x hx => h x (List.mem_cons_of_mem _ hx)) c2' c3'
            unfold forLoop
            rw [ha]
            exact this
      have := loop (fun d env S => Out.toO ((Tg.one 2).bind env d) fun env => evSs (den P m') P
          (.cons (.ifs (.cmp .eq (.idx (.var 2) (.int 0)) (.str "group")) (.cons (.asg 3 (.call "list_with" (.cons (.idx (.var 2) (.int 5)) (.cons (.var 1) .nil)))) (.cons (.ifs (.cmp .isnot (.var 3) (.non)) (.cons (.ret (.var 3)) .nil) (.nil)) .nil)) (.nil)) .nil) env S) l (fun a ha c2 c3 => by
        have haw := wfs_iff.mp hw a ha
        have hb := wts_mem ha
        have x0 := nd0 a
        have g0 := w0_gr a
        simp only [bind_one, toO_some]
        rw [lwN_gr]
        cases hg : a.isGr with
        | false =>
          rw [hg] at g0
          rw [if_neg (by decide)]
          simp only
          rw [vSs_cons]
          simp [Gz.vSs_nil, Gz.vS_asg, Gz.vS_asgO, Gz.vS_asgT, Gz.vS_par, Gz.vS_app, Gz.vS_ext, Gz.vS_ret, Gz.vS_retO, Gz.vS_ifs, Gz.vS_for, Gz.vS_expr, Gz.vS_pass, Gz.vS_frz, Gz.vS_rais, Gz.vS_try, Gz.vE_var, Gz.vE_int, Gz.vE_bl, Gz.vE_non, Gz.vE_str, Gz.vE_glob, Gz.vE_fnv, Gz.vE_call, Gz.vE_bi, Gz.vE_gix, Gz.vE_bin, Gz.vE_cmp, Gz.vE_chain, Gz.vE_not, Gz.vE_and, Gz.vE_or, Gz.vE_ite, Gz.vE_tup, Gz.vE_lst, Gz.vE_idx, Gz.vE_slL, Gz.vE_slU, Gz.vE_isi, Gz.vE_isx, Gz.vE_calle, Gz.evEs, Gz.evXs, Gz.slotRv, Gz.bind_ok, Gz.bind_exc, Gz.st_ok, Gz.st_exc, Gz.toO_some, Gz.ofOpt_some, Gz.hold_fr, Gz.hold_own, Gz.Rv.cell, Gz.bind_one, Gz.then_nx, Gz.then_rt, Gz.then_ex, Gz.setE, Gz.Tg.bind, Gz.bindL, Gz.truthR, Gz.D.truth, Gz.Cm.ev, x0, g0]
        | true =>
          rw [hg] at g0
          rw [if_pos rfl]
          obtain ⟨e, rfl, k1, k2⟩ := kids_wf hg haw
          have f := p_list_with H hc e k1 (by omega) (fun x hx => hn x (nms_sub ha x (by rw [nms_gr, if_pos hg]; exact List.mem_cons_of_mem _ hx))) m' S (by omega)
          have x5 := nd5 hg
          cases he : lwF nm a.kids with
          | some m =>
            rw [he] at f
            simp only
            rw [vSs_cons]
            simp [Gz.vSs_nil, Gz.vS_asg, Gz.vS_asgO, Gz.vS_asgT, Gz.vS_par, Gz.vS_app, Gz.vS_ext, Gz.vS_ret, Gz.vS_retO, Gz.vS_ifs, Gz.vS_for, Gz.vS_expr, Gz.vS_pass, Gz.vS_frz, Gz.vS_rais, Gz.vS_try, Gz.vE_var, Gz.vE_int, Gz.vE_bl, Gz.vE_non, Gz.vE_str, Gz.vE_glob, Gz.vE_fnv, Gz.vE_call, Gz.vE_bi, Gz.vE_gix, Gz.vE_bin, Gz.vE_cmp, Gz.vE_chain, Gz.vE_not, Gz.vE_and, Gz.vE_or, Gz.vE_ite, Gz.vE_tup, Gz.vE_lst, Gz.vE_idx, Gz.vE_slL, Gz.vE_slU, Gz.vE_isi, Gz.vE_isx, Gz.vE_calle, Gz.evEs, Gz.evXs, Gz.slotRv, Gz.bind_ok, Gz.bind_exc, Gz.st_ok, Gz.st_exc, Gz.toO_some, Gz.ofOpt_some, Gz.hold_fr, Gz.hold_own, Gz.Rv.cell, Gz.bind_one, Gz.then_nx, Gz.then_rt, Gz.then_ex, Gz.setE, Gz.Tg.bind, Gz.bindL, Gz.truthR, Gz.D.truth, Gz.vSs_cons, Gz.Cm.ev, x0, g0, x5, f, optD]
          | none =>
            rw [he] at f
            simp only
            rw [vSs_cons]
            simp [Gz.vSs_nil, Gz.vS_asg, Gz.vS_asgO, Gz.vS_asgT, Gz.vS_par, Gz.vS_app, Gz.vS_ext, Gz.vS_ret, Gz.vS_retO, Gz.vS_ifs, Gz.vS_for, Gz.vS_expr, Gz.vS_pass, Gz.vS_frz, Gz.vS_rais, Gz.vS_try, Gz.vE_var, Gz.vE_int, Gz.vE_bl, Gz.vE_non, Gz.vE_str, Gz.vE_glob, Gz.vE_fnv, Gz.vE_call, Gz.vE_bi, Gz.vE_gix, Gz.vE_bin, Gz.vE_cmp, Gz.vE_chain, Gz.vE_not, Gz.vE_and, Gz.vE_or, Gz.vE_ite, Gz.vE_tup, Gz.vE_lst, Gz.vE_idx, Gz.vE_slL, Gz.vE_slU, Gz.vE_isi, Gz.vE_isx, Gz.vE_calle, Gz.evEs, Gz.evXs, Gz.slotRv, Gz.bind_ok, Gz.bind_exc, Gz.st_ok, Gz.st_exc, Gz.toO_some, Gz.ofOpt_some, Gz.hold_fr, Gz.hold_own, Gz.Rv.cell, Gz.bind_one, Gz.then_nx, Gz.then_rt, Gz.then_ex, Gz.setE, Gz.Tg.bind, Gz.bindL, Gz.truthR, Gz.D.truth, Gz.vSs_cons, Gz.Cm.ev, x0, g0, x5, f, optD]) .un .un
      cases e : lwL nm l with
      | some m =>
        rw [e] at this
        simp only at this
        rw [this]
        rfl
      | none =>
        rw [e] at this
        simp only at this
        obtain ⟨c2, c3, h⟩ := this
        rw [h, then_nx, vSs_cons]
        simp [Gz.vSs_nil, Gz.vS_asg, Gz.vS_asgO, Gz.vS_asgT, Gz.vS_par, Gz.vS_app, Gz.vS_ext, Gz.vS_ret, Gz.vS_retO, Gz.vS_ifs, Gz.vS_for, Gz.vS_expr, Gz.vS_pass, Gz.vS_frz, Gz.vS_rais, Gz.vS_try, Gz.vE_var, Gz.vE_int, Gz.vE_bl, Gz.vE_non, Gz.vE_str, Gz.vE_glob, Gz.vE_fnv, Gz.vE_call, Gz.vE_bi, Gz.vE_gix, Gz.vE_bin, Gz.vE_cmp, Gz.vE_chain, Gz.vE_not, Gz.vE_and, Gz.vE_or, Gz.vE_ite, Gz.vE_tup, Gz.vE_lst, Gz.vE_idx, Gz.vE_slL, Gz.vE_slU, Gz.vE_isi, Gz.vE_isx, Gz.vE_calle, Gz.evEs, Gz.evXs, Gz.slotRv, Gz.bind_ok, Gz.bind_exc, Gz.st_ok, Gz.st_exc, Gz.toO_some, Gz.ofOpt_some, Gz.hold_fr, Gz.hold_own, Gz.Rv.cell, Gz.bind_one, Gz.then_nx, Gz.then_rt, Gz.then_ex, Gz.setE, Gz.Tg.bind, Gz.bindL, Gz.truthR, Gz.D.truth, optD]
  termination_by d => d
theorem chN_gr (nm : Str) (o : List Nd) {a : Nd} (h : a.isGr = false) : a.chN nm o = a := by
  cases a with
  | group => cases h
  | layer => rw [Nd.chN]
  | tone => rw [Nd.chN]
theorem chL_app (nm : Str) (o : List Nd) : ∀ l m : List Nd, chL nm o (l ++ m) = chL nm o l ++ chL nm o m
  | [], m => by rw [chL]; rfl
  | x :: l, m => by rw [List.cons_append, chL, chL, chL_app nm o l m]; rfl
theorem chL_len (nm : Str) (o : List Nd) : ∀ l : List Nd, (chL nm o l).length = l.length
  | [] => by rw [chL]
  | x :: l => by rw [chL, List.length_cons, chL_len nm o l, List.length_cons]
theorem p_lists_changed (H : HWb P) {nm : Str} (hc : chOk nm) (o : List Nd) : ∀ (d : Nat) {l : List Nd}, Nd.wfs d l → Nd.wts l ≤ 1000 → (∀ x ∈ ndsNms l, chOk x) → Run P (1 + d) "lists_changed" [.tup (ndsD l), .str nm, .tup (ndsD o)] (.fr (.tup (ndsD (chF nm o l))))
  | d, l, hw, hB, hn => by
    refine (Run.of (k := d) H.ch rfl fun m' S hm => ?_).up (by omega)
    have ll := len_wts l
    have is := (isin_strs (a := nm) (l := l.map Nd.nm) hc fun x hx => hn x (nm_in_nms hx)).1
    unfold f_lists_changed entry
    rw [vSs_cons]
    simp [Gz.vSs_nil, Gz.vS_asg, Gz.vS_asgO, Gz.vS_asgT, Gz.vS_par, Gz.vS_app, Gz.vS_ext, Gz.vS_ret, Gz.vS_retO, Gz.vS_ifs, Gz.vS_for, Gz.vS_expr, Gz.vS_pass, Gz.vS_frz, Gz.vS_rais, Gz.vS_try, Gz.vE_var, Gz.vE_int, Gz.vE_bl, Gz.vE_non, Gz.vE_str, Gz.vE_glob, Gz.vE_fnv, Gz.vE_call, Gz.vE_bi, Gz.vE_gix, Gz.vE_bin, Gz.vE_cmp, Gz.vE_chain, Gz.vE_not, Gz.vE_and, Gz.vE_or, Gz.vE_ite, Gz.vE_tup, Gz.vE_lst, Gz.vE_idx, Gz.vE_slL, Gz.vE_slU, Gz.vE_isi, Gz.vE_isx, Gz.vE_calle, Gz.evEs, Gz.evXs, Gz.slotRv, Gz.bind_ok, Gz.bind_exc, Gz.st_ok, Gz.st_exc, Gz.toO_some, Gz.ofOpt_some, Gz.hold_fr, Gz.hold_own, Gz.Rv.cell, Gz.bind_one, Gz.then_nx, Gz.then_rt, Gz.then_ex, Gz.setE, Gz.Tg.bind, Gz.bindL, Gz.truthR, Gz.D.truth]
    rw [nm_lc (l := l) (by simp) (by omega) (by simp [Gz.vSs_nil, Gz.vS_asg, Gz.vS_asgO, Gz.vS_asgT, Gz.vS_par, Gz.vS_app, Gz.vS_ext, Gz.vS_ret, Gz.vS_retO, Gz.vS_ifs, Gz.vS_for, Gz.vS_expr, Gz.vS_pass, Gz.vS_frz, Gz.vS_rais, Gz.vS_try, Gz.vE_var, Gz.vE_int, Gz.vE_bl, Gz.vE_non, Gz.vE_str, Gz.vE_glob, Gz.vE_fnv, Gz.vE_call, Gz.vE_bi, Gz.vE_gix, Gz.vE_bin, Gz.vE_cmp, Gz.vE_chain, Gz.vE_not, Gz.vE_and, Gz.vE_or, Gz.vE_ite, Gz.vE_tup, Gz.vE_lst, Gz.vE_idx, Gz.vE_slL, Gz.vE_slU, Gz.vE_isi, Gz.vE_isx, Gz.vE_calle, Gz.evEs, Gz.evXs, Gz.slotRv, Gz.bind_ok, Gz.bind_exc, Gz.st_ok, Gz.st_exc, Gz.toO_some, Gz.ofOpt_some, Gz.hold_fr, Gz.hold_own, Gz.Rv.cell, Gz.bind_one, Gz.then_nx, Gz.then_rt, Gz.then_ex, Gz.setE, Gz.Tg.bind, Gz.bindL, Gz.truthR, Gz.D.truth])]
    unfold chF
    generalize hN : (l.map Nd.nm).map D.str = N at *
    by_cases hi : nm ∈ l.map Nd.nm
    · rw [decide_eq_true hi] at is
      rw [if_pos hi]
      simp [Gz.vSs_nil, Gz.vS_asg, Gz.vS_asgO, Gz.vS_asgT, Gz.vS_par, Gz.vS_app, Gz.vS_ext, Gz.vS_ret, Gz.vS_retO, Gz.vS_ifs, Gz.vS_for, Gz.vS_expr, Gz.vS_pass, Gz.vS_frz, Gz.vS_rais, Gz.vS_try, Gz.vE_var, Gz.vE_int, Gz.vE_bl, Gz.vE_non, Gz.vE_str, Gz.vE_glob, Gz.vE_fnv, Gz.vE_call, Gz.vE_bi, Gz.vE_gix, Gz.vE_bin, Gz.vE_cmp, Gz.vE_chain, Gz.vE_not, Gz.vE_and, Gz.vE_or, Gz.vE_ite, Gz.vE_tup, Gz.vE_lst, Gz.vE_idx, Gz.vE_slL, Gz.vE_slU, Gz.vE_isi, Gz.vE_isx, Gz.vE_calle, Gz.evEs, Gz.evXs, Gz.slotRv, Gz.bind_ok, Gz.bind_exc, Gz.st_ok, Gz.st_exc, Gz.toO_some, Gz.ofOpt_some, Gz.hold_fr, Gz.hold_own, Gz.Rv.cell, Gz.bind_one, Gz.then_nx, Gz.then_rt, Gz.then_ex, Gz.setE, Gz.Tg.bind, Gz.bindL, Gz.truthR, Gz.D.truth, Gz.vSs_cons, is]
    · rw [decide_eq_false hi] at is
      rw [if_neg hi]
      simp [Gz.vSs_nil, Gz.vS_asg, Gz.vS_asgO, Gz.vS_asgT, Gz.vS_par, Gz.vS_app, Gz.vS_ext, Gz.vS_ret, Gz.vS_retO, Gz.vS_ifs, Gz.vS_for, Gz.vS_expr, Gz.vS_pass, Gz.vS_frz, Gz.vS_rais, Gz.vS_try, Gz.vE_var, Gz.vE_int, Gz.vE_bl, Gz.vE_non, Gz.vE_str, Gz.vE_glob, Gz.vE_fnv, Gz.vE_call, Gz.vE_bi, Gz.vE_gix, Gz.vE_bin, Gz.vE_cmp, Gz.vE_chain, Gz.vE_not, Gz.vE_and, Gz.vE_or, Gz.vE_ite, Gz.vE_tup, Gz.vE_lst, Gz.vE_idx, Gz.vE_slL, Gz.vE_slU, Gz.vE_isi, Gz.vE_isx, Gz.vE_calle, Gz.evEs, Gz.evXs, Gz.slotRv, Gz.bind_ok, Gz.bind_exc, Gz.st_ok, Gz.st_exc, Gz.toO_some, Gz.ofOpt_some, Gz.hold_fr, Gz.hold_own, Gz.Rv.cell, Gz.bind_one, Gz.then_nx, Gz.then_rt, Gz.then_ex, Gz.setE, Gz.Tg.bind, Gz.bindL, Gz.truthR, Gz.D.truth, is]
      rw [vSs_cons]
      simp [Gz.vSs_nil, Gz.vS_asg, Gz.vS_asgO, Gz.vS_asgT, Gz.vS_par, Gz.vS_app, Gz.vS_ext, Gz.vS_ret, Gz.vS_retO, Gz.vS_ifs, Gz.vS_for, Gz.vS_expr, Gz.vS_pass, Gz.vS_frz, Gz.vS_rais, Gz.vS_try, Gz.vE_var, Gz.vE_int, Gz.vE_bl, Gz.vE_non, Gz.vE_str, Gz.vE_glob, Gz.vE_fnv, Gz.vE_call, Gz.vE_bi, Gz.vE_gix, Gz.vE_bin, Gz.vE_cmp, Gz.vE_chain, Gz.vE_not, Gz.vE_and, Gz.vE_or, Gz.vE_ite, Gz.vE_tup, Gz.vE_lst, Gz.vE_idx, Gz.vE_slL, Gz.vE_slU, Gz.vE_isi, Gz.vE_isx, Gz.vE_calle, Gz.evEs, Gz.evXs, Gz.slotRv, Gz.bind_ok, Gz.bind_exc, Gz.st_ok, Gz.st_exc, Gz.toO_some, Gz.ofOpt_some, Gz.hold_fr, Gz.hold_own, Gz.Rv.cell, Gz.bind_one, Gz.then_nx, Gz.then_rt, Gz.then_ex, Gz.setE, Gz.Tg.bind, Gz.bindL, Gz.truthR, Gz.D.truth]
      rw [vSs_cons, vS_for_of (xs := [.tup (ndsD l)]) (ds := ndsD l) (by simp [Gz.vSs_nil, Gz.vS_asg, Gz.vS_asgO, Gz.vS_asgT, Gz.vS_par, Gz.vS_app, Gz.vS_ext, Gz.vS_ret, Gz.vS_retO, Gz.vS_ifs, Gz.vS_for, Gz.vS_expr, Gz.vS_pass, Gz.vS_frz, Gz.vS_rais, Gz.vS_try, Gz.vE_var, Gz.vE_int, Gz.vE_bl, Gz.vE_non, Gz.vE_str, Gz.vE_glob, Gz.vE_fnv, Gz.vE_call, Gz.vE_bi, Gz.vE_gix, Gz.vE_bin, Gz.vE_cmp, Gz.vE_chain, Gz.vE_not, Gz.vE_and, Gz.vE_or, Gz.vE_ite, Gz.vE_tup, Gz.vE_lst, Gz.vE_idx, Gz.vE_slL, Gz.vE_slU, Gz.vE_isi, Gz.vE_isx, Gz.vE_calle, Gz.evEs, Gz.evXs, Gz.slotRv, Gz.bind_ok, Gz.bind_exc, Gz.st_ok, Gz.st_exc, Gz.toO_some, Gz.ofOpt_some, Gz.hold_fr, Gz.hold_own, Gz.Rv.cell, Gz.bind_one, Gz.then_nx, Gz.then_rt, Gz.then_ex, Gz.setE, Gz.Tg.bind, Gz.bindL, Gz.truthR, Gz.D.truth]) rfl]
      refine Eq.symm (for_inv (fun j env => ∃ c4, env = [.fr (.tup (ndsD l)), .fr (.str nm), .fr (.tup (ndsD o)), .own (ndsD (chL nm o (l.take j))), c4]) ⟨_, by rw [List.take_zero, chL, ndsD]⟩ ?_ ?_)
      · rintro j x env hj ⟨c4, rfl⟩
        obtain ⟨hlt, rfl⟩ := nds_get hj
        rw [take_succ' l hlt, chL_app]
        have hmem := List.getElem_mem hlt
        have haw := wfs_iff.mp hw l[j] hmem
        have hb := wts_mem hmem
        have hsub := nms_sub hmem
        have h1 : (chL nm o (l.take j)).length ≤ 1000 := by rw [chL_len, List.length_take]; omega
        generalize l[j] = a at *
        have x0 := nd0 a
        have g0 := w0_gr a
        rw [show chL nm o [a] = [a.chN nm o] by rw [chL, chL], ndsD_snoc]
        have l1 : (ndsD (chL nm o (l.take j))).length < lim := by rw [ndsD_len, limE]; omega
        generalize ndsD (chL nm o (l.take j)) = B at *
        simp only [bind_one, toO_some]
        rw [vSs_cons]
        cases hg : a.isGr with
        | false =>
          rw [hg] at g0
          rw [chN_gr nm o hg]
          simp [Gz.vSs_nil, Gz.vS_asg, Gz.vS_asgO, Gz.vS_asgT, Gz.vS_par, Gz.vS_app, Gz.vS_ext, Gz.vS_ret, Gz.vS_retO, Gz.vS_ifs, Gz.vS_for, Gz.vS_expr, Gz.vS_pass, Gz.vS_frz, Gz.vS_rais, Gz.vS_try, Gz.vE_var, Gz.vE_int, Gz.vE_bl, Gz.vE_non, Gz.vE_str, Gz.vE_glob, Gz.vE_fnv, Gz.vE_call, Gz.vE_bi, Gz.vE_gix, Gz.vE_bin, Gz.vE_cmp, Gz.vE_chain, Gz.vE_not, Gz.vE_and, Gz.vE_or, Gz.vE_ite, Gz.vE_tup, Gz.vE_lst, Gz.vE_idx, Gz.vE_slL, Gz.vE_slU, Gz.vE_isi, Gz.vE_isx, Gz.vE_calle, Gz.evEs, Gz.evXs, Gz.slotRv, Gz.bind_ok, Gz.bind_exc, Gz.st_ok, Gz.st_exc, Gz.toO_some, Gz.ofOpt_some, Gz.hold_fr, Gz.hold_own, Gz.Rv.cell, Gz.bind_one, Gz.then_nx, Gz.then_rt, Gz.then_ex, Gz.setE, Gz.Tg.bind, Gz.bindL, Gz.truthR, Gz.D.truth, Gz.Cm.ev, x0, g0, l1]
          exact ⟨_, rfl, _, rfl⟩
        | true =>
          rw [hg] at g0
          obtain ⟨e, rfl, k1, k2⟩ := kids_wf hg haw
          have f := p_lists_changed H hc o e k1 (by omega) (fun x hx => hn x (hsub x (by rw [nms_gr, if_pos hg]; exact List.mem_cons_of_mem _ hx))) m' S (by omega)
          have x5 := nd5 hg
          cases a with
          | layer => cases hg
          | tone => cases hg
          | group gn mn st sh ms =>
            simp only [Nd.kids] at f x5
            have su : slEv (ndD (.group gn mn st sh ms)) none (some (.int 5)) = some (.fr (.tup [.str "group", .str gn, .str mn.s, shD st, .bl sh])) := by
              rw [ndD, sl_tU, cut_hi5]
              rfl
            have cn : ndD ((Nd.group gn mn st sh ms).chN nm o) = .tup [.str "group", .str gn, .str mn.s, shD st, .bl sh, .tup (ndsD (chF nm o ms))] := by
              rw [Nd.chN, ndD]
              rfl
            rw [cn]
            generalize ndsD (chF nm o ms) = C at *
            have l1' : B.length < 16777216 := by rw [limE] at l1; exact l1
            simp [Gz.vSs_nil, Gz.vS_asg, Gz.vS_asgO, Gz.vS_asgT, Gz.vS_par, Gz.vS_app, Gz.vS_ext, Gz.vS_ret, Gz.vS_retO, Gz.vS_ifs, Gz.vS_for, Gz.vS_expr, Gz.vS_pass, Gz.vS_frz, Gz.vS_rais, Gz.vS_try, Gz.vE_var, Gz.vE_int, Gz.vE_bl, Gz.vE_non, Gz.vE_str, Gz.vE_glob, Gz.vE_fnv, Gz.vE_call, Gz.vE_bi, Gz.vE_gix, Gz.vE_bin, Gz.vE_cmp, Gz.vE_chain, Gz.vE_not, Gz.vE_and, Gz.vE_or, Gz.vE_ite, Gz.vE_tup, Gz.vE_lst, Gz.vE_idx, Gz.vE_slL, Gz.vE_slU, Gz.vE_isi, Gz.vE_isx, Gz.vE_calle, Gz.evEs, Gz.evXs, Gz.slotRv, Gz.bind_ok, Gz.bind_exc, Gz.st_ok, Gz.st_exc, Gz.toO_some, Gz.ofOpt_some, Gz.hold_fr, Gz.hold_own, Gz.Rv.cell, Gz.bind_one, Gz.then_nx, Gz.then_rt, Gz.then_ex, Gz.setE, Gz.Tg.bind, Gz.bindL, Gz.truthR, Gz.D.truth, Gz.Op2.ev, Gz.Cm.ev, Gz.lim, x0, g0, x5, f, su, l1']
            exact ⟨_, rfl, _, rfl⟩
      · rintro env ⟨c4, rfl⟩
        rw [ndsD_len, List.take_length, vSs_cons]
        simp [Gz.vSs_nil, Gz.vS_asg, Gz.vS_asgO, Gz.vS_asgT, Gz.vS_par, Gz.vS_app, Gz.vS_ext, Gz.vS_ret, Gz.vS_retO, Gz.vS_ifs, Gz.vS_for, Gz.vS_expr, Gz.vS_pass, Gz.vS_frz, Gz.vS_rais, Gz.vS_try, Gz.vE_var, Gz.vE_int, Gz.vE_bl, Gz.vE_non, Gz.vE_str, Gz.vE_glob, Gz.vE_fnv, Gz.vE_call, Gz.vE_bi, Gz.vE_gix, Gz.vE_bin, Gz.vE_cmp, Gz.vE_chain, Gz.vE_not, Gz.vE_and, Gz.vE_or, Gz.vE_ite, Gz.vE_tup, Gz.vE_lst, Gz.vE_idx, Gz.vE_slL, Gz.vE_slU, Gz.vE_isi, Gz.vE_isx, Gz.vE_calle, Gz.evEs, Gz.evXs, Gz.slotRv, Gz.bind_ok, Gz.bind_exc, Gz.st_ok, Gz.st_exc, Gz.toO_some, Gz.ofOpt_some, Gz.hold_fr, Gz.hold_own, Gz.Rv.cell, Gz.bind_one, Gz.then_nx, Gz.then_rt, Gz.then_ex, Gz.setE, Gz.Tg.bind, Gz.bindL, Gz.truthR, Gz.D.truth, Gz.Bi.ev]
  termination_by d => d
end
end GzL
end -- HbK
section -- HbL
set_option maxHeartbeats 4000000
/-! HbL: with_node. -/
namespace GzL
open PySem PySem.Spec PyProof.Rows L2 Gz
section
variable {P : Prog}
theorem p_place_of (H : HWb P) {nm : Str} (hc : chOk nm) {pre post : List Nd} {c : Nd} (hcn : c.nm = nm) (hp : nm ∉ pre.map Nd.nm) (hl : (pre ++ c :: post).length ≤ 1000) (hn : ∀ x ∈ (pre ++ c :: post).map Nd.nm, chOk x) : Run P 1 "place_of" [.tup (ndsD (pre ++ c :: post)), .str nm] (.fr (.int pre.length)) := by
  refine Run.of H.pl rfl fun m' S hm => ?_
  have ev : Mt.ev .index (.lst (((pre ++ c :: post).map Nd.nm).map D.str)) [.str nm] = some (.fr (.int pre.length)) := by
    have ok : D.oks 60 (((pre ++ c :: post).map Nd.nm).map D.str) = true := oks_of fun d hd => by
      obtain ⟨x, hx, rfl⟩ := List.mem_map.mp hd
      exact okq_str (hn x hx)
    show (if (D.str nm).okq 60 && D.oks 60 (((pre ++ c :: post).map Nd.nm).map D.str) then ((((pre ++ c :: post).map Nd.nm).map D.str).findIdx? fun z => z.eqb (.str nm)).map fun j => Rv.fr (.int (j : Nat)) else none) = _
    rw [okq_str hc, ok]
    have fi : (((pre ++ c :: post).map Nd.nm).map D.str).findIdx? (fun z => z.eqb (.str nm)) = some pre.length := by
      clear ok hl hn
      induction pre with
      | nil =>
        simp only [List.nil_append, List.map_cons, List.findIdx?_cons, hcn, D.eqb, beq_self_eq_true, if_true, List.length_nil]
      | cons a pre ih =>
        rw [List.map_cons, List.mem_cons, not_or] at hp
        have : (a.nm == nm) = false := by simpa using fun e => hp.1 (Eq.symm e)
        simp only [List.cons_append, List.map_cons, List.findIdx?_cons, D.eqb, this, if_false]
        rw [ih hp.2]
        simp
    rw [fi]
    rfl
  unfold f_place_of entry
  rw [vSs_cons, vS_ret, vE_mt, nm_lc (l := pre ++ c :: post) (by simp) hl (by simp [Gz.vSs_nil, Gz.vS_asg, Gz.vS_asgO, Gz.vS_asgT, Gz.vS_par, Gz.vS_app, Gz.vS_ext, Gz.vS_ret, Gz.vS_retO, Gz.vS_ifs, Gz.vS_for, Gz.vS_expr, Gz.vS_pass, Gz.vS_frz, Gz.vS_rais, Gz.vS_try, Gz.vE_var, Gz.vE_int, Gz.vE_bl, Gz.vE_non, Gz.vE_str, Gz.vE_glob, Gz.vE_fnv, Gz.vE_call, Gz.vE_bi, Gz.vE_gix, Gz.vE_bin, Gz.vE_cmp, Gz.vE_chain, Gz.vE_not, Gz.vE_and, Gz.vE_or, Gz.vE_ite, Gz.vE_tup, Gz.vE_lst, Gz.vE_idx, Gz.vE_slL, Gz.vE_slU, Gz.vE_isi, Gz.vE_isx, Gz.vE_calle, Gz.evEs, Gz.evXs, Gz.slotRv, Gz.bind_ok, Gz.bind_exc, Gz.st_ok, Gz.st_exc, Gz.toO_some, Gz.ofOpt_some, Gz.hold_fr, Gz.hold_own, Gz.Rv.cell, Gz.bind_one, Gz.then_nx, Gz.then_rt, Gz.then_ex, Gz.setE, Gz.Tg.bind, Gz.bindL, Gz.truthR, Gz.D.truth])]
  simp only [bind_ok]
  rw [if_pos (show Mt.okO .index (.lst (((pre ++ c :: post).map Nd.nm).map D.str)) = true from rfl)]
  generalize ((pre ++ c :: post).map Nd.nm).map D.str = N at *
  simp [Gz.vSs_nil, Gz.vS_asg, Gz.vS_asgO, Gz.vS_asgT, Gz.vS_par, Gz.vS_app, Gz.vS_ext, Gz.vS_ret, Gz.vS_retO, Gz.vS_ifs, Gz.vS_for, Gz.vS_expr, Gz.vS_pass, Gz.vS_frz, Gz.vS_rais, Gz.vS_try, Gz.vE_var, Gz.vE_int, Gz.vE_bl, Gz.vE_non, Gz.vE_str, Gz.vE_glob, Gz.vE_fnv, Gz.vE_call, Gz.vE_bi, Gz.vE_gix, Gz.vE_bin, Gz.vE_cmp, Gz.vE_chain, Gz.vE_not, Gz.vE_and, Gz.vE_or, Gz.vE_ite, Gz.vE_tup, Gz.vE_lst, Gz.vE_idx, Gz.vE_slL, Gz.vE_slU, Gz.vE_isi, Gz.vE_isx, Gz.vE_calle, Gz.evEs, Gz.evXs, Gz.slotRv, Gz.bind_ok, Gz.bind_exc, Gz.st_ok, Gz.st_exc, Gz.toO_some, Gz.ofOpt_some, Gz.hold_fr, Gz.hold_own, Gz.Rv.cell, Gz.bind_one, Gz.then_nx, Gz.then_rt, Gz.then_ex, Gz.setE, Gz.Tg.bind, Gz.bindL, Gz.truthR, Gz.D.truth, ev]
theorem p_node_named3 (hA : P.defs.lookup ("all_nodes" : Str) = some f_all_nodes) (hP : P.defs.lookup ("node_named" : Str) = some f_node_named) {nm : Str} (hc : chOk nm) {p : Pic} {d : Nat} (hw : Nd.wfs d p.ns) (hB : Nd.wts p.ns ≤ 1000) (hd : d ≤ 10) (hn : ∀ x ∈ ndsNms p.ns, chOk x) (hm : nm ∈ ndsNms p.ns) : ∃ c ∈ allF p.ns, c.nm = nm ∧ Run P (2 + d) "node_named" [picD p, .str nm] (.fr (ndD c)) := by
  have mem : nm ∈ (allF p.ns).map Nd.nm := by rw [allF_nms]; exact hm
  obtain ⟨a, ha, han⟩ := List.mem_map.mp mem
  have hF : ∃ r F, ((allF p.ns).filterMap fun a => if a.nm = nm then some (ndD a) else none) = r :: F := by
    cases e : (allF p.ns).filterMap fun a => if a.nm = nm then some (ndD a) else none with
    | cons r F => exact ⟨r, F, rfl⟩
    | nil =>
      have := List.filterMap_eq_nil_iff.mp e a ha
      rw [if_pos han] at this
      cases this
  obtain ⟨r, F, hF⟩ := hF
  have hr : r ∈ (allF p.ns).filterMap fun a => if a.nm = nm then some (ndD a) else none := by rw [hF]; exact List.mem_cons_self
  obtain ⟨c, hc1, hc2⟩ := List.mem_filterMap.mp hr
  split at hc2
  rotate_left
  · cases hc2
  rename_i hc3
  have hc2 : ndD c = r := Option.some.inj hc2
  refine ⟨c, hc1, hc3, ?_⟩
  rw [hc2]
  clear hc2 hc1 hc3
  refine (Run.of (k := 1 + d) hP rfl fun m' S hm' => ?_).up (by omega)
  have e0 := p_all hA d hw hB m' S (by omega)
  have al := allF_len p.ns
  have okF : D.oks 59 (r :: F) = true := by
    rw [← hF]
    exact oks_of fun x hx => by
      obtain ⟨b, hb, hx⟩ := List.mem_filterMap.mp hx
      split at hx
      · cases hx
        obtain ⟨b1, b2⟩ := allF_wf p.ns hw b hb
        have := okq_nd d (54 - 2 * d) b1 fun y hy => hn y (b2 y hy)
        rwa [show 54 - 2 * d + 2 * d + 5 = 59 by omega] at this
      · cases hx
  have k : Cm.ev .eq (.lst (r :: F)) (.lst []) = some false := by
    simp only [Cm.ev]
    rw [eqO_lnil okF]
    rfl
  have x2 : idxEv (picD p) (.int 2) = some (.tup (ndsD p.ns)) := rfl
  unfold f_node_named entry
  rw [vSs_cons, vS_asg, lc_ofM (xs := [.lst (ndsD (allF p.ns))]) (as := allF p.ns) (e := ndD) (g := fun a => if a.nm = nm then some (ndD a) else none)]
  rotate_left
  · simp [Gz.vSs_nil, Gz.vS_asg, Gz.vS_asgO, Gz.vS_asgT, Gz.vS_par, Gz.vS_app, Gz.vS_ext, Gz.vS_ret, Gz.vS_retO, Gz.vS_ifs, Gz.vS_for, Gz.vS_expr, Gz.vS_pass, Gz.vS_frz, Gz.vS_rais, Gz.vS_try, Gz.vE_var, Gz.vE_int, Gz.vE_bl, Gz.vE_non, Gz.vE_str, Gz.vE_glob, Gz.vE_fnv, Gz.vE_call, Gz.vE_bi, Gz.vE_gix, Gz.vE_bin, Gz.vE_cmp, Gz.vE_chain, Gz.vE_not, Gz.vE_and, Gz.vE_or, Gz.vE_ite, Gz.vE_tup, Gz.vE_lst, Gz.vE_idx, Gz.vE_slL, Gz.vE_slU, Gz.vE_isi, Gz.vE_isx, Gz.vE_calle, Gz.evEs, Gz.evXs, Gz.slotRv, Gz.bind_ok, Gz.bind_exc, Gz.st_ok, Gz.st_exc, Gz.toO_some, Gz.ofOpt_some, Gz.hold_fr, Gz.hold_own, Gz.Rv.cell, Gz.bind_one, Gz.then_nx, Gz.then_rt, Gz.then_ex, Gz.setE, Gz.Tg.bind, Gz.bindL, Gz.truthR, Gz.D.truth, x2, e0]
  · rw [ndsD_map]; rfl
  · rw [limE]; omega
  · intro b hb
    have n1 := nd1 b
    obtain ⟨b1, b2⟩ := allF_wf p.ns hw b hb
    have q : eqO (.str b.nm) (.str nm) = some (decide (b.nm = nm)) := by
      have e : eqO (.str b.nm) (.str nm) = if (D.str b.nm).okq 60 && (D.str nm).okq 60 then some ((D.str b.nm).eqb (.str nm)) else none := by unfold eqO; rfl
      rw [e, okq_str (hn _ (b2 _ (nm_nms b))), okq_str hc, D.eqb]
      by_cases h : b.nm = nm
      · rw [h]; simp
      · have : (b.nm == nm) = false := by simpa using h
        rw [this]; simp [h]
    unfold lcF
    by_cases h : b.nm = nm
    · rw [decide_eq_true h] at q
      rw [if_pos h]
      simp [Gz.evSs, Gz.evS, Gz.evE, Gz.evEs, Gz.evXs, Gz.evT, Gz.slotRv, Gz.Out.bind, Gz.Out.st, Gz.Out.toO, Gz.Out.calm, Gz.ofOpt, Gz.Op2.ev, Gz.Cm.ev, Gz.Rv.hold, Gz.Rv.cell, Gz.SO.then_, Gz.setE, Gz.itEv, Gz.lcLoop, Gz.forLoop, Gz.Tg.bind, Gz.bindL, Gz.wipeE, Gz.Bi.ev, Gz.idx_tup, Gz.idx_lst, Gz.idx_scr, Gz.sl_tL, Gz.sl_tU, Gz.sl_tB, Gz.sl_lL, Gz.sl_lU, Gz.sl_lB, Gz.D.toInt, Gz.truthR, Gz.D.truth, Gz.lim, Gz.atD_0, Gz.atD_1, Gz.atD_2, Gz.atD_3, Gz.atD_4, Gz.atD_5, Gz.atD_6, Gz.atD_7, Gz.atD_8, Gz.cut_lo1, Gz.cut_hi1, Gz.cut_hi2, Gz.cut_hi4, Gz.cut_hi5, Gz.gixEv, n1, q]
    · rw [decide_eq_false h] at q
      rw [if_neg h]
      simp [Gz.evSs, Gz.evS, Gz.evE, Gz.evEs, Gz.evXs, Gz.evT, Gz.slotRv, Gz.Out.bind, Gz.Out.st, Gz.Out.toO, Gz.Out.calm, Gz.ofOpt, Gz.Op2.ev, Gz.Cm.ev, Gz.Rv.hold, Gz.Rv.cell, Gz.SO.then_, Gz.setE, Gz.itEv, Gz.lcLoop, Gz.forLoop, Gz.Tg.bind, Gz.bindL, Gz.wipeE, Gz.Bi.ev, Gz.idx_tup, Gz.idx_lst, Gz.idx_scr, Gz.sl_tL, Gz.sl_tU, Gz.sl_tB, Gz.sl_lL, Gz.sl_lU, Gz.sl_lB, Gz.D.toInt, Gz.truthR, Gz.D.truth, Gz.lim, Gz.atD_0, Gz.atD_1, Gz.atD_2, Gz.atD_3, Gz.atD_4, Gz.atD_5, Gz.atD_6, Gz.atD_7, Gz.atD_8, Gz.cut_lo1, Gz.cut_hi1, Gz.cut_hi2, Gz.cut_hi4, Gz.cut_hi5, Gz.gixEv, n1, q]
  rw [hF]
  simp [Gz.vSs_nil, Gz.vS_asg, Gz.vS_asgO, Gz.vS_asgT, Gz.vS_par, Gz.vS_app, Gz.vS_ext, Gz.vS_ret, Gz.vS_retO, Gz.vS_ifs, Gz.vS_for, Gz.vS_expr, Gz.vS_pass, Gz.vS_frz, Gz.vS_rais, Gz.vS_try, Gz.vE_var, Gz.vE_int, Gz.vE_bl, Gz.vE_non, Gz.vE_str, Gz.vE_glob, Gz.vE_fnv, Gz.vE_call, Gz.vE_bi, Gz.vE_gix, Gz.vE_bin, Gz.vE_cmp, Gz.vE_chain, Gz.vE_not, Gz.vE_and, Gz.vE_or, Gz.vE_ite, Gz.vE_tup, Gz.vE_lst, Gz.vE_idx, Gz.vE_slL, Gz.vE_slU, Gz.vE_isi, Gz.vE_isx, Gz.vE_calle, Gz.evEs, Gz.evXs, Gz.slotRv, Gz.bind_ok, Gz.bind_exc, Gz.st_ok, Gz.st_exc, Gz.toO_some, Gz.ofOpt_some, Gz.hold_fr, Gz.hold_own, Gz.Rv.cell, Gz.bind_one, Gz.then_nx, Gz.then_rt, Gz.then_ex, Gz.setE, Gz.Tg.bind, Gz.bindL, Gz.truthR, Gz.D.truth]
  rw [vSs_cons]
  simp [Gz.vSs_nil, Gz.vS_asg, Gz.vS_asgO, Gz.vS_asgT, Gz.vS_par, Gz.vS_app, Gz.vS_ext, Gz.vS_ret, Gz.vS_retO, Gz.vS_ifs, Gz.vS_for, Gz.vS_expr, Gz.vS_pass, Gz.vS_frz, Gz.vS_rais, Gz.vS_try, Gz.vE_var, Gz.vE_int, Gz.vE_bl, Gz.vE_non, Gz.vE_str, Gz.vE_glob, Gz.vE_fnv, Gz.vE_call, Gz.vE_bi, Gz.vE_gix, Gz.vE_bin, Gz.vE_cmp, Gz.vE_chain, Gz.vE_not, Gz.vE_and, Gz.vE_or, Gz.vE_ite, Gz.vE_tup, Gz.vE_lst, Gz.vE_idx, Gz.vE_slL, Gz.vE_slU, Gz.vE_isi, Gz.vE_isx, Gz.vE_calle, Gz.evEs, Gz.evXs, Gz.slotRv, Gz.bind_ok, Gz.bind_exc, Gz.st_ok, Gz.st_exc, Gz.toO_some, Gz.ofOpt_some, Gz.hold_fr, Gz.hold_own, Gz.Rv.cell, Gz.bind_one, Gz.then_nx, Gz.then_rt, Gz.then_ex, Gz.setE, Gz.Tg.bind, Gz.bindL, Gz.truthR, Gz.D.truth, k]
  rw [vSs_cons]
  simp [Gz.vSs_nil, Gz.vS_asg, Gz.vS_asgO, Gz.vS_asgT, Gz.vS_par, Gz.vS_app, Gz.vS_ext, Gz.vS_ret, Gz.vS_retO, Gz.vS_ifs, Gz.vS_for, Gz.vS_expr, Gz.vS_pass, Gz.vS_frz, Gz.vS_rais, Gz.vS_try, Gz.vE_var, Gz.vE_int, Gz.vE_bl, Gz.vE_non, Gz.vE_str, Gz.vE_glob, Gz.vE_fnv, Gz.vE_call, Gz.vE_bi, Gz.vE_gix, Gz.vE_bin, Gz.vE_cmp, Gz.vE_chain, Gz.vE_not, Gz.vE_and, Gz.vE_or, Gz.vE_ite, Gz.vE_tup, Gz.vE_lst, Gz.vE_idx, Gz.vE_slL, Gz.vE_slU, Gz.vE_isi, Gz.vE_isx, Gz.vE_calle, Gz.evEs, Gz.evXs, Gz.slotRv, Gz.bind_ok, Gz.bind_exc, Gz.st_ok, Gz.st_exc, Gz.toO_some, Gz.ofOpt_some, Gz.hold_fr, Gz.hold_own, Gz.Rv.cell, Gz.bind_one, Gz.then_nx, Gz.then_rt, Gz.then_ex, Gz.setE, Gz.Tg.bind, Gz.bindL, Gz.truthR, Gz.D.truth, idx_lst, atD_0]
theorem p_node_named2 (H : HWb P) {nm : Str} (hc : chOk nm) {p : Pic} {d : Nat} (hw : Nd.wfs d p.ns) (hB : Nd.wts p.ns ≤ 1000) (hd : d ≤ 10) (hn : ∀ x ∈ ndsNms p.ns, chOk x) (hm : nm ∈ ndsNms p.ns) : ∃ c ∈ allF p.ns, c.nm = nm ∧ Run P (2 + d) "node_named" [picD p, .str nm] (.fr (ndD c)) := p_node_named3 H.all H.named hc hw hB hd hn hm
theorem p_node_named (H : HWb P) {nm : Str} (hc : chOk nm) {p : Pic} {d : Nat} (hw : Nd.wfs d p.ns) (hB : Nd.wts p.ns ≤ 1000) (hd : d ≤ 10) (hn : ∀ x ∈ ndsNms p.ns, chOk x) (hm : nm ∈ ndsNms p.ns) : ∃ r, Run P (2 + d) "node_named" [picD p, .str nm] (.fr r) :=
  let ⟨_, _, _, h⟩ := p_node_named2 H hc hw hB hd hn hm
  ⟨_, h⟩
end
end GzL
end -- HbL
section -- HcA
set_option maxHeartbeats 4000000
/-! HcA: a proper picture is told one. -/
namespace GzL
open PySem PySem.Spec PyProof.Rows L2 Gz
structure HNm (P : Prog) : Prop where
  names_of : P.defs.lookup ("names_of" : Str) = some f_names_of
  names_all : P.defs.lookup ("names_of_all" : Str) = some f_names_of_all
structure HPi (P : Prog) : Prop extends HNm P where
  it : HIt P
  name : P.defs.lookup ("is_name" : Str) = some f_is_name
  away : P.defs.lookup ("is_away" : Str) = some f_is_away
  mask : P.defs.lookup ("is_mask" : Str) = some f_is_mask
  head : P.defs.lookup ("has_head" : Str) = some f_has_head
  layer : P.defs.lookup ("is_layer" : Str) = some f_is_layer
  node_in : P.defs.lookup ("is_node_in" : Str) = some f_is_node_in
  picture : P.defs.lookup ("is_picture" : Str) = some f_is_picture
  letters : P.cons.lookup ("LETTERS" : Str) = some (.str "abcdefghijklmnopqrstuvwxyz")
  many : P.cons.lookup ("MOST_LETTERS" : Str) = some (.int 6)
  far : P.cons.lookup ("MOST_AWAY" : Str) = some (.int 9)
  deep : P.cons.lookup ("DEEP" : Str) = some (.int 3)
  manners : P.cons.lookup ("MANNERS" : Str) = some (.tup [.str "over", .str "multiply", .str "screen", .str "plus", .str "atop", .str "cut"])
  rules : P.cons.lookup ("RULES" : Str) = some (.tup [.str "turn", .str "grey", .str "round"])
section
variable {P : Prog} (H : HPi P)
include H
end
section
variable {P : Prog} (H : HPi P)
include H
end
section
variable {P : Prog} (H : HNm P)
include H
mutual
theorem p_names_of : ∀ (d : Nat) {a : Nd}, a.wf d → a.wt ≤ 1000 → Run P (1 + 2 * d) "names_of" [ndD a] ⟨.lst (a.nms.map D.str), .own⟩
  | d, a, hw, hB => by
    refine (Run.of (k := 2 * d) H.names_of rfl fun m' S hm => ?_).up (by omega)
    have x0 := nd0 a
    have x1 := nd1 a
    have g0 := w0_gr a
    rw [nms_gr]
    cases hg : a.isGr with
    | false =>
      rw [hg] at g0
      unfold f_names_of entry
      rw [vSs_cons]
      have q : Op2.ev .add (.lst [.str a.nm]) (.lst []) = some ⟨.lst [.str a.nm], .own⟩ := by simp [Gz.Op2.ev, limE]
      simp [Gz.vSs_nil, Gz.vS_asg, Gz.vS_asgO, Gz.vS_asgT, Gz.vS_par, Gz.vS_app, Gz.vS_ext, Gz.vS_ret, Gz.vS_retO, Gz.vS_ifs, Gz.vS_for, Gz.vS_expr, Gz.vS_pass, Gz.vS_frz, Gz.vS_rais, Gz.vS_try, Gz.vE_var, Gz.vE_int, Gz.vE_bl, Gz.vE_non, Gz.vE_str, Gz.vE_glob, Gz.vE_fnv, Gz.vE_call, Gz.vE_bi, Gz.vE_gix, Gz.vE_bin, Gz.vE_cmp, Gz.vE_chain, Gz.vE_not, Gz.vE_and, Gz.vE_or, Gz.vE_ite, Gz.vE_tup, Gz.vE_lst, Gz.vE_idx, Gz.vE_slL, Gz.vE_slU, Gz.vE_isi, Gz.vE_isx, Gz.vE_calle, Gz.evEs, Gz.evXs, Gz.slotRv, Gz.bind_ok, Gz.bind_exc, Gz.st_ok, Gz.st_exc, Gz.toO_some, Gz.ofOpt_some, Gz.hold_fr, Gz.hold_own, Gz.Rv.cell, Gz.bind_one, Gz.then_nx, Gz.then_rt, Gz.then_ex, Gz.setE, Gz.Tg.bind, Gz.bindL, Gz.truthR, Gz.D.truth, x0, x1, g0, Gz.Cm.ev, q]
    | true =>
      rw [hg] at g0
      obtain ⟨e, rfl, k1, k2⟩ := kids_wf hg hw
      have f := p_names_all e k1 (by omega) m' S (by omega)
      have x5 := nd5 hg
      have nl : (ndsNms a.kids).length ≤ 1000 := by
        rw [← allF_nms, List.length_map]
        have := allF_len a.kids
        omega
      have q : Op2.ev .add (.lst [.str a.nm]) (.lst ((ndsNms a.kids).map D.str)) = some ⟨.lst (.str a.nm :: (ndsNms a.kids).map D.str), .own⟩ := by
        have : [D.str a.nm].length + ((ndsNms a.kids).map D.str).length ≤ lim := by rw [List.length_map, limE]; simp; omega
        show (if _ then _ else _) = _
        rw [if_pos this]
        rfl
      unfold f_names_of entry
      rw [vSs_cons]
      simp [Gz.vSs_nil, Gz.vS_asg, Gz.vS_asgO, Gz.vS_asgT, Gz.vS_par, Gz.vS_app, Gz.vS_ext, Gz.vS_ret, Gz.vS_retO, Gz.vS_ifs, Gz.vS_for, Gz.vS_expr, Gz.vS_pass, Gz.vS_frz, Gz.vS_rais, Gz.vS_try, Gz.vE_var, Gz.vE_int, Gz.vE_bl, Gz.vE_non, Gz.vE_str, Gz.vE_glob, Gz.vE_fnv, Gz.vE_call, Gz.vE_bi, Gz.vE_gix, Gz.vE_bin, Gz.vE_cmp, Gz.vE_chain, Gz.vE_not, Gz.vE_and, Gz.vE_or, Gz.vE_ite, Gz.vE_tup, Gz.vE_lst, Gz.vE_idx, Gz.vE_slL, Gz.vE_slU, Gz.vE_isi, Gz.vE_isx, Gz.vE_calle, Gz.evEs, Gz.evXs, Gz.slotRv, Gz.bind_ok, Gz.bind_exc, Gz.st_ok, Gz.st_exc, Gz.toO_some, Gz.ofOpt_some, Gz.hold_fr, Gz.hold_own, Gz.Rv.cell, Gz.bind_one, Gz.then_nx, Gz.then_rt, Gz.then_ex, Gz.setE, Gz.Tg.bind, Gz.bindL, Gz.truthR, Gz.D.truth, x0, x1, x5, g0, f, Gz.Cm.ev, q]
  termination_by d => 2 * d
theorem p_names_all : ∀ (d : Nat) {l : List Nd}, Nd.wfs d l → Nd.wts l ≤ 1000 → Run P (2 + 2 * d) "names_of_all" [.tup (ndsD l)] ⟨.lst ((ndsNms l).map D.str), .own⟩
  | d, l, hw, hB => by
    refine (Run.of (k := 1 + 2 * d) H.names_all rfl fun m' S hm => ?_).up (by omega)
    unfold f_names_of_all entry
    rw [vSs_cons]
    simp [Gz.vSs_nil, Gz.vS_asg, Gz.vS_asgO, Gz.vS_asgT, Gz.vS_par, Gz.vS_app, Gz.vS_ext, Gz.vS_ret, Gz.vS_retO, Gz.vS_ifs, Gz.vS_for, Gz.vS_expr, Gz.vS_pass, Gz.vS_frz, Gz.vS_rais, Gz.vS_try, Gz.vE_var, Gz.vE_int, Gz.vE_bl, Gz.vE_non, Gz.vE_str, Gz.vE_glob, Gz.vE_fnv, Gz.vE_call, Gz.vE_bi, Gz.vE_gix, Gz.vE_bin, Gz.vE_cmp, Gz.vE_chain, Gz.vE_not, Gz.vE_and, Gz.vE_or, Gz.vE_ite, Gz.vE_tup, Gz.vE_lst, Gz.vE_idx, Gz.vE_slL, Gz.vE_slU, Gz.vE_isi, Gz.vE_isx, Gz.vE_calle, Gz.evEs, Gz.evXs, Gz.slotRv, Gz.bind_ok, Gz.bind_exc, Gz.st_ok, Gz.st_exc, Gz.toO_some, Gz.ofOpt_some, Gz.hold_fr, Gz.hold_own, Gz.Rv.cell, Gz.bind_one, Gz.then_nx, Gz.then_rt, Gz.then_ex, Gz.setE, Gz.Tg.bind, Gz.bindL, Gz.truthR, Gz.D.truth]
    rw [vSs_cons, vS_for_of (xs := [.tup (ndsD l)]) (ds := ndsD l) (by simp [Gz.vSs_nil, Gz.vS_asg, Gz.vS_asgO, Gz.vS_asgT, Gz.vS_par, Gz.vS_app, Gz.vS_ext, Gz.vS_ret, Gz.vS_retO, Gz.vS_ifs, Gz.vS_for, Gz.vS_expr, Gz.vS_pass, Gz.vS_frz, Gz.vS_rais, Gz.vS_try, Gz.vE_var, Gz.vE_int, Gz.vE_bl, Gz.vE_non, Gz.vE_str, Gz.vE_glob, Gz.vE_fnv, Gz.vE_call, Gz.vE_bi, Gz.vE_gix, Gz.vE_bin, Gz.vE_cmp, Gz.vE_chain, Gz.vE_not, Gz.vE_and, Gz.vE_or, Gz.vE_ite, Gz.vE_tup, Gz.vE_lst, Gz.vE_idx, Gz.vE_slL, Gz.vE_slU, Gz.vE_isi, Gz.vE_isx, Gz.vE_calle, Gz.evEs, Gz.evXs, Gz.slotRv, Gz.bind_ok, Gz.bind_exc, Gz.st_ok, Gz.st_exc, Gz.toO_some, Gz.ofOpt_some, Gz.hold_fr, Gz.hold_own, Gz.Rv.cell, Gz.bind_one, Gz.then_nx, Gz.then_rt, Gz.then_ex, Gz.setE, Gz.Tg.bind, Gz.bindL, Gz.truthR, Gz.D.truth]) rfl]
    refine Eq.symm (for_inv (fun j env => ∃ c2, env = [.fr (.tup (ndsD l)), .own ((ndsNms (l.take j)).map D.str), c2]) ⟨_, by rw [List.take_zero, ndsNms]; rfl⟩ ?_ ?_)
    · rintro j x env hj ⟨c2, rfl⟩
      obtain ⟨hlt, rfl⟩ := nds_get hj
      have one : ndsNms [l[j]] = l[j].nms := by rw [ndsNms, ndsNms, List.append_nil]
      rw [take_succ' l hlt, nms_app, one, List.map_append]
      have ha := wfs_iff.mp hw l[j] (List.getElem_mem hlt)
      have hb := wts_mem (List.getElem_mem hlt)
      have f := p_names_of d ha (by omega) m' S (by omega)
      have n1 : (ndsNms (l.take j)).length ≤ 1000 := by
        rw [← allF_nms, List.length_map]
        have := allF_len (l.take j)
        have := wts_take l j
        omega
      have n2 : l[j].nms.length ≤ 1000 := by
        rw [← allN_nms, List.length_map]
        have := allN_len l[j]
        omega
      generalize l[j] = a at *
      generalize hA : ndsNms (l.take j) = A at *
      have l1 : (A.map D.str).length + (a.nms.map D.str).length ≤ lim := by rw [List.length_map, List.length_map, limE]; omega
      generalize A.map D.str = B at *
      generalize a.nms.map D.str = C at *
      simp only [bind_one, toO_some]
      rw [vSs_cons]
      simp [Gz.vSs_nil, Gz.vS_asg, Gz.vS_asgO, Gz.vS_asgT, Gz.vS_par, Gz.vS_app, Gz.vS_ext, Gz.vS_ret, Gz.vS_retO, Gz.vS_ifs, Gz.vS_for, Gz.vS_expr, Gz.vS_pass, Gz.vS_frz, Gz.vS_rais, Gz.vS_try, Gz.vE_var, Gz.vE_int, Gz.vE_bl, Gz.vE_non, Gz.vE_str, Gz.vE_glob, Gz.vE_fnv, Gz.vE_call, Gz.vE_bi, Gz.vE_gix, Gz.vE_bin, Gz.vE_cmp, Gz.vE_chain, Gz.vE_not, Gz.vE_and, Gz.vE_or, Gz.vE_ite, Gz.vE_tup, Gz.vE_lst, Gz.vE_idx, Gz.vE_slL, Gz.vE_slU, Gz.vE_isi, Gz.vE_isx, Gz.vE_calle, Gz.evEs, Gz.evXs, Gz.slotRv, Gz.bind_ok, Gz.bind_exc, Gz.st_ok, Gz.st_exc, Gz.toO_some, Gz.ofOpt_some, Gz.hold_fr, Gz.hold_own, Gz.Rv.cell, Gz.bind_one, Gz.then_nx, Gz.then_rt, Gz.then_ex, Gz.setE, Gz.Tg.bind, Gz.bindL, Gz.truthR, Gz.D.truth, f, l1]
      exact ⟨_, rfl, _, rfl⟩
    · rintro env ⟨c2, rfl⟩
      rw [ndsD_len, List.take_length, vSs_cons]
      simp [Gz.vSs_nil, Gz.vS_asg, Gz.vS_asgO, Gz.vS_asgT, Gz.vS_par, Gz.vS_app, Gz.vS_ext, Gz.vS_ret, Gz.vS_retO, Gz.vS_ifs, Gz.vS_for, Gz.vS_expr, Gz.vS_pass, Gz.vS_frz, Gz.vS_rais, Gz.vS_try, Gz.vE_var, Gz.vE_int, Gz.vE_bl, Gz.vE_non, Gz.vE_str, Gz.vE_glob, Gz.vE_fnv, Gz.vE_call, Gz.vE_bi, Gz.vE_gix, Gz.vE_bin, Gz.vE_cmp, Gz.vE_chain, Gz.vE_not, Gz.vE_and, Gz.vE_or, Gz.vE_ite, Gz.vE_tup, Gz.vE_lst, Gz.vE_idx, Gz.vE_slL, Gz.vE_slU, Gz.vE_isi, Gz.vE_isx, Gz.vE_calle, Gz.evEs, Gz.evXs, Gz.slotRv, Gz.bind_ok, Gz.bind_exc, Gz.st_ok, Gz.st_exc, Gz.toO_some, Gz.ofOpt_some, Gz.hold_fr, Gz.hold_own, Gz.Rv.cell, Gz.bind_one, Gz.then_nx, Gz.then_rt, Gz.then_ex, Gz.setE, Gz.Tg.bind, Gz.bindL, Gz.truthR, Gz.D.truth]
  termination_by d => 2 * d + 1
end
end
section
variable {P : Prog} (H : HPi P)
include H
end
/-! ### drawn names are proper, drawn layers are near -/
end GzL
end -- HcA
section -- HcB
set_option maxHeartbeats 4000000
/-! HcB: boxes: what they hold. -/
namespace GzL
open PySem PySem.Spec PyProof.Rows L2 Gz
structure Bx where
  l : Int
  u : Int
  w : Int
  h : Int
  deriving DecidableEq
def clipF (l u r d : Int) : Option Bx := if l < r ∧ u < d then some ⟨l, u, r - l, d - u⟩ else none
def joinF : Option Bx → Option Bx → Option Bx
  | none, b => b
  | some a, none => some a
  | some a, some b => clipF (min a.l b.l) (min a.u b.u) (max (a.l + a.w) (b.l + b.w)) (max (a.u + a.h) (b.u + b.h))
def Bok : Option Bx → Prop
  | none => True
  | some a => 0 < a.w ∧ 0 < a.h
theorem join_eq {a b : Bx} (ha : Bok (some a)) (hb : Bok (some b)) : joinF (some a) (some b) = some ⟨min a.l b.l, min a.u b.u, max (a.l + a.w) (b.l + b.w) - min a.l b.l, max (a.u + a.h) (b.u + b.h) - min a.u b.u⟩ := by
  simp only [Bok] at ha hb
  simp only [joinF, clipF]
  rw [if_pos (by omega)]
theorem join_ok {a b : Option Bx} (ha : Bok a) (hb : Bok b) : Bok (joinF a b) := by
  cases a with
  | none => exact hb
  | some a =>
    cases b with
    | none => exact ha
    | some b =>
      rw [join_eq ha hb]
      simp only [Bok] at ha hb ⊢
      omega
/-! ### the box of a node -/
/-! ### the box of all that is changed -/
/-! ### other nodes, and without some -/
end GzL
end -- HcB
section -- HcC
set_option maxHeartbeats 4000000
/-! HcC: boxes, run; pictures without nodes. -/
namespace GzL
open PySem PySem.Spec PyProof.Rows L2 Gz
structure HBx (P : Prog) : Prop where
  clipped : P.defs.lookup ("clipped" : Str) = some f_clipped
  joined : P.defs.lookup ("joined_box" : Str) = some f_joined_box
section
variable {P : Prog} (H : HBx P)
include H
end
end GzL
end -- HcC
section -- HcD
set_option maxHeartbeats 4000000
/-! HcD: the box of a node, of what is changed; pictures without nodes, run. -/
namespace GzL
open PySem PySem.Spec PyProof.Rows L2 Gz
end GzL
end -- HcD
section -- HcE
set_option maxHeartbeats 4000000
/-! HcE: pictures without nodes, run. -/
namespace GzL
open PySem PySem.Spec PyProof.Rows L2 Gz
section
variable {P : Prog}
end
end GzL
end -- HcE
section -- HcF
set_option maxHeartbeats 4000000
/-! HcF: what is known of a drawn picture. -/
namespace GzL
open PySem PySem.Spec PyProof.Rows L2 Gz
def nmList (ns : List Int) (kn : Int) (M : Nat) : List Str := (List.range M).map (nmF ns kn)
theorem r_names4 {P : Prog} (H : HDr P) (hP : P.defs.lookup ("_law_names" : Str) = some f__law_names) {ns : List Int} {k : Int} {M : Nat} (k0 : 0 ≤ k) (k1 : k < 10000) (hl : ns.length ≤ 63) (hm : M ≤ 14) :
    Run P 3 "_law_names" [.scr ns, .int k, .int M] ⟨.lst ((nmList ns k M).map D.str), .own⟩ := r_names H hP k0 k1 hl hm
theorem nm_ix (ns : List Int) (k : Int) {M i : Nat} (h : i < M) : idxEv (.lst ((nmList ns k M).map D.str)) (.int (i : Int)) = some (.str (nmF ns k i)) := by
  rw [idx_lst, atD_nat, List.getElem?_map, nmList, List.getElem?_map, List.getElem?_range h]
  rfl
theorem shown_app : ∀ (a b : List Nd) (s : Sp) (x y : Int), shownF (a ++ b) s x y = shownF b (shownF a s x y) x y
  | [], b, s, x, y => by rw [List.nil_append, shownF]
  | n :: a, b, s, x, y => by rw [List.cons_append, shownF, shownF, shown_app a b]
theorem flat_cong {w h : Nat} {l m : List Nd} (e : ∀ x y : Nat, x < w → y < h → shownF l clr x y = shownF m clr x y) : flatF ⟨w, h, l⟩ = flatF ⟨w, h, m⟩ := by
  show mkSht w h _ = mkSht w h _
  exact mk_congr e
end GzL
end -- HcF
section -- HcH
set_option maxHeartbeats 4000000
/-! HcH: the least box of places. -/
namespace GzL
open PySem PySem.Spec PyProof.Rows L2 Gz
abbrev Pt := Int × Int
/-- all places of a picture -/
def whole (w h : Nat) : List Pt := (List.range (w * h)).map fun i : Nat => (((i % w : Nat) : Int), ((i / w : Nat) : Int))
end GzL
end -- HcH
section -- HcI
set_option maxHeartbeats 4000000
/-! HcI: the law's own boxes, run. -/
namespace GzL
open PySem PySem.Spec PyProof.Rows L2 Gz
structure HLx (P : Prog) : Prop where
  joined : P.defs.lookup ("_law_joined" : Str) = some f__law_joined
  places : P.defs.lookup ("_law_places" : Str) = some f__law_places
  box : P.defs.lookup ("_law_box" : Str) = some f__law_box
section
variable {P : Prog} (H : HLx P)
include H
end
end GzL
end -- HcI
section -- HcJ
set_option maxHeartbeats 4000000
/-! HcJ: the law's own box of a node; nodes with others in the stead of one. -/
namespace GzL
open PySem PySem.Spec PyProof.Rows L2 Gz
section
variable {P : Prog} (H : HLx P)
include H
end
end GzL
end -- HcJ
section -- HcK
set_option maxHeartbeats 4000000
/-! HcK: nodes with others in the stead of one, by the law; a drawn box. -/
namespace GzL
open PySem PySem.Spec PyProof.Rows L2 Gz
theorem eqO_str1 {a b : Str} (ha : chOk a) (hb : chOk b) : eqO (.str a) (.str b) = some (decide (a = b)) := by
  have e : eqO (.str a) (.str b) = if (D.str a).okq 60 && (D.str b).okq 60 then some ((D.str a).eqb (.str b)) else none := by unfold eqO; rfl
  rw [e, okq_str ha, okq_str hb, D.eqb]
  by_cases h : a = b
  · subst h; simp
  · have : (a == b) = false := by simpa using h
    rw [this]; simp [h]
/-! ### a drawn box -/
end GzL
end -- HcK
section -- HcL
set_option maxHeartbeats 4000000
/-! HcL: names that no node has; equal data; other nodes in the stead of one. -/
namespace GzL
open PySem PySem.Spec PyProof.Rows L2 Gz
/-! ### data is equal to itself -/
mutual
theorem eqb_self : ∀ (n : Nat) (d : D), d.okq n = true → d.eqb d = true
  | n, .non, _ => by rw [D.eqb]
  | n, .bl b, _ => by rw [D.eqb]; simp
  | n, .int b, _ => by rw [D.eqb]; simp
  | n, .str b, _ => by rw [D.eqb]; simp
  | 0, .tup l, h => by rw [D.okq] at h <;> first | (cases h; done) | simp
  | n + 1, .tup l, h => by rw [D.okq] at h; rw [D.eqb]; exact eqs_self n l h
  | 0, .lst l, h => by rw [D.okq] at h <;> first | (cases h; done) | simp
  | n + 1, .lst l, h => by rw [D.okq] at h; rw [D.eqb]; exact eqs_self n l h
  | 0, .scr l, h => by rw [D.okq] at h <;> first | (cases h; done) | simp
  | n + 1, .scr l, h => by rw [D.okq] at h <;> first | (cases h; done) | simp
  | 0, .dct _ _, h => by rw [D.okq] at h <;> first | (cases h; done) | simp
  | n + 1, .dct _ _, h => by rw [D.okq] at h <;> first | (cases h; done) | simp
  | 0, .fn _, h => by rw [D.okq] at h <;> first | (cases h; done) | simp
  | n + 1, .fn _, h => by rw [D.okq] at h <;> first | (cases h; done) | simp
  | 0, .obj _, h => by rw [D.okq] at h <;> first | (cases h; done) | simp
  | n + 1, .obj _, h => by rw [D.okq] at h <;> first | (cases h; done) | simp
  | 0, .exc _, h => by rw [D.okq] at h <;> first | (cases h; done) | simp
  | n + 1, .exc _, h => by rw [D.okq] at h <;> first | (cases h; done) | simp
theorem eqs_self : ∀ (n : Nat) (l : List D), D.oks n l = true → D.eqs l l = true
  | _, [], _ => by rw [D.eqs]
  | n, d :: l, h => by
    rw [D.oks, Bool.and_eq_true] at h
    rw [D.eqs, eqb_self n d h.1, eqs_self n l h.2]
    rfl
end
theorem eqO_self {d : D} (h : d.okq 60 = true) : eqO d d = some true := by
  have e : eqO d d = if d.okq 60 && d.okq 60 then some (d.eqb d) else none := by
    cases d with
    | scr l => rw [D.okq] at h <;> first | (cases h; done) | simp
    | _ => unfold eqO; rfl
  rw [e, h, eqb_self 60 d h]
  rfl
theorem eqO_pic {d : Nat} {p : Pic} (hw : Nd.wfs d p.ns) (hd : d ≤ 20) (hn : ∀ x ∈ ndsNms p.ns, chOk x) : eqO (picD p) (picD p) = some true := by
  refine eqO_self ?_
  have h := oks_nd d (58 - 2 * d - 5) hw hn
  rw [show 58 - 2 * d - 5 + 2 * d + 5 = 58 by omega] at h
  unfold picD
  simp only [D.okq, D.oks, h, Bool.and_self]
/-! ### a node in the stead of another -/
/-! ### no such name -/
theorem p_names_in2 {P : Prog} (H : HNm P) (hP : P.defs.lookup ("names_in" : Str) = some f_names_in) {p : Pic} {d : Nat} (hw : Nd.wfs d p.ns) (hB : Nd.wts p.ns ≤ 1000) : Run P (3 + 2 * d) "names_in" [picD p] ⟨.lst ((ndsNms p.ns).map D.str), .own⟩ := by
  refine (Run.of (k := 2 + 2 * d) hP rfl fun m' S hm => ?_).up (by omega)
  have f := p_names_all H d hw hB m' S (by omega)
  have x2 : idxEv (picD p) (.int 2) = some (.tup (ndsD p.ns)) := rfl
  unfold f_names_in entry
  rw [vSs_cons]
  simp [Gz.vSs_nil, Gz.vS_asg, Gz.vS_asgO, Gz.vS_asgT, Gz.vS_par, Gz.vS_app, Gz.vS_ext, Gz.vS_ret, Gz.vS_retO, Gz.vS_ifs, Gz.vS_for, Gz.vS_expr, Gz.vS_pass, Gz.vS_frz, Gz.vS_rais, Gz.vS_try, Gz.vE_var, Gz.vE_int, Gz.vE_bl, Gz.vE_non, Gz.vE_str, Gz.vE_glob, Gz.vE_fnv, Gz.vE_call, Gz.vE_bi, Gz.vE_gix, Gz.vE_bin, Gz.vE_cmp, Gz.vE_chain, Gz.vE_not, Gz.vE_and, Gz.vE_or, Gz.vE_ite, Gz.vE_tup, Gz.vE_lst, Gz.vE_idx, Gz.vE_slL, Gz.vE_slU, Gz.vE_isi, Gz.vE_isx, Gz.vE_calle, Gz.evEs, Gz.evXs, Gz.slotRv, Gz.bind_ok, Gz.bind_exc, Gz.st_ok, Gz.st_exc, Gz.toO_some, Gz.ofOpt_some, Gz.hold_fr, Gz.hold_own, Gz.Rv.cell, Gz.bind_one, Gz.then_nx, Gz.then_rt, Gz.then_ex, Gz.setE, Gz.Tg.bind, Gz.bindL, Gz.truthR, Gz.D.truth, x2, f]
/-! ### names that are not drawn -/
end GzL
end -- HcL
section -- HcG
set_option maxHeartbeats 4000000
/-! HcG: pictures without needless nodes. -/
namespace GzL
open PySem PySem.Spec PyProof.Rows L2 Gz
def Nd.mn : Nd → Mn
  | .layer _ m _ _ _ _ _ _ _ => m
  | .tone _ _ _ _ => .over
  | .group _ m _ _ _ => m
theorem onF_br {a : Nd} (ht : a.isTone = false) (x y : Int) (b : Sp) : a.onF x y b = if a.sh then blF a.mn (a.brF x y) b else b := by
  cases a with
  | layer nm mn st sh l u mask s z => rw [Nd.onF, Nd.brF]; rfl
  | tone => cases ht
  | group nm mn st sh ns => rw [Nd.onF, Nd.brF]; rfl
/-! ### names -/
end GzL
end -- HcG
section -- HcN
set_option maxHeartbeats 4000000
/-! HcN: needless nodes by the law; pictures without nodes that are not there. -/
namespace GzL
open PySem PySem.Spec PyProof.Rows L2 Gz
section
variable {P : Prog} (H : HLf P)
include H
end
end GzL
end -- HcN
section -- HdA
set_option maxHeartbeats 4000000
/-! HdA: lists within lists of nodes: plain law. -/
namespace GzL
open PySem PySem.Spec PyProof.Rows L2 Gz
/-- all but one of the lists of nodes -/
inductive Hole : (List Nd → List Nd) → Prop where
  | id : Hole fun M => M
  | into (pre post : List Nd) (nm : Str) (mn : Mn) (st : Rat) (sh : Bool) (C : List Nd → List Nd) : Hole C → Hole fun M => pre ++ .group nm mn st sh (C M) :: post
theorem nms_one (a : Nd) : ndsNms [a] = a.nms := by rw [ndsNms, ndsNms, List.append_nil]
theorem nms_cons (a : Nd) (l : List Nd) : ndsNms (a :: l) = a.nms ++ ndsNms l := by rw [ndsNms]
theorem nms_grp (nm : Str) (mn : Mn) (st : Rat) (sh : Bool) (l : List Nd) : (Nd.group nm mn st sh l).nms = nm :: ndsNms l := by rw [Nd.nms]
mutual
theorem hole_N (nm : Str) : ∀ a : Nd, nm ∈ a.nms → a.nm = nm ∨ ∃ x mn st sh C L, a = .group x mn st sh (C L) ∧ Hole C ∧ nm ∈ L.map Nd.nm
  | .layer a mn st sh l u mask s z, h => by
    rw [Nd.nms, List.mem_singleton] at h
    exact .inl h.symm
  | .tone a ru st sh, h => by
    rw [Nd.nms, List.mem_singleton] at h
    exact .inl h.symm
  | .group a mn st sh ns, h => by
    rw [Nd.nms] at h
    rcases List.mem_cons.mp h with e | h
    · exact .inl e.symm
    · obtain ⟨C, L, e, hC, hn⟩ := hole_L nm ns h
      exact .inr ⟨a, mn, st, sh, C, L, by rw [← e], hC, hn⟩
theorem hole_L (nm : Str) : ∀ l : List Nd, nm ∈ ndsNms l → ∃ C L, l = C L ∧ Hole C ∧ nm ∈ L.map Nd.nm
  | [], h => by rw [ndsNms] at h; cases h
  | a :: l, h => by
    rw [ndsNms] at h
    rcases List.mem_append.mp h with h | h
    · rcases hole_N nm a h with e | ⟨x, mn, st, sh, C, L, e, hC, hn⟩
      · exact ⟨_, a :: l, rfl, .id, by rw [List.map_cons, e]; exact List.mem_cons_self⟩
      · exact ⟨fun M => [] ++ .group x mn st sh (C M) :: l, L, by rw [e]; rfl, .into [] l x mn st sh C hC, hn⟩
    · obtain ⟨C, L, e, hC, hn⟩ := hole_L nm l h
      cases hC with
      | id => exact ⟨_, a :: L, by rw [e], .id, by rw [List.map_cons]; exact List.mem_cons_of_mem _ hn⟩
      | into pre post x mn st sh C hC => exact ⟨fun M => (a :: pre) ++ .group x mn st sh (C M) :: post, L, by rw [e]; rfl, .into (a :: pre) post x mn st sh C hC, hn⟩
end
theorem Hole.nms {C : List Nd → List Nd} (h : Hole C) : ∀ {L : List Nd} {x : Str}, x ∈ ndsNms L → x ∈ ndsNms (C L) := by
  induction h with
  | id => exact fun h => h
  | into pre post nm mn st sh C hC ih =>
    intro L x hx
    rw [nms_app, nms_cons, nms_grp]
    exact List.mem_append_right _ (List.mem_append_left _ (List.mem_cons_of_mem _ (ih hx)))
/-- a name within is nowhere else -/
theorem hole_out {pre post : List Nd} {nm : Str} {mn : Mn} {st : Rat} {sh : Bool} {l : List Nd} {x : Str} (nd : (ndsNms (pre ++ .group nm mn st sh l :: post)).Nodup) (hx : x ∈ ndsNms l) : x ∉ ndsNms pre ∧ x ∉ ndsNms post ∧ nm ≠ x ∧ (ndsNms l).Nodup := by
  rw [nms_app, nms_cons, nms_grp] at nd
  obtain ⟨_, n1, d1⟩ := List.nodup_append.mp nd
  obtain ⟨n2, _, d2⟩ := List.nodup_append.mp n1
  obtain ⟨n3, n4⟩ := List.nodup_cons.mp n2
  exact ⟨fun q => d1 x q x (List.mem_append_left _ (List.mem_cons_of_mem _ hx)) rfl, fun q => d2 x (List.mem_cons_of_mem _ hx) x q rfl, fun e => n3 (e ▸ hx), n4⟩
theorem chL_none {nm : Str} {o : List Nd} : ∀ {l : List Nd}, nm ∉ ndsNms l → chL nm o l = l := fun {l} h => (no_L (o := o) (b := .tone "" .turn 0 false) l h).2.1
theorem lwL_app {nm : Str} : ∀ {a b : List Nd}, nm ∉ ndsNms a → lwL nm (a ++ b) = lwL nm b
  | [], b, _ => rfl
  | x :: a, b, h => by
    rw [ndsNms, List.mem_append, not_or] at h
    rw [List.cons_append, lwL, (no_N (o := []) (b := .tone "" .turn 0 false) x h.1).1]
    exact lwL_app h.2
theorem not_top {nm : Str} {l : List Nd} (h : nm ∉ ndsNms l) : nm ∉ l.map Nd.nm := fun q => h (nm_in_nms q)
theorem Hole.find {C : List Nd → List Nd} (h : Hole C) : ∀ {L : List Nd} {x : Str}, (ndsNms (C L)).Nodup → x ∈ L.map Nd.nm → lwF x (C L) = some L ∧ ∀ M, chF x M (C L) = C M := by
  induction h with
  | id =>
    intro L x nd hx
    unfold lwF chF
    rw [if_pos hx]
    exact ⟨rfl, fun M => by rw [if_pos hx]⟩
  | into pre post nm mn st sh C hC ih =>
    intro L x nd hx
    obtain ⟨h1, h2, h3, h4⟩ := hole_out nd (hC.nms (nm_in_nms hx))
    obtain ⟨i1, i2⟩ := ih h4 hx
    have nt : x ∉ (pre ++ Nd.group nm mn st sh (C L) :: post).map Nd.nm := by
      rw [List.map_append, List.map_cons, List.mem_append, List.mem_cons, not_or, not_or]
      exact ⟨not_top h1, fun e => h3 e.symm, not_top h2⟩
    unfold lwF chF
    refine ⟨?_, fun M => ?_⟩
    · rw [if_neg nt, lwL_app h1, lwL, Nd.lwN]
      unfold lwF at i1
      rw [i1]
    · rw [if_neg nt, chL_app, chL_none h1, chL, chL_none h2, Nd.chN]
      unfold chF at i2
      rw [i2]
theorem Hole.wt {C : List Nd → List Nd} (h : Hole C) : ∀ (L M : List Nd), Nd.wts (C M) + Nd.wts L = Nd.wts (C L) + Nd.wts M := by
  induction h with
  | id => intro L M; exact Nat.add_comm _ _
  | into pre post nm mn st sh C hC ih =>
    intro L M
    have := ih L M
    rw [wts_append, wts_append, Nd.wts, Nd.wts, Nd.wt, Nd.wt]
    omega
theorem wfs_app {d : Nat} {a b : List Nd} : Nd.wfs d (a ++ b) ↔ Nd.wfs d a ∧ Nd.wfs d b := by
  rw [wfs_iff, wfs_iff, wfs_iff]
  exact ⟨fun h => ⟨fun x hx => h x (List.mem_append_left _ hx), fun x hx => h x (List.mem_append_right _ hx)⟩, fun h x hx => (List.mem_append.mp hx).elim (h.1 x) (h.2 x)⟩
theorem wfs_cons {d : Nat} {a : Nd} {b : List Nd} : Nd.wfs d (a :: b) ↔ a.wf d ∧ Nd.wfs d b := by rw [Nd.wfs]
theorem Hole.wf {C : List Nd → List Nd} (h : Hole C) : ∀ {d : Nat} {L : List Nd}, Nd.wfs d (C L) → ∃ e, e ≤ d ∧ Nd.wfs e L ∧ ∀ M, Nd.wfs e M → Nd.wfs d (C M) := by
  induction h with
  | id => exact fun {d L} h => ⟨d, Nat.le_refl _, h, fun M h => h⟩
  | into pre post nm mn st sh C hC ih =>
    intro d L hw
    obtain ⟨h1, h2⟩ := wfs_app.mp hw
    obtain ⟨h3, h4⟩ := wfs_cons.mp h2
    cases d with
    | zero => rw [Nd.wf] at h3; exact h3.elim
    | succ d =>
      rw [Nd.wf] at h3
      obtain ⟨e, he, w1, w2⟩ := ih h3.2
      exact ⟨e, by omega, w1, fun M hM => wfs_app.mpr ⟨h1, wfs_cons.mpr ⟨by rw [Nd.wf]; exact ⟨h3.1, w2 M hM⟩, h4⟩⟩⟩
theorem Hole.sh {C : List Nd → List Nd} (h : Hole C) : ∀ {d : Nat} {L M : List Nd} {x y : Int}, Nd.wfs d (C L) → (∀ s n, Sp.ok n s → shownF M s x y = shownF L s x y) → ∀ s n, Sp.ok n s → shownF (C M) s x y = shownF (C L) s x y := by
  induction h with
  | id => exact fun _ h => h
  | into pre post nm mn st sh C hC ih =>
    intro d L M x y hw hs s n ho
    obtain ⟨h1, h2⟩ := wfs_app.mp hw
    obtain ⟨h3, h4⟩ := wfs_cons.mp h2
    cases d with
    | zero => rw [Nd.wf] at h3; exact h3.elim
    | succ d =>
      rw [Nd.wf] at h3
      rw [shown_app, shown_app, shownF, shownF, Nd.onF, Nd.onF, ih h3.2 hs clr 0 clr_ok]
theorem Hole.mem {C : List Nd → List Nd} (h : Hole C) : ∀ {L : List Nd} {b : Nd}, b ∈ allF L → b ∈ allF (C L) := by
  induction h with
  | id => exact fun h => h
  | into pre post nm mn st sh C hC ih =>
    intro L b hb
    rw [allF_app, allF, Nd.allN]
    exact List.mem_append_right _ (List.mem_append_left _ (List.mem_cons_of_mem _ (ih hb)))
/-- a list about a name -/
theorem at_name {L : List Nd} {x : Str} (h : x ∈ L.map Nd.nm) : ∃ pre c post, L = pre ++ c :: post ∧ c.nm = x ∧ x ∉ pre.map Nd.nm := by
  induction L with
  | nil => cases h
  | cons a L ih =>
    by_cases e : a.nm = x
    · exact ⟨[], a, L, rfl, e, by simp⟩
    · rw [List.map_cons] at h
      rcases List.mem_cons.mp h with q | q
      · exact absurd q.symm e
      · obtain ⟨pre, c, post, h1, h2, h3⟩ := ih q
        refine ⟨a :: pre, c, post, by rw [h1]; rfl, h2, ?_⟩
        rw [List.map_cons, List.mem_cons, not_or]
        exact ⟨fun q => e q.symm, h3⟩
end GzL
end -- HdA
section -- HdB
set_option maxHeartbeats 8000000
/-! HdB: nodes made one, groups opened, nodes that change places: the program. -/
namespace GzL
open PySem PySem.Spec PyProof.Rows L2 Gz
theorem cne' (a b : D) : Cm.ev .ne a b = (eqO a b).map not := rfl
theorem ceq2 (a b : D) : Cm.ev .eq a b = eqO a b := rfl
/-! ### parts -/
def Nd.plB (m : Mn) (a : Nd) : Bool := !a.isTone && (a.sh && decide (a.mn = m))
theorem w2_mn {a : Nd} (h : a.isTone = false) : a.w2 = a.mn.s := by cases a <;> first | rfl | cases h
theorem mn_eqO (m m' : Mn) : eqO (.str m.s) (.str m'.s) = some (decide (m = m')) := by cases m <;> cases m' <;> decide +kernel
abbrev joinD : D := .tup [.str "over", .str "multiply", .str "screen", .str "plus"]
abbrev turnD : D := .tup [.str "multiply", .str "screen", .str "plus"]
theorem mn_notin (m : Mn) : Cm.ev .notin (.str m.s) joinD = some (!m.joins) := by cases m <;> decide +kernel
theorem ru_notin (m : Ru) : Cm.ev .notin (.str m.s) joinD = some true := by cases m <;> decide +kernel
theorem w2_notin (a : Nd) : Cm.ev .notin (.str a.w2) joinD = some (!(!a.isTone && a.mn.joins)) := by
  cases a with
  | layer nm mn _ _ _ _ _ _ _ => exact mn_notin mn
  | tone nm ru _ _ => exact ru_notin ru
  | group nm mn _ _ _ => exact mn_notin mn
theorem ne_tone (a : Nd) : Cm.ev .ne (.str a.w0) (.str "tone") = some (!a.isTone) := by rw [cne', w0_tone]; rfl
theorem ne_group (a : Nd) : Cm.ev .ne (.str a.w0) (.str "group") = some (!a.isGr) := by rw [cne', w0_gr]; rfl
structure HMe (P : Prog) : Prop where
  wn : HWb P
  fl : HFl P
  places : P.defs.lookup ("places" : Str) = some f_places
  spots_of : P.defs.lookup ("spots_of" : Str) = some f_spots_of
  joining : P.cons.lookup ("JOINING" : Str) = some joinD
  is_plain : P.defs.lookup ("is_plain" : Str) = some f_is_plain
  sheet_of : P.defs.lookup ("sheet_of" : Str) = some f_sheet_of
  blended : P.defs.lookup ("blended_sheets" : Str) = some f_blended_sheets
  merged : P.defs.lookup ("merged" : Str) = some f_merged
  opened : P.defs.lookup ("opened" : Str) = some f_opened
structure HSw (P : Prog) : Prop where
  me : HMe P
  turning : P.cons.lookup ("TURNING" : Str) = some turnD
  swapped : P.defs.lookup ("swapped" : Str) = some f_swapped
/-- a picture that is gone through -/
structure Pok (d : Nat) (p : Pic) : Prop where
  ok : p.ok d
  ch : ∀ x ∈ ndsNms p.ns, chOk x
  nd : (ndsNms p.ns).Nodup
  d3 : d ≤ 3
/-- where a name stands -/
structure Spot (p : Pic) (C : List Nd → List Nd) (pre : List Nd) (c : Nd) (post : List Nd) : Prop where
  h : Hole C
  e : p.ns = C (pre ++ c :: post)
  np : c.nm ∉ pre.map Nd.nm
theorem spot_of {p : Pic} {x : Str} (hx : x ∈ ndsNms p.ns) : ∃ C pre c post, Spot p C pre c post ∧ c.nm = x := by
  obtain ⟨C, L, e, hC, hn⟩ := hole_L x p.ns hx
  obtain ⟨pre, c, post, h1, h2, h3⟩ := at_name hn
  exact ⟨C, pre, c, post, ⟨hC, by rw [e, h1], by rw [h2]; exact h3⟩, h2⟩
section
variable {p : Pic} {C : List Nd → List Nd} {pre post : List Nd} {c : Nd} {d : Nat}
theorem Spot.mem (s : Spot p C pre c post) : c.nm ∈ ndsNms p.ns := by
  rw [s.e]
  exact s.h.nms (by rw [nms_app, nms_cons]; exact List.mem_append_right _ (List.mem_append_left _ (nm_nms c)))
theorem Spot.find (s : Spot p C pre c post) (hp : Pok d p) : lwF c.nm p.ns = some (pre ++ c :: post) ∧ ∀ M, chF c.nm M p.ns = C M := by
  rw [s.e]
  exact s.h.find (by rw [← s.e]; exact hp.nd) (by rw [List.map_append, List.map_cons]; exact List.mem_append_right _ List.mem_cons_self)
theorem Spot.wfL (s : Spot p C pre c post) (hp : Pok d p) : ∃ e, e ≤ d ∧ Nd.wfs e (pre ++ c :: post) ∧ ∀ M, Nd.wfs e M → Nd.wfs d (C M) := s.h.wf (by rw [← s.e]; exact hp.ok.wf)
theorem Spot.wtL (s : Spot p C pre c post) (hp : Pok d p) : Nd.wts (pre ++ c :: post) ≤ 150 := by
  have h1 := s.h.wt (pre ++ c :: post) []
  have h2 := hp.ok.wt
  rw [s.e] at h2
  have e : Nd.wts ([] : List Nd) = 0 := by rw [Nd.wts]
  have e2 : Nd.wts (C []) ≤ Nd.wts (C []) := Nat.le_refl _
  by_cases q : Nd.wts (pre ++ c :: post) ≤ Nd.wts (C (pre ++ c :: post))
  · omega
  · omega
theorem Spot.chL (s : Spot p C pre c post) (hp : Pok d p) : ∀ x ∈ ndsNms (pre ++ c :: post), chOk x := fun x hx => hp.ch x (by rw [s.e]; exact s.h.nms hx)
end
section
variable {P : Prog} {p : Pic} {C : List Nd → List Nd} {pre post : List Nd} {c : Nd} {d : Nat}
theorem p_around (H : HWb P) (hp : Pok d p) (s : Spot p C pre c post) : Run P (3 + d) "around" [picD p, .str c.nm] (.fr (.tup [.tup (ndsD (pre ++ c :: post)), .int pre.length])) := by
  have hc : chOk c.nm := hp.ch _ s.mem
  have hB : Nd.wts p.ns ≤ 1000 := by have := hp.ok.wt; omega
  have hd : d ≤ 10 := by have := hp.d3; omega
  have len : (pre ++ c :: post).length ≤ 1000 := by
    have := len_wts (pre ++ c :: post)
    have := s.wtL hp
    omega
  obtain ⟨r, hr⟩ := p_node_named H hc hp.ok.wf hB hd hp.ch s.mem
  refine (Run.of (k := 2 + d) H.around rfl fun m' S hm' => ?_).up (by omega)
  have f1 := hr m' S (by omega)
  have f2 := p_list_with H hc d hp.ok.wf hB hp.ch m' S (by omega)
  rw [(s.find hp).1] at f2
  have f3 := p_place_of H hc rfl s.np len (fun x hx => s.chL hp x (nm_in_nms hx)) m' S (by omega)
  have x2 : idxEv (picD p) (.int 2) = some (.tup (ndsD p.ns)) := rfl
  unfold f_around entry
  rw [vSs_cons]
  simp [Gz.vSs_nil, Gz.vS_asg, Gz.vS_asgO, Gz.vS_asgT, Gz.vS_par, Gz.vS_app, Gz.vS_ext, Gz.vS_ret, Gz.vS_retO, Gz.vS_ifs, Gz.vS_for, Gz.vS_expr, Gz.vS_pass, Gz.vS_frz, Gz.vS_rais, Gz.vS_try, Gz.vE_var, Gz.vE_int, Gz.vE_bl, Gz.vE_non, Gz.vE_str, Gz.vE_glob, Gz.vE_fnv, Gz.vE_call, Gz.vE_bi, Gz.vE_gix, Gz.vE_bin, Gz.vE_cmp, Gz.vE_chain, Gz.vE_not, Gz.vE_and, Gz.vE_or, Gz.vE_ite, Gz.vE_tup, Gz.vE_lst, Gz.vE_idx, Gz.vE_slL, Gz.vE_slU, Gz.vE_isi, Gz.vE_isx, Gz.vE_calle, Gz.evEs, Gz.evXs, Gz.slotRv, Gz.bind_ok, Gz.bind_exc, Gz.st_ok, Gz.st_exc, Gz.toO_some, Gz.ofOpt_some, Gz.hold_fr, Gz.hold_own, Gz.Rv.cell, Gz.bind_one, Gz.then_nx, Gz.then_rt, Gz.then_ex, Gz.setE, Gz.Tg.bind, Gz.bindL, Gz.truthR, Gz.D.truth, f1]
  rw [vSs_cons]
  simp [Gz.vSs_nil, Gz.vS_asg, Gz.vS_asgO, Gz.vS_asgT, Gz.vS_par, Gz.vS_app, Gz.vS_ext, Gz.vS_ret, Gz.vS_retO, Gz.vS_ifs, Gz.vS_for, Gz.vS_expr, Gz.vS_pass, Gz.vS_frz, Gz.vS_rais, Gz.vS_try, Gz.vE_var, Gz.vE_int, Gz.vE_bl, Gz.vE_non, Gz.vE_str, Gz.vE_glob, Gz.vE_fnv, Gz.vE_call, Gz.vE_bi, Gz.vE_gix, Gz.vE_bin, Gz.vE_cmp, Gz.vE_chain, Gz.vE_not, Gz.vE_and, Gz.vE_or, Gz.vE_ite, Gz.vE_tup, Gz.vE_lst, Gz.vE_idx, Gz.vE_slL, Gz.vE_slU, Gz.vE_isi, Gz.vE_isx, Gz.vE_calle, Gz.evEs, Gz.evXs, Gz.slotRv, Gz.bind_ok, Gz.bind_exc, Gz.st_ok, Gz.st_exc, Gz.toO_some, Gz.ofOpt_some, Gz.hold_fr, Gz.hold_own, Gz.Rv.cell, Gz.bind_one, Gz.then_nx, Gz.then_rt, Gz.then_ex, Gz.setE, Gz.Tg.bind, Gz.bindL, Gz.truthR, Gz.D.truth, x2, f2, optD]
  rw [vSs_cons]
  simp [Gz.vSs_nil, Gz.vS_asg, Gz.vS_asgO, Gz.vS_asgT, Gz.vS_par, Gz.vS_app, Gz.vS_ext, Gz.vS_ret, Gz.vS_retO, Gz.vS_ifs, Gz.vS_for, Gz.vS_expr, Gz.vS_pass, Gz.vS_frz, Gz.vS_rais, Gz.vS_try, Gz.vE_var, Gz.vE_int, Gz.vE_bl, Gz.vE_non, Gz.vE_str, Gz.vE_glob, Gz.vE_fnv, Gz.vE_call, Gz.vE_bi, Gz.vE_gix, Gz.vE_bin, Gz.vE_cmp, Gz.vE_chain, Gz.vE_not, Gz.vE_and, Gz.vE_or, Gz.vE_ite, Gz.vE_tup, Gz.vE_lst, Gz.vE_idx, Gz.vE_slL, Gz.vE_slU, Gz.vE_isi, Gz.vE_isx, Gz.vE_calle, Gz.evEs, Gz.evXs, Gz.slotRv, Gz.bind_ok, Gz.bind_exc, Gz.st_ok, Gz.st_exc, Gz.toO_some, Gz.ofOpt_some, Gz.hold_fr, Gz.hold_own, Gz.Rv.cell, Gz.bind_one, Gz.then_nx, Gz.then_rt, Gz.then_ex, Gz.setE, Gz.Tg.bind, Gz.bindL, Gz.truthR, Gz.D.truth, f3]
theorem p_with_list (H : HWb P) (hp : Pok d p) (s : Spot p C pre c post) (M : List Nd) : Run P (2 + d) "with_list" [picD p, .str c.nm, .tup (ndsD M)] (.fr (picD ⟨p.w, p.h, C M⟩)) := by
  have hc : chOk c.nm := hp.ch _ s.mem
  have hB : Nd.wts p.ns ≤ 1000 := by have := hp.ok.wt; omega
  refine (Run.of (k := 1 + d) H.wl rfl fun m' S hm' => ?_).up (by omega)
  have f := p_lists_changed H hc M d hp.ok.wf hB hp.ch m' S (by omega)
  rw [(s.find hp).2 M] at f
  have x2 : idxEv (picD p) (.int 2) = some (.tup (ndsD p.ns)) := rfl
  have su : slEv (picD p) none (some (.int 2)) = some (.fr (.tup [.int p.w, .int p.h])) := by
    unfold picD
    rw [sl_tU, cut_hi2]
    rfl
  have res : picD ⟨p.w, p.h, C M⟩ = .tup [.int p.w, .int p.h, .tup (ndsD (C M))] := rfl
  rw [res]
  generalize ndsD (C M) = CM at *
  generalize ndsD M = O at *
  unfold f_with_list entry
  rw [vSs_cons]
  simp [Gz.vSs_nil, Gz.vS_asg, Gz.vS_asgO, Gz.vS_asgT, Gz.vS_par, Gz.vS_app, Gz.vS_ext, Gz.vS_ret, Gz.vS_retO, Gz.vS_ifs, Gz.vS_for, Gz.vS_expr, Gz.vS_pass, Gz.vS_frz, Gz.vS_rais, Gz.vS_try, Gz.vE_var, Gz.vE_int, Gz.vE_bl, Gz.vE_non, Gz.vE_str, Gz.vE_glob, Gz.vE_fnv, Gz.vE_call, Gz.vE_bi, Gz.vE_gix, Gz.vE_bin, Gz.vE_cmp, Gz.vE_chain, Gz.vE_not, Gz.vE_and, Gz.vE_or, Gz.vE_ite, Gz.vE_tup, Gz.vE_lst, Gz.vE_idx, Gz.vE_slL, Gz.vE_slU, Gz.vE_isi, Gz.vE_isx, Gz.vE_calle, Gz.evEs, Gz.evXs, Gz.slotRv, Gz.bind_ok, Gz.bind_exc, Gz.st_ok, Gz.st_exc, Gz.toO_some, Gz.ofOpt_some, Gz.hold_fr, Gz.hold_own, Gz.Rv.cell, Gz.bind_one, Gz.then_nx, Gz.then_rt, Gz.then_ex, Gz.setE, Gz.Tg.bind, Gz.bindL, Gz.truthR, Gz.D.truth, Gz.Op2.ev, Gz.lim, x2, su, f]
theorem p_is_plain (hP : P.defs.lookup ("is_plain" : Str) = some f_is_plain) (a : Nd) (m : Mn) : Run P 1 "is_plain" [ndD a, .str m.s] (.fr (.bl (a.plB m))) := by
  refine Run.of hP rfl fun m' S hm' => ?_
  have x0 := nd0 a
  have x2 := nd2 a
  have x4 := nd4 a
  have n := ne_tone a
  unfold f_is_plain entry Nd.plB
  rw [vSs_cons]
  cases ht : a.isTone with
  | true =>
    rw [ht] at n
    simp [Gz.vSs_nil, Gz.vS_asg, Gz.vS_asgO, Gz.vS_asgT, Gz.vS_par, Gz.vS_app, Gz.vS_ext, Gz.vS_ret, Gz.vS_retO, Gz.vS_ifs, Gz.vS_for, Gz.vS_expr, Gz.vS_pass, Gz.vS_frz, Gz.vS_rais, Gz.vS_try, Gz.vE_var, Gz.vE_int, Gz.vE_bl, Gz.vE_non, Gz.vE_str, Gz.vE_glob, Gz.vE_fnv, Gz.vE_call, Gz.vE_bi, Gz.vE_gix, Gz.vE_bin, Gz.vE_cmp, Gz.vE_chain, Gz.vE_not, Gz.vE_and, Gz.vE_or, Gz.vE_ite, Gz.vE_tup, Gz.vE_lst, Gz.vE_idx, Gz.vE_slL, Gz.vE_slU, Gz.vE_isi, Gz.vE_isx, Gz.vE_calle, Gz.evEs, Gz.evXs, Gz.slotRv, Gz.bind_ok, Gz.bind_exc, Gz.st_ok, Gz.st_exc, Gz.toO_some, Gz.ofOpt_some, Gz.hold_fr, Gz.hold_own, Gz.Rv.cell, Gz.bind_one, Gz.then_nx, Gz.then_rt, Gz.then_ex, Gz.setE, Gz.Tg.bind, Gz.bindL, Gz.truthR, Gz.D.truth, x0, n]
  | false =>
    rw [ht] at n
    have q : Cm.ev .eq (.str a.w2) (.str m.s) = some (decide (a.mn = m)) := by rw [ceq2, w2_mn ht, mn_eqO]
    cases hs : a.sh with
    | true =>
      rw [hs] at x4
      simp [Gz.vSs_nil, Gz.vS_asg, Gz.vS_asgO, Gz.vS_asgT, Gz.vS_par, Gz.vS_app, Gz.vS_ext, Gz.vS_ret, Gz.vS_retO, Gz.vS_ifs, Gz.vS_for, Gz.vS_expr, Gz.vS_pass, Gz.vS_frz, Gz.vS_rais, Gz.vS_try, Gz.vE_var, Gz.vE_int, Gz.vE_bl, Gz.vE_non, Gz.vE_str, Gz.vE_glob, Gz.vE_fnv, Gz.vE_call, Gz.vE_bi, Gz.vE_gix, Gz.vE_bin, Gz.vE_cmp, Gz.vE_chain, Gz.vE_not, Gz.vE_and, Gz.vE_or, Gz.vE_ite, Gz.vE_tup, Gz.vE_lst, Gz.vE_idx, Gz.vE_slL, Gz.vE_slU, Gz.vE_isi, Gz.vE_isx, Gz.vE_calle, Gz.evEs, Gz.evXs, Gz.slotRv, Gz.bind_ok, Gz.bind_exc, Gz.st_ok, Gz.st_exc, Gz.toO_some, Gz.ofOpt_some, Gz.hold_fr, Gz.hold_own, Gz.Rv.cell, Gz.bind_one, Gz.then_nx, Gz.then_rt, Gz.then_ex, Gz.setE, Gz.Tg.bind, Gz.bindL, Gz.truthR, Gz.D.truth, x0, x2, x4, n, q]
    | false =>
      rw [hs] at x4
      simp [Gz.vSs_nil, Gz.vS_asg, Gz.vS_asgO, Gz.vS_asgT, Gz.vS_par, Gz.vS_app, Gz.vS_ext, Gz.vS_ret, Gz.vS_retO, Gz.vS_ifs, Gz.vS_for, Gz.vS_expr, Gz.vS_pass, Gz.vS_frz, Gz.vS_rais, Gz.vS_try, Gz.vE_var, Gz.vE_int, Gz.vE_bl, Gz.vE_non, Gz.vE_str, Gz.vE_glob, Gz.vE_fnv, Gz.vE_call, Gz.vE_bi, Gz.vE_gix, Gz.vE_bin, Gz.vE_cmp, Gz.vE_chain, Gz.vE_not, Gz.vE_and, Gz.vE_or, Gz.vE_ite, Gz.vE_tup, Gz.vE_lst, Gz.vE_idx, Gz.vE_slL, Gz.vE_slU, Gz.vE_isi, Gz.vE_isx, Gz.vE_calle, Gz.evEs, Gz.evXs, Gz.slotRv, Gz.bind_ok, Gz.bind_exc, Gz.st_ok, Gz.st_exc, Gz.toO_some, Gz.ofOpt_some, Gz.hold_fr, Gz.hold_own, Gz.Rv.cell, Gz.bind_one, Gz.then_nx, Gz.then_rt, Gz.then_ex, Gz.setE, Gz.Tg.bind, Gz.bindL, Gz.truthR, Gz.D.truth, x0, x2, x4, n]
/-- what a node brings, as a sheet -/
def brSht (p : Pic) (a : Nd) : Sht := mkSht p.w p.h fun x y => a.brF x y
theorem brSht_ok (hp : p.ok d) {a : Nd} {e : Nat} (ha : a.wf e) : (brSht p a).ok a.wt := mk_ok hp.w0 hp.h0 hp.w1 hp.h1 fun x y _ _ => brF_ok ha x y
theorem p_sheet_of (H : HMe P) (hp : p.ok d) {a : Nd} {e : Nat} (ha : a.wf e) (hB : a.wt ≤ 150) (ht : a.isTone = false) : Run P (11 + 3 * e) "sheet_of" [picD p, ndD a] (.fr (shtD (brSht p a))) := by
  refine (Run.of (k := 10 + 3 * e) H.sheet_of rfl fun m' S hm => ?_).up (by omega)
  have f := p_spots_of H.fl H.places H.spots_of hp.w0 hp.w1 hp.h1 ha hB ht m' S (by omega)
  have x0 : idxEv (picD p) (.int 0) = some (.int p.w) := rfl
  have x1 : idxEv (picD p) (.int 1) = some (.int p.h) := rfl
  have bl : ∀ l : List D, Bi.ev .tuple [.lst l] = some (.fr (.tup l)) := fun _ => rfl
  unfold brSht
  rw [mkShtD]
  generalize ((List.range (p.w * p.h)).map fun i : Nat => spD (a.brF (((i % p.w : Nat)) : Int) (((i / p.w : Nat)) : Int))) = T at *
  generalize ndD a = A at *
  generalize picD p = PD at *
  unfold f_sheet_of entry
  rw [vSs_cons]
  simp [Gz.vSs_nil, Gz.vS_asg, Gz.vS_asgO, Gz.vS_asgT, Gz.vS_par, Gz.vS_app, Gz.vS_ext, Gz.vS_ret, Gz.vS_retO, Gz.vS_ifs, Gz.vS_for, Gz.vS_expr, Gz.vS_pass, Gz.vS_frz, Gz.vS_rais, Gz.vS_try, Gz.vE_var, Gz.vE_int, Gz.vE_bl, Gz.vE_non, Gz.vE_str, Gz.vE_glob, Gz.vE_fnv, Gz.vE_call, Gz.vE_bi, Gz.vE_gix, Gz.vE_bin, Gz.vE_cmp, Gz.vE_chain, Gz.vE_not, Gz.vE_and, Gz.vE_or, Gz.vE_ite, Gz.vE_tup, Gz.vE_lst, Gz.vE_idx, Gz.vE_slL, Gz.vE_slU, Gz.vE_isi, Gz.vE_isx, Gz.vE_calle, Gz.evEs, Gz.evXs, Gz.slotRv, Gz.bind_ok, Gz.bind_exc, Gz.st_ok, Gz.st_exc, Gz.toO_some, Gz.ofOpt_some, Gz.hold_fr, Gz.hold_own, Gz.Rv.cell, Gz.bind_one, Gz.then_nx, Gz.then_rt, Gz.then_ex, Gz.setE, Gz.Tg.bind, Gz.bindL, Gz.truthR, Gz.D.truth, x0, x1, f, bl]
/-- the layer that two nodes become -/
def oneN (p : Pic) (b c : Nd) : Nd := .layer b.nm c.mn 1 true 0 0 none (blSht c.mn (brSht p c) (brSht p b)) (c.wt + b.wt)
theorem oneD (p : Pic) (b c : Nd) : ndD (oneN p b c) = .tup [.str "layer", .str b.nm, .str c.mn.s, shD 1, .bl true, .int 0, .int 0, .non, shtD (blSht c.mn (brSht p c) (brSht p b))] := by
  unfold oneN
  rw [ndD]
  rfl
theorem nds_at (pre : List Nd) (c : Nd) (post : List Nd) : idxEv (.tup (ndsD (pre ++ c :: post))) (.int (pre.length : Int)) = some (ndD c) := by
  rw [idx_tup, atD_nat, ndsD_app, List.getElem?_append_right (by rw [ndsD_len]; omega), ndsD_len, Nat.sub_self, ndsD]
  rfl
theorem nds_cutL (pre post : List Nd) : slEv (.tup (ndsD (pre ++ post))) none (some (.int (pre.length : Int))) = some (.fr (.tup (ndsD pre))) := by
  rw [sl_tU, cut_hi, ndsD_app, List.take_left' (ndsD_len pre)]
theorem nds_cutR (pre post : List Nd) : slEv (.tup (ndsD (pre ++ post))) (some (.int (pre.length : Int))) none = some (.fr (.tup (ndsD post))) := by
  rw [sl_tL, cut_lo, ndsD_app, List.drop_left' (ndsD_len pre)]
theorem nds_add (a b : List Nd) (h : a.length + b.length ≤ 1000) : Op2.ev .add (.tup (ndsD a)) (.tup (ndsD b)) = some (.fr (.tup (ndsD (a ++ b)))) := by
  show (if (ndsD a).length + (ndsD b).length ≤ lim then some (Rv.fr (.tup (ndsD a ++ ndsD b))) else none) = _
  rw [if_pos (by rw [ndsD_len, ndsD_len, limE]; omega), ndsD_app]
theorem nds_one (a : Nd) : D.tup [ndD a] = .tup (ndsD [a]) := by rw [ndsD, ndsD]
theorem wf_mem {e : Nat} {l : List Nd} (h : Nd.wfs e l) {a : Nd} (ha : a ∈ l) : a.wf e := wfs_iff.mp h a ha
/-- whether a node is made one with the one below -/
def mergeB (pre : List Nd) (c : Nd) : Bool := match pre.getLast? with
  | none => false
  | some b => !c.isTone && (c.mn.joins && (c.sh && b.plB c.mn))
theorem p_merged_ok (H : HMe P) (hp : Pok d p) {b : Nd} (s : Spot p C (pre ++ [b]) c post) (hm : mergeB (pre ++ [b]) c = true) : Run P (13 + 3 * d) "merged" [picD p, .str c.nm] (.fr (picD ⟨p.w, p.h, C (pre ++ oneN p b c :: post)⟩)) := by
  obtain ⟨e, he, hw, hC⟩ := s.wfL hp
  have hB := s.wtL hp
  have mb : b ∈ (pre ++ [b]) ++ c :: post := by simp
  have mc : c ∈ (pre ++ [b]) ++ c :: post := by simp
  have wb := wts_mem mb
  have wc := wts_mem mc
  have wbc : b.wt + c.wt ≤ 150 := by
    have e2 : Nd.wts ((pre ++ [b]) ++ c :: post) = Nd.wts pre + b.wt + c.wt + Nd.wts post := by
      rw [wts_append, wts_append, Nd.wts, Nd.wts, Nd.wts]
      omega
    omega
  have len : (pre ++ [b]).length + (c :: post).length ≤ 150 := by
    have := len_wts ((pre ++ [b]) ++ c :: post)
    rw [List.length_append] at this
    omega
  have hm' : c.isTone = false ∧ c.mn.joins = true ∧ c.sh = true ∧ b.isTone = false ∧ b.sh = true ∧ b.mn = c.mn := by
    unfold mergeB Nd.plB at hm
    rw [List.getLast?_append] at hm
    simpa [Bool.and_eq_true] using hm
  obtain ⟨t1, t2, t3, t4, t5, t6⟩ := hm'
  have hwb := wf_mem hw mb
  have hwc := wf_mem hw mc
  refine (Run.of (k := 12 + 3 * d) H.merged rfl fun m' S hm' => ?_).up (by omega)
  have f1 := p_around H.wn hp s m' S (by omega)
  have f2 := p_is_plain H.is_plain c c.mn m' S (by omega)
  have f3 := p_is_plain H.is_plain b c.mn m' S (by omega)
  have f4 := p_sheet_of H hp.ok hwc (by omega) t1 m' S (by omega)
  have f5 := p_sheet_of H hp.ok hwb (by omega) t4 m' S (by omega)
  have f6 := r_blended_sheets H.fl.bl H.blended c.mn (brSht_ok hp.ok hwc) (brSht_ok hp.ok hwb).sp (by omega) m' S (by omega)
  have f7 := p_with_list H.wn hp s (pre ++ oneN p b c :: post) m' S (by omega)
  have q2 : c.plB c.mn = true := by unfold Nd.plB; rw [t1, t3]; simp
  have q3 : b.plB c.mn = true := by unfold Nd.plB; rw [t4, t5, t6]; simp
  rw [q2] at f2
  rw [q3] at f3
  have al := H.fl.bl.sp.all
  have i1 := nds_at (pre ++ [b]) c post
  have i2 : idxEv (.tup (ndsD ((pre ++ [b]) ++ c :: post))) (.int ((((pre ++ [b]).length : Nat) : Int) - 1)) = some (ndD b) := by
    have := nds_at pre b (c :: post)
    rw [List.append_assoc, show ((((pre ++ [b]).length : Nat) : Int) - 1) = (pre.length : Int) by simp]
    exact this
  have c1 : slEv (.tup (ndsD ((pre ++ [b]) ++ c :: post))) none (some (.int ((((pre ++ [b]).length : Nat) : Int) - 1))) = some (.fr (.tup (ndsD pre))) := by
    have := nds_cutL pre (b :: c :: post)
    rw [List.append_assoc, show ((((pre ++ [b]).length : Nat) : Int) - 1) = (pre.length : Int) by simp]
    exact this
  have c2 : slEv (.tup (ndsD ((pre ++ [b]) ++ c :: post))) (some (.int ((((pre ++ [b]).length : Nat) : Int) + 1))) none = some (.fr (.tup (ndsD post))) := by
    have := nds_cutR (pre ++ [b] ++ [c]) post
    rw [show (pre ++ [b]) ++ c :: post = (pre ++ [b] ++ [c]) ++ post by simp, show ((((pre ++ [b]).length : Nat) : Int) + 1) = ((pre ++ [b] ++ [c]).length : Int) by simp; omega]
    exact this
  have n1 := nd1 b
  have n2 := nd2 c
  rw [w2_mn t1] at n2
  have ni := w2_notin c
  rw [w2_mn t1, t1, t2] at ni
  have z : Cm.ev .eq (.int (((pre ++ [b]).length : Nat) : Int)) (.int 0) = some false := by
    rw [ceq2, eqO_int, decide_eq_false (by rw [List.length_append, List.length_singleton]; omega)]
  rw [List.length_append] at len
  have a1 := nds_add pre [oneN p b c] (by simp at len ⊢; omega)
  have a2 := nds_add (pre ++ [oneN p b c]) post (by simp at len ⊢; omega)
  rw [show pre ++ [oneN p b c] ++ post = pre ++ oneN p b c :: post by simp] at a2
  have o1 : D.tup [ndD (oneN p b c)] = .tup (ndsD [oneN p b c]) := nds_one _
  rw [← o1] at a1
  rw [oneD] at a1
  have sb : Op2.ev .sub (.int (((pre ++ [b]).length : Nat) : Int)) (.int 1) = some (.fr (.int ((((pre ++ [b]).length : Nat) : Int) - 1))) := rfl
  have ad : Op2.ev .add (.int (((pre ++ [b]).length : Nat) : Int)) (.int 1) = some (.fr (.int ((((pre ++ [b]).length : Nat) : Int) + 1))) := rfl
  have jo := H.joining
  generalize picD ⟨p.w, p.h, C (pre ++ oneN p b c :: post)⟩ = RES at *
  generalize ndsD (pre ++ oneN p b c :: post) = L3 at *
  generalize ndsD (pre ++ [oneN p b c]) = L2 at *
  generalize ndsD pre = L1 at *
  generalize ndsD post = L4 at *
  generalize shtD (blSht c.mn (brSht p c) (brSht p b)) = SH at *
  generalize shtD (brSht p c) = SC at *
  generalize shtD (brSht p b) = SB at *
  generalize ndsD ((pre ++ [b]) ++ c :: post) = L0 at *
  generalize ndD b = B at *
  generalize ndD c = CC at *
  generalize picD p = A at *
  generalize ((((pre ++ [b]).length : Nat) : Int)) = K at *
  unfold f_merged entry
  rw [vSs_cons]
  simp [Gz.vSs_nil, Gz.vS_asg, Gz.vS_asgO, Gz.vS_asgT, Gz.vS_par, Gz.vS_app, Gz.vS_ext, Gz.vS_ret, Gz.vS_retO, Gz.vS_ifs, Gz.vS_for, Gz.vS_expr, Gz.vS_pass, Gz.vS_frz, Gz.vS_rais, Gz.vS_try, Gz.vE_var, Gz.vE_int, Gz.vE_bl, Gz.vE_non, Gz.vE_str, Gz.vE_glob, Gz.vE_fnv, Gz.vE_call, Gz.vE_bi, Gz.vE_gix, Gz.vE_bin, Gz.vE_cmp, Gz.vE_chain, Gz.vE_not, Gz.vE_and, Gz.vE_or, Gz.vE_ite, Gz.vE_tup, Gz.vE_lst, Gz.vE_idx, Gz.vE_slL, Gz.vE_slU, Gz.vE_isi, Gz.vE_isx, Gz.vE_calle, Gz.evEs, Gz.evXs, Gz.slotRv, Gz.bind_ok, Gz.bind_exc, Gz.st_ok, Gz.st_exc, Gz.toO_some, Gz.ofOpt_some, Gz.hold_fr, Gz.hold_own, Gz.Rv.cell, Gz.bind_one, Gz.then_nx, Gz.then_rt, Gz.then_ex, Gz.setE, Gz.Tg.bind, Gz.bindL, Gz.truthR, Gz.D.truth, bind_two, f1]
  rw [vSs_cons]
  simp [Gz.vSs_nil, Gz.vS_asg, Gz.vS_asgO, Gz.vS_asgT, Gz.vS_par, Gz.vS_app, Gz.vS_ext, Gz.vS_ret, Gz.vS_retO, Gz.vS_ifs, Gz.vS_for, Gz.vS_expr, Gz.vS_pass, Gz.vS_frz, Gz.vS_rais, Gz.vS_try, Gz.vE_var, Gz.vE_int, Gz.vE_bl, Gz.vE_non, Gz.vE_str, Gz.vE_glob, Gz.vE_fnv, Gz.vE_call, Gz.vE_bi, Gz.vE_gix, Gz.vE_bin, Gz.vE_cmp, Gz.vE_chain, Gz.vE_not, Gz.vE_and, Gz.vE_or, Gz.vE_ite, Gz.vE_tup, Gz.vE_lst, Gz.vE_idx, Gz.vE_slL, Gz.vE_slU, Gz.vE_isi, Gz.vE_isx, Gz.vE_calle, Gz.evEs, Gz.evXs, Gz.slotRv, Gz.bind_ok, Gz.bind_exc, Gz.st_ok, Gz.st_exc, Gz.toO_some, Gz.ofOpt_some, Gz.hold_fr, Gz.hold_own, Gz.Rv.cell, Gz.bind_one, Gz.then_nx, Gz.then_rt, Gz.then_ex, Gz.setE, Gz.Tg.bind, Gz.bindL, Gz.truthR, Gz.D.truth, i1, n2]
  rw [vSs_cons]
  simp [Gz.vSs_nil, Gz.vS_asg, Gz.vS_asgO, Gz.vS_asgT, Gz.vS_par, Gz.vS_app, Gz.vS_ext, Gz.vS_ret, Gz.vS_retO, Gz.vS_ifs, Gz.vS_for, Gz.vS_expr, Gz.vS_pass, Gz.vS_frz, Gz.vS_rais, Gz.vS_try, Gz.vE_var, Gz.vE_int, Gz.vE_bl, Gz.vE_non, Gz.vE_str, Gz.vE_glob, Gz.vE_fnv, Gz.vE_call, Gz.vE_bi, Gz.vE_gix, Gz.vE_bin, Gz.vE_cmp, Gz.vE_chain, Gz.vE_not, Gz.vE_and, Gz.vE_or, Gz.vE_ite, Gz.vE_tup, Gz.vE_lst, Gz.vE_idx, Gz.vE_slL, Gz.vE_slU, Gz.vE_isi, Gz.vE_isx, Gz.vE_calle, Gz.evEs, Gz.evXs, Gz.slotRv, Gz.bind_ok, Gz.bind_exc, Gz.st_ok, Gz.st_exc, Gz.toO_some, Gz.ofOpt_some, Gz.hold_fr, Gz.hold_own, Gz.Rv.cell, Gz.bind_one, Gz.then_nx, Gz.then_rt, Gz.then_ex, Gz.setE, Gz.Tg.bind, Gz.bindL, Gz.truthR, Gz.D.truth, z, jo, ni, i1, f2, sb, i2, f3]
  rw [vSs_cons]
  simp [Gz.vSs_nil, Gz.vS_asg, Gz.vS_asgO, Gz.vS_asgT, Gz.vS_par, Gz.vS_app, Gz.vS_ext, Gz.vS_ret, Gz.vS_retO, Gz.vS_ifs, Gz.vS_for, Gz.vS_expr, Gz.vS_pass, Gz.vS_frz, Gz.vS_rais, Gz.vS_try, Gz.vE_var, Gz.vE_int, Gz.vE_bl, Gz.vE_non, Gz.vE_str, Gz.vE_glob, Gz.vE_fnv, Gz.vE_call, Gz.vE_bi, Gz.vE_gix, Gz.vE_bin, Gz.vE_cmp, Gz.vE_chain, Gz.vE_not, Gz.vE_and, Gz.vE_or, Gz.vE_ite, Gz.vE_tup, Gz.vE_lst, Gz.vE_idx, Gz.vE_slL, Gz.vE_slU, Gz.vE_isi, Gz.vE_isx, Gz.vE_calle, Gz.evEs, Gz.evXs, Gz.slotRv, Gz.bind_ok, Gz.bind_exc, Gz.st_ok, Gz.st_exc, Gz.toO_some, Gz.ofOpt_some, Gz.hold_fr, Gz.hold_own, Gz.Rv.cell, Gz.bind_one, Gz.then_nx, Gz.then_rt, Gz.then_ex, Gz.setE, Gz.Tg.bind, Gz.bindL, Gz.truthR, Gz.D.truth, i1, f4, sb, i2, f5, f6]
  rw [vSs_cons]
  simp [Gz.vSs_nil, Gz.vS_asg, Gz.vS_asgO, Gz.vS_asgT, Gz.vS_par, Gz.vS_app, Gz.vS_ext, Gz.vS_ret, Gz.vS_retO, Gz.vS_ifs, Gz.vS_for, Gz.vS_expr, Gz.vS_pass, Gz.vS_frz, Gz.vS_rais, Gz.vS_try, Gz.vE_var, Gz.vE_int, Gz.vE_bl, Gz.vE_non, Gz.vE_str, Gz.vE_glob, Gz.vE_fnv, Gz.vE_call, Gz.vE_bi, Gz.vE_gix, Gz.vE_bin, Gz.vE_cmp, Gz.vE_chain, Gz.vE_not, Gz.vE_and, Gz.vE_or, Gz.vE_ite, Gz.vE_tup, Gz.vE_lst, Gz.vE_idx, Gz.vE_slL, Gz.vE_slU, Gz.vE_isi, Gz.vE_isx, Gz.vE_calle, Gz.evEs, Gz.evXs, Gz.slotRv, Gz.bind_ok, Gz.bind_exc, Gz.st_ok, Gz.st_exc, Gz.toO_some, Gz.ofOpt_some, Gz.hold_fr, Gz.hold_own, Gz.Rv.cell, Gz.bind_one, Gz.then_nx, Gz.then_rt, Gz.then_ex, Gz.setE, Gz.Tg.bind, Gz.bindL, Gz.truthR, Gz.D.truth, sb, i2, n1, al]
  rw [vSs_cons]
  simp [Gz.vSs_nil, Gz.vS_asg, Gz.vS_asgO, Gz.vS_asgT, Gz.vS_par, Gz.vS_app, Gz.vS_ext, Gz.vS_ret, Gz.vS_retO, Gz.vS_ifs, Gz.vS_for, Gz.vS_expr, Gz.vS_pass, Gz.vS_frz, Gz.vS_rais, Gz.vS_try, Gz.vE_var, Gz.vE_int, Gz.vE_bl, Gz.vE_non, Gz.vE_str, Gz.vE_glob, Gz.vE_fnv, Gz.vE_call, Gz.vE_bi, Gz.vE_gix, Gz.vE_bin, Gz.vE_cmp, Gz.vE_chain, Gz.vE_not, Gz.vE_and, Gz.vE_or, Gz.vE_ite, Gz.vE_tup, Gz.vE_lst, Gz.vE_idx, Gz.vE_slL, Gz.vE_slU, Gz.vE_isi, Gz.vE_isx, Gz.vE_calle, Gz.evEs, Gz.evXs, Gz.slotRv, Gz.bind_ok, Gz.bind_exc, Gz.st_ok, Gz.st_exc, Gz.toO_some, Gz.ofOpt_some, Gz.hold_fr, Gz.hold_own, Gz.Rv.cell, Gz.bind_one, Gz.then_nx, Gz.then_rt, Gz.then_ex, Gz.setE, Gz.Tg.bind, Gz.bindL, Gz.truthR, Gz.D.truth, sb, ad, c1, c2, a1, a2, f7]
end
end GzL
end -- HdB
section -- HdC
set_option maxHeartbeats 8000000
/-! HdC: groups opened, nodes that change places: the program. -/
namespace GzL
open PySem PySem.Spec PyProof.Rows L2 Gz
def openB (c : Nd) : Bool := c.isGr && (c.sh && (decide (c.st = 1) && (c.mn.joins && c.kids.all fun a => !a.sh || a.plB c.mn)))
def swapB (c : Nd) : List Nd → Bool
  | [] => false
  | u :: _ => !(c.sh && u.sh) || (!c.isTone && (c.mn.both && u.plB c.mn))
theorem gr_nt {c : Nd} (h : c.isGr = true) : c.isTone = false := by cases c <;> first | rfl | cases h
theorem ne_all (q : Rat) : Cm.ev .ne (shD q) (shD 1) = some (!decide (q = 1)) := by rw [cne', eqO_sh]; rfl
section
variable {P : Prog} {p : Pic} {C : List Nd → List Nd} {pre post : List Nd} {c : Nd} {d : Nat}
theorem kids_lc (H : HMe P) {m' : Nat} (hm : 1 ≤ m') {S : Store} {c : Nd} (ht : c.isTone = false) (hk : c.kids.length ≤ 1000) (hg : c.isGr = true) (c0 c1 c3 c4 c5 : Cell) :
    evE (den P m') P (.lc [("one", 5)] (.one 5) .seq (.cons (.idx (.var 2) (.int 5)) .nil) (.cons (.idx (.var 5) (.int 4)) .nil) (.call "is_plain" (.cons (.var 5) (.cons (.idx (.var 2) (.int 2)) .nil)))) [c0, c1, .fr (ndD c), c3, c4, c5] S = .ok ⟨.lst (c.kids.filterMap fun a => if a.sh then some (.bl (a.plB c.mn)) else none), .own⟩ S := by
  have x5 := nd5 hg
  have n2 := nd2 c
  rw [w2_mn ht] at n2
  rw [lc_ofM (xs := [.tup (ndsD c.kids)]) (as := c.kids) (e := ndD) (g := fun a => if a.sh then some (.bl (a.plB c.mn)) else none)]
  · simp [Gz.vSs_nil, Gz.vS_asg, Gz.vS_asgO, Gz.vS_asgT, Gz.vS_par, Gz.vS_app, Gz.vS_ext, Gz.vS_ret, Gz.vS_retO, Gz.vS_ifs, Gz.vS_for, Gz.vS_expr, Gz.vS_pass, Gz.vS_frz, Gz.vS_rais, Gz.vS_try, Gz.vE_var, Gz.vE_int, Gz.vE_bl, Gz.vE_non, Gz.vE_str, Gz.vE_glob, Gz.vE_fnv, Gz.vE_call, Gz.vE_bi, Gz.vE_gix, Gz.vE_bin, Gz.vE_cmp, Gz.vE_chain, Gz.vE_not, Gz.vE_and, Gz.vE_or, Gz.vE_ite, Gz.vE_tup, Gz.vE_lst, Gz.vE_idx, Gz.vE_slL, Gz.vE_slU, Gz.vE_isi, Gz.vE_isx, Gz.vE_calle, Gz.evEs, Gz.evXs, Gz.slotRv, Gz.bind_ok, Gz.bind_exc, Gz.st_ok, Gz.st_exc, Gz.toO_some, Gz.ofOpt_some, Gz.hold_fr, Gz.hold_own, Gz.Rv.cell, Gz.bind_one, Gz.then_nx, Gz.then_rt, Gz.then_ex, Gz.setE, Gz.Tg.bind, Gz.bindL, Gz.truthR, Gz.D.truth, x5]
  · rw [ndsD_map]; rfl
  · rw [limE]; omega
  · intro a _
    have x4 := nd4 a
    have f := p_is_plain H.is_plain a c.mn m' S (by omega)
    unfold lcF
    generalize ndD c = CC at *
    generalize ndD a = A at *
    cases hs : a.sh with
    | true =>
      rw [hs] at x4
      simp [Gz.evSs, Gz.evS, Gz.evE, Gz.evEs, Gz.evXs, Gz.evT, Gz.slotRv, Gz.Out.bind, Gz.Out.st, Gz.Out.toO, Gz.Out.calm, Gz.ofOpt, Gz.Op2.ev, Gz.Cm.ev, Gz.Rv.hold, Gz.Rv.cell, Gz.SO.then_, Gz.setE, Gz.itEv, Gz.lcLoop, Gz.forLoop, Gz.Tg.bind, Gz.bindL, Gz.wipeE, Gz.Bi.ev, Gz.idx_tup, Gz.idx_lst, Gz.idx_scr, Gz.sl_tL, Gz.sl_tU, Gz.sl_tB, Gz.sl_lL, Gz.sl_lU, Gz.sl_lB, Gz.D.toInt, Gz.truthR, Gz.D.truth, Gz.lim, Gz.atD_0, Gz.atD_1, Gz.atD_2, Gz.atD_3, Gz.atD_4, Gz.atD_5, Gz.atD_6, Gz.atD_7, Gz.atD_8, Gz.cut_lo1, Gz.cut_hi1, Gz.cut_hi2, Gz.cut_hi4, Gz.cut_hi5, Gz.gixEv, x4, n2, f]
    | false =>
      rw [hs] at x4
      simp [Gz.evSs, Gz.evS, Gz.evE, Gz.evEs, Gz.evXs, Gz.evT, Gz.slotRv, Gz.Out.bind, Gz.Out.st, Gz.Out.toO, Gz.Out.calm, Gz.ofOpt, Gz.Op2.ev, Gz.Cm.ev, Gz.Rv.hold, Gz.Rv.cell, Gz.SO.then_, Gz.setE, Gz.itEv, Gz.lcLoop, Gz.forLoop, Gz.Tg.bind, Gz.bindL, Gz.wipeE, Gz.Bi.ev, Gz.idx_tup, Gz.idx_lst, Gz.idx_scr, Gz.sl_tL, Gz.sl_tU, Gz.sl_tB, Gz.sl_lL, Gz.sl_lU, Gz.sl_lB, Gz.D.toInt, Gz.truthR, Gz.D.truth, Gz.lim, Gz.atD_0, Gz.atD_1, Gz.atD_2, Gz.atD_3, Gz.atD_4, Gz.atD_5, Gz.atD_6, Gz.atD_7, Gz.atD_8, Gz.cut_lo1, Gz.cut_hi1, Gz.cut_hi2, Gz.cut_hi4, Gz.cut_hi5, Gz.gixEv, x4]
theorem kids_all (c : Nd) : (bools (c.kids.filterMap fun a => if a.sh then some (D.bl (a.plB c.mn)) else none)).map (fun bs => Rv.fr (.bl (bs.all id))) = some (.fr (.bl (c.kids.all fun a => !a.sh || a.plB c.mn))) := by
  have : ∀ l : List Nd, ∃ bs, bools (l.filterMap fun a => if a.sh then some (D.bl (a.plB c.mn)) else none) = some bs ∧ bs.all id = l.all fun a => !a.sh || a.plB c.mn := by
    intro l
    induction l with
    | nil => exact ⟨[], rfl, rfl⟩
    | cons a l ih =>
      obtain ⟨bs, h1, h2⟩ := ih
      cases hs : a.sh with
      | false => exact ⟨bs, by simp [hs, h1], by simp [hs, h2]⟩
      | true => exact ⟨a.plB c.mn :: bs, by simp [hs, bools, h1], by simp [hs, h2]⟩
  obtain ⟨bs, h1, h2⟩ := this c.kids
  rw [h1, Option.map_some, h2]
theorem p_opened_ok (H : HMe P) (hp : Pok d p) (s : Spot p C pre c post) (ho : openB c = true) : Run P (13 + 3 * d) "opened" [picD p, .str c.nm] (.fr (picD ⟨p.w, p.h, C (pre ++ (c.kids ++ post))⟩)) := by
  obtain ⟨e, he, hw, hC⟩ := s.wfL hp
  have hB := s.wtL hp
  have mc : c ∈ pre ++ c :: post := by simp
  have wc := wts_mem mc
  unfold openB at ho
  simp only [Bool.and_eq_true, decide_eq_true_eq] at ho
  obtain ⟨g1, g2, g3, g4, g5⟩ := ho
  have t1 := gr_nt g1
  obtain ⟨e2, _, _, wk⟩ := kids_wf g1 (wf_mem hw mc)
  have lk := len_wts c.kids
  have ll := len_wts (pre ++ c :: post)
  rw [List.length_append, List.length_cons] at ll
  refine (Run.of (k := 12 + 3 * d) H.opened rfl fun m' S hm' => ?_).up (by omega)
  have f1 := p_around H.wn hp s m' S (by omega)
  have f7 := p_with_list H.wn hp s (pre ++ (c.kids ++ post)) m' S (by omega)
  have kl := kids_lc H (m' := m') (by omega) (S := S) t1 (by omega) g1
  have ka := kids_all c
  rw [g5] at ka
  have al := H.fl.bl.sp.all
  have i1 := nds_at pre c post
  have x0 := nd0 c
  have x2 := nd2 c
  have x3 := nd3 c
  have x4 := nd4 c
  have x5 := nd5 g1
  rw [g2] at x4
  have ng := ne_group c
  rw [g1] at ng
  have ni := w2_notin c
  rw [t1, g4] at ni
  have na := ne_all c.st
  rw [decide_eq_true g3] at na
  have c1 := nds_cutL pre (c :: post)
  have c2 : slEv (.tup (ndsD (pre ++ c :: post))) (some (.int ((pre.length : Int) + 1))) none = some (.fr (.tup (ndsD post))) := by
    have := nds_cutR (pre ++ [c]) post
    rw [show pre ++ c :: post = (pre ++ [c]) ++ post by simp, show ((pre.length : Int) + 1) = ((pre ++ [c]).length : Int) by simp]
    exact this
  have a1 := nds_add pre c.kids (by omega)
  have a2 := nds_add (pre ++ c.kids) post (by rw [List.length_append]; omega)
  rw [List.append_assoc] at a2
  have ad : Op2.ev .add (.int (pre.length : Int)) (.int 1) = some (.fr (.int ((pre.length : Int) + 1))) := rfl
  have jo := H.joining
  generalize picD ⟨p.w, p.h, C (pre ++ (c.kids ++ post))⟩ = RES at *
  generalize ndsD (pre ++ (c.kids ++ post)) = L3 at *
  generalize ndsD (pre ++ c.kids) = L2 at *
  generalize ndsD pre = L1 at *
  generalize ndsD post = L4 at *
  generalize ndsD c.kids = L5 at *
  generalize ndsD (pre ++ c :: post) = L0 at *
  generalize (c.kids.filterMap fun a => if a.sh then some (D.bl (a.plB c.mn)) else none) = KL at *
  have ka : Bi.ev .all [.lst KL] = some (.fr (.bl true)) := ka
  generalize shD c.st = SC at *
  generalize ndD c = CC at *
  generalize picD p = A at *
  generalize (pre.length : Int) = K at *
  unfold f_opened entry
  rw [vSs_cons]
  simp [Gz.vSs_nil, Gz.vS_asg, Gz.vS_asgO, Gz.vS_asgT, Gz.vS_par, Gz.vS_app, Gz.vS_ext, Gz.vS_ret, Gz.vS_retO, Gz.vS_ifs, Gz.vS_for, Gz.vS_expr, Gz.vS_pass, Gz.vS_frz, Gz.vS_rais, Gz.vS_try, Gz.vE_var, Gz.vE_int, Gz.vE_bl, Gz.vE_non, Gz.vE_str, Gz.vE_glob, Gz.vE_fnv, Gz.vE_call, Gz.vE_bi, Gz.vE_gix, Gz.vE_bin, Gz.vE_cmp, Gz.vE_chain, Gz.vE_not, Gz.vE_and, Gz.vE_or, Gz.vE_ite, Gz.vE_tup, Gz.vE_lst, Gz.vE_idx, Gz.vE_slL, Gz.vE_slU, Gz.vE_isi, Gz.vE_isx, Gz.vE_calle, Gz.evEs, Gz.evXs, Gz.slotRv, Gz.bind_ok, Gz.bind_exc, Gz.st_ok, Gz.st_exc, Gz.toO_some, Gz.ofOpt_some, Gz.hold_fr, Gz.hold_own, Gz.Rv.cell, Gz.bind_one, Gz.then_nx, Gz.then_rt, Gz.then_ex, Gz.setE, Gz.Tg.bind, Gz.bindL, Gz.truthR, Gz.D.truth, bind_two, f1]
  rw [vSs_cons]
  simp [Gz.vSs_nil, Gz.vS_asg, Gz.vS_asgO, Gz.vS_asgT, Gz.vS_par, Gz.vS_app, Gz.vS_ext, Gz.vS_ret, Gz.vS_retO, Gz.vS_ifs, Gz.vS_for, Gz.vS_expr, Gz.vS_pass, Gz.vS_frz, Gz.vS_rais, Gz.vS_try, Gz.vE_var, Gz.vE_int, Gz.vE_bl, Gz.vE_non, Gz.vE_str, Gz.vE_glob, Gz.vE_fnv, Gz.vE_call, Gz.vE_bi, Gz.vE_gix, Gz.vE_bin, Gz.vE_cmp, Gz.vE_chain, Gz.vE_not, Gz.vE_and, Gz.vE_or, Gz.vE_ite, Gz.vE_tup, Gz.vE_lst, Gz.vE_idx, Gz.vE_slL, Gz.vE_slU, Gz.vE_isi, Gz.vE_isx, Gz.vE_calle, Gz.evEs, Gz.evXs, Gz.slotRv, Gz.bind_ok, Gz.bind_exc, Gz.st_ok, Gz.st_exc, Gz.toO_some, Gz.ofOpt_some, Gz.hold_fr, Gz.hold_own, Gz.Rv.cell, Gz.bind_one, Gz.then_nx, Gz.then_rt, Gz.then_ex, Gz.setE, Gz.Tg.bind, Gz.bindL, Gz.truthR, Gz.D.truth, i1]
  rw [vSs_cons]
  simp [Gz.vSs_nil, Gz.vS_asg, Gz.vS_asgO, Gz.vS_asgT, Gz.vS_par, Gz.vS_app, Gz.vS_ext, Gz.vS_ret, Gz.vS_retO, Gz.vS_ifs, Gz.vS_for, Gz.vS_expr, Gz.vS_pass, Gz.vS_frz, Gz.vS_rais, Gz.vS_try, Gz.vE_var, Gz.vE_int, Gz.vE_bl, Gz.vE_non, Gz.vE_str, Gz.vE_glob, Gz.vE_fnv, Gz.vE_call, Gz.vE_bi, Gz.vE_gix, Gz.vE_bin, Gz.vE_cmp, Gz.vE_chain, Gz.vE_not, Gz.vE_and, Gz.vE_or, Gz.vE_ite, Gz.vE_tup, Gz.vE_lst, Gz.vE_idx, Gz.vE_slL, Gz.vE_slU, Gz.vE_isi, Gz.vE_isx, Gz.vE_calle, Gz.evEs, Gz.evXs, Gz.slotRv, Gz.bind_ok, Gz.bind_exc, Gz.st_ok, Gz.st_exc, Gz.toO_some, Gz.ofOpt_some, Gz.hold_fr, Gz.hold_own, Gz.Rv.cell, Gz.bind_one, Gz.then_nx, Gz.then_rt, Gz.then_ex, Gz.setE, Gz.Tg.bind, Gz.bindL, Gz.truthR, Gz.D.truth, x0, x2, x3, x4, ng, al, na, jo, ni]
  rw [vSs_cons]
  simp [Gz.vSs_nil, Gz.vS_asg, Gz.vS_asgO, Gz.vS_asgT, Gz.vS_par, Gz.vS_app, Gz.vS_ext, Gz.vS_ret, Gz.vS_retO, Gz.vS_ifs, Gz.vS_for, Gz.vS_expr, Gz.vS_pass, Gz.vS_frz, Gz.vS_rais, Gz.vS_try, Gz.vE_var, Gz.vE_int, Gz.vE_bl, Gz.vE_non, Gz.vE_str, Gz.vE_glob, Gz.vE_fnv, Gz.vE_call, Gz.vE_bi, Gz.vE_gix, Gz.vE_bin, Gz.vE_cmp, Gz.vE_chain, Gz.vE_not, Gz.vE_and, Gz.vE_or, Gz.vE_ite, Gz.vE_tup, Gz.vE_lst, Gz.vE_idx, Gz.vE_slL, Gz.vE_slU, Gz.vE_isi, Gz.vE_isx, Gz.vE_calle, Gz.evEs, Gz.evXs, Gz.slotRv, Gz.bind_ok, Gz.bind_exc, Gz.st_ok, Gz.st_exc, Gz.toO_some, Gz.ofOpt_some, Gz.hold_fr, Gz.hold_own, Gz.Rv.cell, Gz.bind_one, Gz.then_nx, Gz.then_rt, Gz.then_ex, Gz.setE, Gz.Tg.bind, Gz.bindL, Gz.truthR, Gz.D.truth, kl, ka]
  rw [vSs_cons]
  simp [Gz.vSs_nil, Gz.vS_asg, Gz.vS_asgO, Gz.vS_asgT, Gz.vS_par, Gz.vS_app, Gz.vS_ext, Gz.vS_ret, Gz.vS_retO, Gz.vS_ifs, Gz.vS_for, Gz.vS_expr, Gz.vS_pass, Gz.vS_frz, Gz.vS_rais, Gz.vS_try, Gz.vE_var, Gz.vE_int, Gz.vE_bl, Gz.vE_non, Gz.vE_str, Gz.vE_glob, Gz.vE_fnv, Gz.vE_call, Gz.vE_bi, Gz.vE_gix, Gz.vE_bin, Gz.vE_cmp, Gz.vE_chain, Gz.vE_not, Gz.vE_and, Gz.vE_or, Gz.vE_ite, Gz.vE_tup, Gz.vE_lst, Gz.vE_idx, Gz.vE_slL, Gz.vE_slU, Gz.vE_isi, Gz.vE_isx, Gz.vE_calle, Gz.evEs, Gz.evXs, Gz.slotRv, Gz.bind_ok, Gz.bind_exc, Gz.st_ok, Gz.st_exc, Gz.toO_some, Gz.ofOpt_some, Gz.hold_fr, Gz.hold_own, Gz.Rv.cell, Gz.bind_one, Gz.then_nx, Gz.then_rt, Gz.then_ex, Gz.setE, Gz.Tg.bind, Gz.bindL, Gz.truthR, Gz.D.truth, ad, c1, c2, x5, a1, a2, f7]
end
end GzL
end -- HdC
section -- HdD
set_option maxHeartbeats 8000000
/-! HdD: nodes made one, groups opened, nodes that change places: the law. -/
namespace GzL
open PySem PySem.Spec PyProof.Rows L2 Gz
structure HLm (P : Prog) : Prop where
  lf : HLf P
  all : P.defs.lookup ("_law_all" : Str) = some f__law_all
  with_ : P.defs.lookup ("_law_with" : Str) = some f__law_with
  beside : P.defs.lookup ("_law_beside" : Str) = some f__law_beside
  is_plain : P.defs.lookup ("_law_is_plain" : Str) = some f__law_is_plain
  merged : P.defs.lookup ("_law_merged" : Str) = some f__law_merged
  opened : P.defs.lookup ("_law_opened" : Str) = some f__law_opened
  swapped : P.defs.lookup ("_law_swapped" : Str) = some f__law_swapped
section
variable {P : Prog}
end
end GzL
end -- HdD
section -- HdE
set_option maxHeartbeats 8000000
/-! HdE: nodes made one, groups opened, nodes that change places: the law's own. -/
namespace GzL
open PySem PySem.Spec PyProof.Rows L2 Gz
theorem rng_nat {n : Nat} (h : n ≤ 5000) {i : Int} (e : i = (n : Int)) : itEv .rng [.int i] = some ((List.range n).map fun i => D.int ((i : Nat) : Int)) := by rw [e]; exact it_rng h
section
variable {P : Prog} {p : Pic} {C : List Nd → List Nd} {pre post : List Nd} {c : Nd} {d : Nat}
theorem bl_mk (m : Mn) (a b : Nd) : blSht m (brSht p a) (brSht p b) = mkSht p.w p.h fun x y => blF m (a.brF x y) (b.brF x y) := by
  unfold blSht brSht mkSht
  simp only [List.zip_map', List.map_map]
  rfl
end
end GzL
end -- HdE
section -- Lw_k50
set_option maxHeartbeats 8000000
/-! k50: what the law answers. -/
namespace GzL
open PySem PySem.Spec PyProof.Rows L2 Gz
structure HK50 (P : Prog) : Prop where
  no : HNo P
  sw : HSw P
  lm : HLm P
  names : P.defs.lookup ("_law_names" : Str) = some f__law_names
  picture : P.defs.lookup ("_law_picture" : Str) = some f__law_picture
  refused : P.defs.lookup ("_law_refused" : Str) = some f__law_refused_k50
  told : P.defs.lookup ("_law_told" : Str) = some f__law_told_k50
  law : P.defs.lookup ("law" : Str) = some f_law_k50
  x0 : P.excs.contains ("NoName" : Str) = true
  x1 : P.excs.contains ("NoMerge" : Str) = true
  x2 : P.excs.contains ("NoOpen" : Str) = true
  x3 : P.excs.contains ("NoSwap" : Str) = true
section
variable {P : Prog} (H : HK50 P)
include H
end
end GzL
end -- Lw_k50
section -- HdF
set_option maxHeartbeats 8000000
/-! HdF: nodes made one, groups opened, nodes that change places: the same is shown. -/
namespace GzL
open PySem PySem.Spec PyProof.Rows L2 Gz
theorem wt_one (s : Sp) : wtF s 1 = s := by
  obtain ⟨c, r, g, b⟩ := s
  simp only [wtF, Sp.mk.injEq]
  refine ⟨?_, ?_, ?_, ?_⟩ <;> grind
theorem pl_on {m : Mn} {a : Nd} (h : a.plB m = true) (x y : Int) (s : Sp) : a.onF x y s = blF m (a.brF x y) s := by
  unfold Nd.plB at h
  simp only [Bool.and_eq_true, Bool.not_eq_true', decide_eq_true_eq] at h
  rw [onF_br h.1, if_pos h.2.1, h.2.2]
theorem off_on {a : Nd} (h : a.sh = false) (x y : Int) (s : Sp) : a.onF x y s = s := by
  cases a with
  | layer nm mn st sh l u mask t z => have h : sh = false := h; rw [Nd.onF, h]; rfl
  | tone nm ru st sh => have h : sh = false := h; rw [Nd.onF, h]; rfl
  | group nm mn st sh ns => have h : sh = false := h; rw [Nd.onF, h]; rfl
theorem pl_of {c : Nd} (h1 : c.isTone = false) (h2 : c.sh = true) : c.plB c.mn = true := by unfold Nd.plB; rw [h1, h2]; simp
theorem one_on {p : Pic} {b c : Nd} {d : Nat} (w0 : 0 < p.w) (h0 : 0 < p.h) (w1 : p.w ≤ 8) (h1 : p.h ≤ 8) (hb : b.wf d) (hc : c.wf d) {x y : Nat} (hx : x < p.w) (hy : y < p.h) (s : Sp) : (oneN p b c).onF x y s = blF c.mn (blF c.mn (c.brF x y) (b.brF x y)) s := by
  unfold oneN
  rw [Nd.onF, if_pos rfl, bl_mk, mk_at]
  rw [if_pos ⟨by omega, by omega, by omega, by omega⟩]
  have e : mskAt none (mkSht p.w p.h fun x y => blF c.mn (c.brF x y) (b.brF x y)) ((x : Int) - 0) ((y : Int) - 0) = 1 := rfl
  rw [e, show (1 : Rat) * 1 = 1 by grind, wt_one]
  simp
theorem merge_on {p : Pic} {b c : Nd} {d : Nat} {m : Mn} (w0 : 0 < p.w) (h0 : 0 < p.h) (w1 : p.w ≤ 8) (h1 : p.h ≤ 8) (hb : b.wf d) (hc : c.wf d) (hj : m.joins = true) (pb : b.plB m = true) (pc : c.plB m = true) {x y : Nat} (hx : x < p.w) (hy : y < p.h) {s : Sp} {n : Nat} (hs : s.ok n) :
    (oneN p b c).onF x y s = c.onF x y (b.onF x y s) := by
  have em : c.mn = m := by
    unfold Nd.plB at pc
    simp only [Bool.and_eq_true, decide_eq_true_eq] at pc
    exact pc.2.2
  rw [one_on w0 h0 w1 h1 hb hc hx hy, pl_on pb, pl_on pc, em, bl_assoc m hj (brF_ok hc x y) (brF_ok hb x y) hs]
/-- going through plain nodes of one manner -/
theorem plain_shown {m : Mn} {d : Nat} (hj : m.joins = true) {x y : Int} : ∀ {l : List Nd} {t s : Sp} {n k : Nat}, Nd.wfs d l → (∀ a ∈ l, a.sh = true → a.plB m = true) → t.ok n → s.ok k → shownF l (blF m t s) x y = blF m (shownF l t x y) s
  | [], t, s, n, k, _, _, _, _ => by rw [shownF, shownF]
  | a :: l, t, s, n, k, hw, hl, ht, hs => by
    rw [Nd.wfs] at hw
    rw [shownF, shownF]
    cases h : a.sh with
    | false => rw [off_on h, off_on h]; exact plain_shown hj hw.2 (fun b hb => hl b (List.mem_cons_of_mem _ hb)) ht hs
    | true =>
      have pa := hl a List.mem_cons_self h
      rw [pl_on pa, pl_on pa, bl_assoc m hj (brF_ok hw.1 x y) ht hs]
      exact plain_shown hj hw.2 (fun b hb => hl b (List.mem_cons_of_mem _ hb)) (blF_ok m (brF_ok hw.1 x y) ht) hs
theorem open_on {c : Nd} {d : Nat} (hc : c.wf d) (ho : openB c = true) {x y : Int} {s : Sp} {n : Nat} (hs : s.ok n) : shownF c.kids s x y = c.onF x y s := by
  unfold openB at ho
  simp only [Bool.and_eq_true, decide_eq_true_eq] at ho
  obtain ⟨g1, g2, g3, g4, g5⟩ := ho
  cases c with
  | layer => cases g1
  | tone => cases g1
  | group nm mn st sh ks =>
    have g2 : sh = true := g2
    have g3 : st = 1 := g3
    subst g2 g3
    obtain ⟨e, _, k1, _⟩ := kids_wf g1 hc
    have hl : ∀ a ∈ ks, a.sh = true → a.plB mn = true := fun a ha h => by
      have := List.all_eq_true.mp g5 a ha
      rw [h] at this
      have this : (!true || a.plB mn) = true := this
      simpa using this
    have g4 : mn.joins = true := g4
    have k1 : Nd.wfs e ks := k1
    show shownF ks s x y = _
    rw [Nd.onF, if_pos rfl, wt_one, ← plain_shown g4 k1 hl clr_ok hs, bl_clrL mn hs]
section
variable {p : Pic} {C : List Nd → List Nd} {pre post : List Nd} {b c u : Nd} {d : Nat}
theorem merge_B (hm : mergeB (pre ++ [b]) c = true) : c.mn.joins = true ∧ b.plB c.mn = true ∧ c.plB c.mn = true := by
  unfold mergeB at hm
  rw [List.getLast?_append] at hm
  have hm : c.isTone = false ∧ c.mn.joins = true ∧ c.sh = true ∧ b.plB c.mn = true := by simpa [Bool.and_eq_true] using hm
  exact ⟨hm.2.1, hm.2.2.2, pl_of hm.1 hm.2.2.1⟩
theorem merge_shown (w0 : 0 < p.w) (h0 : 0 < p.h) (w1 : p.w ≤ 8) (h1 : p.h ≤ 8) {e : Nat} (hw : Nd.wfs e (pre ++ [b] ++ c :: post)) (hm : mergeB (pre ++ [b]) c = true) {x y : Nat} (hx : x < p.w) (hy : y < p.h) : ∀ s n, Sp.ok n s → shownF (pre ++ oneN p b c :: post) s x y = shownF (pre ++ [b] ++ c :: post) s x y := fun s n hs => by
  have hb := wf_mem hw (show b ∈ pre ++ [b] ++ c :: post by simp)
  have hc := wf_mem hw (show c ∈ pre ++ [b] ++ c :: post by simp)
  obtain ⟨j, pb, pc⟩ := merge_B hm
  have hpre : Nd.wfs e pre := by rw [wfs_app, wfs_app] at hw; exact hw.1.1
  rw [List.append_assoc, shown_app, shown_app, List.cons_append, shownF, shownF, List.nil_append, shownF]
  rw [merge_on w0 h0 w1 h1 hb hc j pb pc hx hy (shown_ok x y hpre hs)]
theorem open_shown {e : Nat} (hw : Nd.wfs e (pre ++ c :: post)) (ho : openB c = true) {x y : Int} : ∀ s n, Sp.ok n s → shownF (pre ++ (c.kids ++ post)) s x y = shownF (pre ++ c :: post) s x y := fun s n hs => by
  have hc := wf_mem hw (show c ∈ pre ++ c :: post by simp)
  have hpre : Nd.wfs e pre := by rw [wfs_app] at hw; exact hw.1
  rw [shown_app, shown_app, shown_app, shownF, open_on hc ho (shown_ok x y hpre hs)]
end
end GzL
end -- HdF
section -- Lw_k52
set_option maxHeartbeats 8000000
/-! k52: what the law answers. -/
namespace GzL
open PySem PySem.Spec PyProof.Rows L2 Gz
structure HK52 (P : Prog) : Prop where
  ge : HGe P
  me : HMe P
  nm : HNm P
  flat : P.defs.lookup ("flat" : Str) = some f_flat
  names_in : P.defs.lookup ("names_in" : Str) = some f_names_in
  names : P.defs.lookup ("_law_names" : Str) = some f__law_names
  plain : P.defs.lookup ("_law_plain" : Str) = some f__law_plain
  one : P.defs.lookup ("_law_one" : Str) = some f__law_one
  law : P.defs.lookup ("law" : Str) = some f_law_k52
/-! ### a plain layer -/
def plN (nm : Str) (m : Mn) (t : Sht) : Nd → Nd
  | .layer _ _ st _ l u mask s z => .layer nm m st true l u mask s z
  | .tone _ _ st _ => .layer nm m st true 0 0 none t 2
  | .group n _ st sh l => .group n m st sh l
def plF (ns : List Int) (k : Int) (nm : Str) (m : Mn) : Nd := plN nm m (shtF ns (k + 50) 2 2) (leafF ns k nm m)
theorem leaf_ng (ns : List Int) (k : Int) (nm : Str) (m : Mn) : (leafF ns k nm m).isGr = false ∧ (leafF ns k nm m).nm = nm := by
  unfold leafF
  simp only
  split
  · exact ⟨rfl, rfl⟩
  · split <;> exact ⟨rfl, rfl⟩
theorem plF_ok (ns : List Int) (k : Int) (nm : Str) (m : Mn) (d : Nat) : (plF ns k nm m).wf d ∧ (plF ns k nm m).wt ≤ 4 ∧ (plF ns k nm m).nms = [nm] ∧ (plF ns k nm m).nm = nm ∧ (plF ns k nm m).plB m = true := by
  obtain ⟨h1, h2⟩ := leaf_ok ns k nm m d
  obtain ⟨g1, _⟩ := leaf_ng ns k nm m
  have so := shtF_ok ns (k + 50) (w := 2) (h := 2) (by decide) (by decide) (by decide) (by decide)
  unfold plF
  generalize leafF ns k nm m = a at *
  generalize shtF ns (k + 50) 2 2 = t at *
  cases a with
  | layer n mn st sh l u mask s z =>
    refine ⟨by cases d <;> (rw [plN, Nd.wf]; rw [Nd.wf] at h1; exact h1), by rw [plN, Nd.wt]; rw [Nd.wt] at h2; exact h2, by rw [plN, Nd.nms], rfl, ?_⟩
    rw [plN]; unfold Nd.plB; simp [Nd.isTone, Nd.sh, Nd.mn]
  | tone n ru st sh =>
    refine ⟨by cases d <;> (rw [plN, Nd.wf]; rw [Nd.wf] at h1; exact ⟨h1, so, msk_none _⟩), by rw [plN, Nd.wt]; decide, by rw [plN, Nd.nms], rfl, ?_⟩
    rw [plN]; unfold Nd.plB; simp [Nd.isTone, Nd.sh, Nd.mn]
  | group => cases g1
section
variable {P : Prog} (H : HK52 P)
include H
theorem l_plain {ns : List Int} {k : Int} (k0 : 0 ≤ k) (k1 : k < 600000) (hl : ns.length ≤ 63) (nm : Str) (m : Mn) : Run P 7 "_law_plain" [.scr ns, .int k, .str nm, .str m.s] (.fr (ndD (plF ns k nm m))) := by
  refine Run.of H.plain rfl fun m' S hm => ?_
  have e1 := r_leaf H.ge (ns := ns) (k := k) k0 (by omega) hl nm m m' S (by omega)
  have e2 := r_lsheet H.ge.ls H.ge.lsheet (ns := ns) (k := k + 50) (w := 2) (h := 2) (by omega) (by omega) hl (by decide) (by decide) (by decide) (by decide) m' S (by omega)
  rw [show ((2 : Nat) : Int) = 2 from rfl] at e2
  obtain ⟨g1, g2⟩ := leaf_ng ns k nm m
  unfold plF
  generalize leafF ns k nm m = a at *
  generalize shtF ns (k + 50) 2 2 = t at *
  have x0 := nd0 a
  have x3 := nd3 a
  have w0 := w0_tone a
  rw [← ceq2] at w0
  have c2 : ∀ l : List D, slEv (.tup l) none (some (.int 2)) = some (.fr (.tup (l.take 2))) := fun l => by rw [sl_tU, cut_hi2]
  have c34 : ∀ l : List D, slEv (.tup l) (some (.int 3)) (some (.int 4)) = some (.fr (.tup ((l.take 4).drop 3))) := fun l => by
    rw [sl_tB]; exact congrArg (fun z => some (Rv.fr (.tup z))) (cut_both l 3 4)
  have c5 : ∀ l : List D, slEv (.tup l) (some (.int 5)) none = some (.fr (.tup (l.drop 5))) := fun l => by
    rw [sl_tL]; exact congrArg (fun z => some (Rv.fr (.tup z))) (cut_lo l 5)
  have ad : Op2.ev .add (.int k) (.int 50) = some (.fr (.int (k + 50))) := rfl
  have lay : ∀ (n : Str) (st : D) (M : D) (b l u mk s : D) (c0 c1 : Cell), evSs (den P m') P (.cons (.ret (.bin .add (.bin .add (.bin .add (.bin .add (.slU (.var 4) (.int 2)) (.tup (.cons (.var 3) .nil))) (.slB (.var 4) (.int 3) (.int 4))) (.tup (.cons (.bl true) .nil))) (.slL (.var 4) (.int 5)))) .nil) [c0, c1, .fr (.str nm), .fr (.str m.s), .fr (.tup [.str "layer", .str n, M, st, b, l, u, mk, s])] S = .rt (.fr (.tup [.str "layer", .str n, .str m.s, st, .bl true, l, u, mk, s])) S := fun n st M b l u mk s c0 c1 => by
    rw [vSs_cons]
    simp [Gz.vSs_nil, Gz.vS_asg, Gz.vS_asgO, Gz.vS_asgT, Gz.vS_par, Gz.vS_app, Gz.vS_ext, Gz.vS_ret, Gz.vS_retO, Gz.vS_ifs, Gz.vS_for, Gz.vS_expr, Gz.vS_pass, Gz.vS_frz, Gz.vS_rais, Gz.vS_try, Gz.vE_var, Gz.vE_int, Gz.vE_bl, Gz.vE_non, Gz.vE_str, Gz.vE_glob, Gz.vE_fnv, Gz.vE_call, Gz.vE_bi, Gz.vE_gix, Gz.vE_bin, Gz.vE_cmp, Gz.vE_chain, Gz.vE_not, Gz.vE_and, Gz.vE_or, Gz.vE_ite, Gz.vE_tup, Gz.vE_lst, Gz.vE_idx, Gz.vE_slL, Gz.vE_slU, Gz.vE_isi, Gz.vE_isx, Gz.vE_calle, Gz.evEs, Gz.evXs, Gz.slotRv, Gz.bind_ok, Gz.bind_exc, Gz.st_ok, Gz.st_exc, Gz.toO_some, Gz.ofOpt_some, Gz.hold_fr, Gz.hold_own, Gz.Rv.cell, Gz.bind_one, Gz.then_nx, Gz.then_rt, Gz.then_ex, Gz.setE, Gz.Tg.bind, Gz.bindL, Gz.truthR, Gz.D.truth, Gz.vE_slB, c2, c34, c5, Gz.D.toInt, Gz.Op2.ev, limE]
  unfold f__law_plain entry
  rw [vSs_cons]
  simp [Gz.vSs_nil, Gz.vS_asg, Gz.vS_asgO, Gz.vS_asgT, Gz.vS_par, Gz.vS_app, Gz.vS_ext, Gz.vS_ret, Gz.vS_retO, Gz.vS_ifs, Gz.vS_for, Gz.vS_expr, Gz.vS_pass, Gz.vS_frz, Gz.vS_rais, Gz.vS_try, Gz.vE_var, Gz.vE_int, Gz.vE_bl, Gz.vE_non, Gz.vE_str, Gz.vE_glob, Gz.vE_fnv, Gz.vE_call, Gz.vE_bi, Gz.vE_gix, Gz.vE_bin, Gz.vE_cmp, Gz.vE_chain, Gz.vE_not, Gz.vE_and, Gz.vE_or, Gz.vE_ite, Gz.vE_tup, Gz.vE_lst, Gz.vE_idx, Gz.vE_slL, Gz.vE_slU, Gz.vE_isi, Gz.vE_isx, Gz.vE_calle, Gz.evEs, Gz.evXs, Gz.slotRv, Gz.bind_ok, Gz.bind_exc, Gz.st_ok, Gz.st_exc, Gz.toO_some, Gz.ofOpt_some, Gz.hold_fr, Gz.hold_own, Gz.Rv.cell, Gz.bind_one, Gz.then_nx, Gz.then_rt, Gz.then_ex, Gz.setE, Gz.Tg.bind, Gz.bindL, Gz.truthR, Gz.D.truth, e1]
  rw [vSs_cons]
  cases a with
  | layer n mn st sh l u mask s z =>
    have g2 : n = nm := g2
    subst g2
    have w0 : Cm.ev .eq (.str (Nd.layer n mn st sh l u mask s z).w0) (.str "tone") = some false := w0
    simp [Gz.vSs_nil, Gz.vS_asg, Gz.vS_asgO, Gz.vS_asgT, Gz.vS_par, Gz.vS_app, Gz.vS_ext, Gz.vS_ret, Gz.vS_retO, Gz.vS_ifs, Gz.vS_for, Gz.vS_expr, Gz.vS_pass, Gz.vS_frz, Gz.vS_rais, Gz.vS_try, Gz.vE_var, Gz.vE_int, Gz.vE_bl, Gz.vE_non, Gz.vE_str, Gz.vE_glob, Gz.vE_fnv, Gz.vE_call, Gz.vE_bi, Gz.vE_gix, Gz.vE_bin, Gz.vE_cmp, Gz.vE_chain, Gz.vE_not, Gz.vE_and, Gz.vE_or, Gz.vE_ite, Gz.vE_tup, Gz.vE_lst, Gz.vE_idx, Gz.vE_slL, Gz.vE_slU, Gz.vE_isi, Gz.vE_isx, Gz.vE_calle, Gz.evEs, Gz.evXs, Gz.slotRv, Gz.bind_ok, Gz.bind_exc, Gz.st_ok, Gz.st_exc, Gz.toO_some, Gz.ofOpt_some, Gz.hold_fr, Gz.hold_own, Gz.Rv.cell, Gz.bind_one, Gz.then_nx, Gz.then_rt, Gz.then_ex, Gz.setE, Gz.Tg.bind, Gz.bindL, Gz.truthR, Gz.D.truth, x0, w0]
    rw [ndD, lay, plN, ndD]
  | tone n ru st sh =>
    have w0 : Cm.ev .eq (.str (Nd.tone n ru st sh).w0) (.str "tone") = some true := w0
    have x3 : idxEv (ndD (.tone n ru st sh)) (.int 3) = some (shD st) := x3
    simp [Gz.vSs_nil, Gz.vS_asg, Gz.vS_asgO, Gz.vS_asgT, Gz.vS_par, Gz.vS_app, Gz.vS_ext, Gz.vS_ret, Gz.vS_retO, Gz.vS_ifs, Gz.vS_for, Gz.vS_expr, Gz.vS_pass, Gz.vS_frz, Gz.vS_rais, Gz.vS_try, Gz.vE_var, Gz.vE_int, Gz.vE_bl, Gz.vE_non, Gz.vE_str, Gz.vE_glob, Gz.vE_fnv, Gz.vE_call, Gz.vE_bi, Gz.vE_gix, Gz.vE_bin, Gz.vE_cmp, Gz.vE_chain, Gz.vE_not, Gz.vE_and, Gz.vE_or, Gz.vE_ite, Gz.vE_tup, Gz.vE_lst, Gz.vE_idx, Gz.vE_slL, Gz.vE_slU, Gz.vE_isi, Gz.vE_isx, Gz.vE_calle, Gz.evEs, Gz.evXs, Gz.slotRv, Gz.bind_ok, Gz.bind_exc, Gz.st_ok, Gz.st_exc, Gz.toO_some, Gz.ofOpt_some, Gz.hold_fr, Gz.hold_own, Gz.Rv.cell, Gz.bind_one, Gz.then_nx, Gz.then_rt, Gz.then_ex, Gz.setE, Gz.Tg.bind, Gz.bindL, Gz.truthR, Gz.D.truth, Gz.vSs_cons, x0, w0, x3, ad, e2]
    have la := fun c0 c1 => lay nm (shD st) (.str m.s) (.bl true) (.int 0) (.int 0) .non (shtD t) c0 c1
    rw [plN, ndD]
    simp [Gz.vSs_nil, Gz.vS_asg, Gz.vS_asgO, Gz.vS_asgT, Gz.vS_par, Gz.vS_app, Gz.vS_ext, Gz.vS_ret, Gz.vS_retO, Gz.vS_ifs, Gz.vS_for, Gz.vS_expr, Gz.vS_pass, Gz.vS_frz, Gz.vS_rais, Gz.vS_try, Gz.vE_var, Gz.vE_int, Gz.vE_bl, Gz.vE_non, Gz.vE_str, Gz.vE_glob, Gz.vE_fnv, Gz.vE_call, Gz.vE_bi, Gz.vE_gix, Gz.vE_bin, Gz.vE_cmp, Gz.vE_chain, Gz.vE_not, Gz.vE_and, Gz.vE_or, Gz.vE_ite, Gz.vE_tup, Gz.vE_lst, Gz.vE_idx, Gz.vE_slL, Gz.vE_slU, Gz.vE_isi, Gz.vE_isx, Gz.vE_calle, Gz.evEs, Gz.evXs, Gz.slotRv, Gz.bind_ok, Gz.bind_exc, Gz.st_ok, Gz.st_exc, Gz.toO_some, Gz.ofOpt_some, Gz.hold_fr, Gz.hold_own, Gz.Rv.cell, Gz.bind_one, Gz.then_nx, Gz.then_rt, Gz.then_ex, Gz.setE, Gz.Tg.bind, Gz.bindL, Gz.truthR, Gz.D.truth, Gz.vE_slB, c2, c34, c5, Gz.D.toInt, Gz.Op2.ev, limE]
    rfl
  | group => cases g1
end
/-! ### all made one -/
def mrgL (p : Pic) (l : List Nd) (j : Nat) : List Nd := match l.take j |>.getLast?, l[j]? with
  | some b, some c => (l.take j).dropLast ++ oneN p b c :: l.drop (j + 1)
  | _, _ => l
def oneS (ns : List Int) (p : Pic) : Nat → List Nd
  | 0 => p.ns
  | t + 1 => mrgL p (oneS ns p t) (1 + drF ns (20 + (t : Int)) (((oneS ns p t).length : Int) - 1)).toNat
theorem mrg_at (p : Pic) (pre : List Nd) (b c : Nd) (post : List Nd) : mrgL p (pre ++ [b] ++ c :: post) (pre.length + 1) = pre ++ oneN p b c :: post := by
  have e1 : (pre ++ [b] ++ c :: post).take (pre.length + 1) = pre ++ [b] := List.take_left' (by simp)
  have e2 : (pre ++ [b] ++ c :: post)[pre.length + 1]? = some c := by
    rw [List.getElem?_append_right (by simp)]
    simp
  have e3 : (pre ++ [b] ++ c :: post).drop (pre.length + 1 + 1) = post := by
    rw [show pre ++ [b] ++ c :: post = (pre ++ [b] ++ [c]) ++ post by simp]
    exact List.drop_left' (by simp)
  unfold mrgL
  rw [e1, e2, e3]
  simp
theorem split_at {l : List Nd} {j : Nat} (h0 : 0 < j) (h1 : j < l.length) : ∃ pre b c post, l = pre ++ [b] ++ c :: post ∧ pre.length + 1 = j := by
  obtain ⟨i, rfl⟩ : ∃ i, j = i + 1 := ⟨j - 1, by omega⟩
  refine ⟨l.take i, l[i], l[i + 1], l.drop (i + 2), ?_, by rw [List.length_take]; omega⟩
  conv => lhs; rw [← List.take_append_drop (i + 1) l]
  congr 1
  · rw [List.take_add_one, List.getElem?_eq_getElem (by omega)]; rfl
  · rw [List.drop_eq_getElem_cons h1]
/-- what all pictures on the way are -/
structure OneOk (p : Pic) (d : Nat) (m : Mn) (l : List Nd) (t : Nat) : Prop where
  len : l.length + t = p.ns.length
  wf : Nd.wfs d l
  wt : Nd.wts l ≤ Nd.wts p.ns + 2 * t
  sub : (ndsNms l).Sublist (ndsNms p.ns)
  hd : (l.map Nd.nm).head? = (p.ns.map Nd.nm).head?
  pl : ∀ a ∈ l, a.plB m = true
  fl : flatF ⟨p.w, p.h, l⟩ = flatF p
  last : t = 0 ∨ (∀ a, l = [a] → ∃ b c, a = oneN p b c ∧ b.wf d ∧ c.wf d ∧ c.mn = m)
theorem one_pl (p : Pic) (b c : Nd) : (oneN p b c).plB c.mn = true := by unfold oneN Nd.plB; simp [Nd.isTone, Nd.sh, Nd.mn]
theorem pl_parts {m : Mn} {a : Nd} (h : a.plB m = true) : a.isTone = false ∧ a.sh = true ∧ a.mn = m := by
  unfold Nd.plB at h
  simp only [Bool.and_eq_true, Bool.not_eq_true', decide_eq_true_eq] at h
  exact ⟨h.1, h.2.1, h.2.2⟩
theorem merge_ok {m : Mn} (hj : m.joins = true) {pre : List Nd} {b c : Nd} (pb : b.plB m = true) (pc : c.plB m = true) : mergeB (pre ++ [b]) c = true := by
  obtain ⟨t1, t2, t3⟩ := pl_parts pc
  unfold mergeB
  rw [List.getLast?_append]
  subst t3
  simp [t1, t2, hj, pb]
theorem one_step {p : Pic} {d : Nat} {m : Mn} (hj : m.joins = true) (hp : p.ok d) {l : List Nd} {t : Nat} (h : OneOk p d m l t) {j : Nat} (j0 : 0 < j) (j1 : j < l.length) : OneOk p d m (mrgL p l j) (t + 1) ∧ ∃ pre b c post, l = pre ++ [b] ++ c :: post ∧ pre.length + 1 = j ∧ mergeB (pre ++ [b]) c = true ∧ mrgL p l j = pre ++ oneN p b c :: post := by
  obtain ⟨pre, b, c, post, rfl, rfl⟩ := split_at j0 j1
  have pb := h.pl b (by simp)
  have pc := h.pl c (by simp)
  have mg := merge_ok hj (pre := pre) pb pc
  have hb := wf_mem h.wf (show b ∈ pre ++ [b] ++ c :: post by simp)
  have hc := wf_mem h.wf (show c ∈ pre ++ [b] ++ c :: post by simp)
  have emn := (pl_parts pc).2.2
  refine ⟨?_, pre, b, c, post, rfl, rfl, mg, mrg_at p pre b c post⟩
  rw [mrg_at]
  have o : shOk 1 := ⟨Sz.one.up (by decide), by decide⟩
  have s1 : (blSht c.mn (brSht p c) (brSht p b)).ok (c.wt + b.wt) := bls_ok c.mn (brSht_ok hp hc) (brSht_ok hp hb) rfl rfl
  have wfo : (oneN p b c).wf d := by unfold oneN; cases d <;> (rw [Nd.wf]; exact ⟨o, s1, msk_none _⟩)
  have w := h.wf
  rw [wfs_app, wfs_app, wfs_cons] at w
  refine ⟨?_, by rw [wfs_app, wfs_cons]; exact ⟨w.1.1, wfo, w.2.2⟩, ?_, ?_, ?_, ?_, ?_, .inr fun a ha => ?_⟩
  · have := h.len
    simp only [List.length_append, List.length_cons, List.length_nil] at this ⊢
    omega
  · have e2 : Nd.wts ((pre ++ [b]) ++ c :: post) = Nd.wts pre + b.wt + c.wt + Nd.wts post := by
      rw [wts_append, wts_append, Nd.wts, Nd.wts, Nd.wts]
      omega
    have e3 : (oneN p b c).wt = c.wt + b.wt + 2 := by unfold oneN; rw [Nd.wt]
    have := h.wt
    rw [wts_append, Nd.wts, e3]
    omega
  · refine List.Sublist.trans ?_ h.sub
    rw [nms_app, nms_cons, nms_app, nms_app, nms_one, nms_cons]
    have e : (oneN p b c).nms = [b.nm] := by unfold oneN; rw [Nd.nms]
    rw [e, List.append_assoc]
    refine (List.Sublist.refl _).append (List.Sublist.append ?_ (List.sublist_append_right _ _))
    exact List.singleton_sublist.mpr (nm_nms b)
  · rw [← h.hd]
    cases pre with
    | nil => rfl
    | cons a pre => rfl
  · intro a ha
    rcases List.mem_append.mp ha with ha | ha
    · exact h.pl a (by simp [ha])
    · rcases List.mem_cons.mp ha with rfl | ha
      · rw [← emn]; exact one_pl p b c
      · exact h.pl a (by simp [ha])
  · rw [← h.fl]
    exact flat_cong fun x y hx hy => merge_shown hp.w0 hp.h0 hp.w1 hp.h1 h.wf mg hx hy clr 0 clr_ok
  · cases pre with
    | cons a pre => simp at ha
    | nil =>
      cases post with
      | cons _ _ => simp at ha
      | nil =>
        have ha : oneN p b c = a := by simpa using ha
        exact ⟨b, c, ha.symm, hb, hc, emn⟩
theorem one_all {ns : List Int} {p : Pic} {d : Nat} {m : Mn} (hj : m.joins = true) (hp : p.ok d) (hpl : ∀ a ∈ p.ns, a.plB m = true) : ∀ t, t + 1 ≤ p.ns.length → OneOk p d m (oneS ns p t) t
  | 0, _ => ⟨rfl, hp.wf, by show Nd.wts p.ns ≤ _; omega, List.Sublist.refl _, rfl, hpl, rfl, .inl rfl⟩
  | t + 1, ht => by
    have ih := one_all (ns := ns) hj hp hpl t (by omega)
    have hl : 2 ≤ (oneS ns p t).length := by have := ih.len; omega
    have d0 := drF_nonneg (ns := ns) (k := 20 + (t : Int)) (many := ((oneS ns p t).length : Int) - 1) (by omega)
    have d1 := drF_lt (ns := ns) (k := 20 + (t : Int)) (many := ((oneS ns p t).length : Int) - 1) (by omega)
    exact (one_step hj hp ih (j := (1 + drF ns (20 + (t : Int)) (((oneS ns p t).length : Int) - 1)).toNat) (by omega) (by omega)).1
theorem flat_one {p : Pic} {b c : Nd} {d : Nat} {m : Mn} (hp : p.ok d) (hb : b.wf d) (hc : c.wf d) (em : c.mn = m) (hj : m.joins = true) : flatF ⟨p.w, p.h, [oneN p b c]⟩ = blSht c.mn (brSht p c) (brSht p b) := by
  rw [bl_mk]
  unfold flatF
  refine mk_congr fun x y hx hy => ?_
  rw [shownF, shownF, one_on hp.w0 hp.h0 hp.w1 hp.h1 hb hc hx hy]
  rw [bl_clrR c.mn (by rw [em]; exact hj) (blF_ok c.mn (brF_ok hc x y) (brF_ok hb x y))]
section
variable {P : Prog} (H : HK52 P)
include H
theorem l_one {ns : List Int} (hl : ns.length ≤ 63) {p : Pic} {d : Nat} {m : Mn} (hj : m.joins = true) (hp : Pok d p) (d1 : d ≤ 1) (hpl : ∀ a ∈ p.ns, a.plB m = true) (h0 : 1 ≤ p.ns.length) (h6 : p.ns.length ≤ 6) (hw : Nd.wts p.ns ≤ 100) :
    Run P 18 "_law_one" [.scr ns, picD p] (.fr (picD ⟨p.w, p.h, oneS ns p (p.ns.length - 1)⟩)) := by
  refine Run.of H.one rfl fun m' S hm => ?_
  have ok : ∀ t, t + 1 ≤ p.ns.length → OneOk p d m (oneS ns p t) t := one_all hj hp.ok hpl
  have p2 : ∀ l : List Nd, idxEv (picD ⟨p.w, p.h, l⟩) (.int 2) = some (.tup (ndsD l)) := fun l => rfl
  have le : Bi.ev .len [.tup (ndsD p.ns)] = some (.fr (.int (p.ns.length : Int))) := by
    show some (Rv.fr (.int ((ndsD p.ns).length : Int))) = _
    rw [ndsD_len]
  have sb : Op2.ev .sub (.int (p.ns.length : Int)) (.int 1) = some (.fr (.int ((p.ns.length : Int) - 1))) := rfl
  have it := rng_nat (n := p.ns.length - 1) (by omega) (i := (p.ns.length : Int) - 1) (by omega)
  have pp := p2 p.ns
  obtain ⟨PD, hPD⟩ : ∃ F : List Nd → D, F = fun l => picD ⟨p.w, p.h, l⟩ := ⟨_, rfl⟩
  have hP0 : picD p = PD (oneS ns p 0) := by rw [hPD]; rfl
  have p2 : ∀ l : List Nd, idxEv (PD l) (.int 2) = some (.tup (ndsD l)) := fun l => by rw [hPD]; exact p2 l
  have pp : idxEv (PD (oneS ns p 0)) (.int 2) = some (.tup (ndsD p.ns)) := p2 _
  show _ = SO.rt (Rv.fr (picD ⟨p.w, p.h, oneS ns p (p.ns.length - 1)⟩)) S
  rw [show picD ⟨p.w, p.h, oneS ns p (p.ns.length - 1)⟩ = PD (oneS ns p (p.ns.length - 1)) by rw [hPD], hP0]
  unfold f__law_one entry
  rw [vSs_cons, vS_for_of (xs := [.int ((p.ns.length : Int) - 1)]) (ds := (List.range (p.ns.length - 1)).map fun i => D.int ((i : Nat) : Int)) (by simp [Gz.vSs_nil, Gz.vS_asg, Gz.vS_asgO, Gz.vS_asgT, Gz.vS_par, Gz.vS_app, Gz.vS_ext, Gz.vS_ret, Gz.vS_retO, Gz.vS_ifs, Gz.vS_for, Gz.vS_expr, Gz.vS_pass, Gz.vS_frz, Gz.vS_rais, Gz.vS_try, Gz.vE_var, Gz.vE_int, Gz.vE_bl, Gz.vE_non, Gz.vE_str, Gz.vE_glob, Gz.vE_fnv, Gz.vE_call, Gz.vE_bi, Gz.vE_gix, Gz.vE_bin, Gz.vE_cmp, Gz.vE_chain, Gz.vE_not, Gz.vE_and, Gz.vE_or, Gz.vE_ite, Gz.vE_tup, Gz.vE_lst, Gz.vE_idx, Gz.vE_slL, Gz.vE_slU, Gz.vE_isi, Gz.vE_isx, Gz.vE_calle, Gz.evEs, Gz.evXs, Gz.slotRv, Gz.bind_ok, Gz.bind_exc, Gz.st_ok, Gz.st_exc, Gz.toO_some, Gz.ofOpt_some, Gz.hold_fr, Gz.hold_own, Gz.Rv.cell, Gz.bind_one, Gz.then_nx, Gz.then_rt, Gz.then_ex, Gz.setE, Gz.Tg.bind, Gz.bindL, Gz.truthR, Gz.D.truth, pp, le, sb]) it]
  refine Eq.symm (for_inv (fun j env => ∃ c2 c3 c4, env = [.fr (.scr ns), .fr (PD (oneS ns p j)), c2, c3, c4]) ⟨_, _, _, rfl⟩ ?_ ?_)
  · rintro j x env hjx ⟨c2, c3, c4, rfl⟩
    rw [List.getElem?_map] at hjx
    obtain ⟨i, hi, rfl⟩ := Option.map_eq_some_iff.mp hjx
    obtain ⟨hlt, rfl⟩ := List.getElem?_eq_some_iff.mp hi
    rw [List.length_range] at hlt
    rw [List.getElem_range]
    have oj := ok j (by omega)
    have hlen : 2 ≤ (oneS ns p j).length := by have := oj.len; omega
    have hlen6 : (oneS ns p j).length ≤ 6 := by have := oj.len; omega
    have q0 := drF_nonneg (ns := ns) (k := 20 + (j : Int)) (many := ((oneS ns p j).length : Int) - 1) (by omega)
    have q1 := drF_lt (ns := ns) (k := 20 + (j : Int)) (many := ((oneS ns p j).length : Int) - 1) (by omega)
    have ed := r_drawn H.ge.ls.dr (ns := ns) (k := 20 + (j : Int)) (many := ((oneS ns p j).length : Int) - 1) (by omega) (by omega) hl (by omega) m' S (by omega)
    have res : oneS ns p (j + 1) = mrgL p (oneS ns p j) (1 + drF ns (20 + (j : Int)) (((oneS ns p j).length : Int) - 1)).toNat := by rw [oneS]
    obtain ⟨k, hk⟩ : ∃ k : Nat, 1 + drF ns (20 + (j : Int)) (((oneS ns p j).length : Int) - 1) = (k : Int) := ⟨(1 + drF ns (20 + (j : Int)) (((oneS ns p j).length : Int) - 1)).toNat, by omega⟩
    rw [hk, Int.toNat_natCast] at res
    have adk : Op2.ev .add (.int 1) (.int (drF ns (20 + (j : Int)) (((oneS ns p j).length : Int) - 1))) = some (.fr (.int (k : Int))) := by rw [← hk]; rfl
    obtain ⟨_, pre, b, c, post, e1, e2, mg, e3⟩ := one_step hj hp.ok oj (j := k) (by omega) (by omega)
    rw [e3] at res
    have po : Pok d ⟨p.w, p.h, oneS ns p j⟩ := ⟨⟨oj.wf, by have := oj.wt; show Nd.wts (oneS ns p j) ≤ 150; omega, hp.ok.w0, hp.ok.h0, hp.ok.w1, hp.ok.h1⟩, fun x hx => hp.ch x (oj.sub.subset hx), hp.nd.sublist oj.sub, hp.d3⟩
    have np : c.nm ∉ (pre ++ [b]).map Nd.nm := fun q => by
      have nd := po.nd
      show False
      have nd : (ndsNms (oneS ns p j)).Nodup := nd
      rw [e1, nms_app, nms_cons] at nd
      exact (List.nodup_append.mp nd).2.2 _ (nm_in_nms q) _ (List.mem_append_left _ (nm_nms c)) rfl
    have sp : Spot ⟨p.w, p.h, oneS ns p j⟩ (fun M => M) (pre ++ [b]) c post := ⟨.id, e1, np⟩
    have em := p_merged_ok H.me po sp mg m' S (by omega)
    have oe : oneN ⟨p.w, p.h, oneS ns p j⟩ b c = oneN p b c := rfl
    rw [oe, ← res] at em
    have em : den P m' "merged" [PD (oneS ns p j), .str c.nm] S = .ok (.fr (PD (oneS ns p (j + 1)))) S := by rw [hPD]; exact em
    have ix : idxEv (.lst (((oneS ns p j).map Nd.nm).map D.str)) (.int (k : Int)) = some (.str c.nm) := by
      rw [idx_lst, atD_nat, List.getElem?_map, List.getElem?_map, e1, ← e2, List.getElem?_append_right (by simp)]
      simp
    have lcE : ∀ c2 c3 c4 : Cell, evE (den P m') P (.lc [("_law_node", 4)] (.one 4) .seq (.cons (.idx (.var 1) (.int 2)) .nil) (.nil) (.idx (.var 4) (.int 1))) [.fr (.scr ns), .fr (PD (oneS ns p j)), c2, c3, c4] S = .ok ⟨.lst (((oneS ns p j).map Nd.nm).map D.str), .own⟩ S := fun c2 c3 c4 => nm_lc (l := oneS ns p j) (by simp) (by omega) (by simp [Gz.vSs_nil, Gz.vS_asg, Gz.vS_asgO, Gz.vS_asgT, Gz.vS_par, Gz.vS_app, Gz.vS_ext, Gz.vS_ret, Gz.vS_retO, Gz.vS_ifs, Gz.vS_for, Gz.vS_expr, Gz.vS_pass, Gz.vS_frz, Gz.vS_rais, Gz.vS_try, Gz.vE_var, Gz.vE_int, Gz.vE_bl, Gz.vE_non, Gz.vE_str, Gz.vE_glob, Gz.vE_fnv, Gz.vE_call, Gz.vE_bi, Gz.vE_gix, Gz.vE_bin, Gz.vE_cmp, Gz.vE_chain, Gz.vE_not, Gz.vE_and, Gz.vE_or, Gz.vE_ite, Gz.vE_tup, Gz.vE_lst, Gz.vE_idx, Gz.vE_slL, Gz.vE_slU, Gz.vE_isi, Gz.vE_isx, Gz.vE_calle, Gz.evEs, Gz.evXs, Gz.slotRv, Gz.bind_ok, Gz.bind_exc, Gz.st_ok, Gz.st_exc, Gz.toO_some, Gz.ofOpt_some, Gz.hold_fr, Gz.hold_own, Gz.Rv.cell, Gz.bind_one, Gz.then_nx, Gz.then_rt, Gz.then_ex, Gz.setE, Gz.Tg.bind, Gz.bindL, Gz.truthR, Gz.D.truth, p2])
    have ln : Bi.ev .len [.lst (((oneS ns p j).map Nd.nm).map D.str)] = some (.fr (.int ((oneS ns p j).length : Int))) := by
      show some (Rv.fr (.int ((((oneS ns p j).map Nd.nm).map D.str).length : Int))) = _
      rw [List.length_map, List.length_map]
    have gt : Cm.ev .gt (.int ((oneS ns p j).length : Int)) (.int 1) = some true := by
      show some (decide ((1 : Int) < ((oneS ns p j).length : Int))) = _
      rw [decide_eq_true (by omega)]
    have a20 : Op2.ev .add (.int 20) (.int (j : Int)) = some (.fr (.int (20 + (j : Int)))) := rfl
    have s1 : Op2.ev .sub (.int ((oneS ns p j).length : Int)) (.int 1) = some (.fr (.int (((oneS ns p j).length : Int) - 1))) := rfl
    have p2j := p2 (oneS ns p j)
    clear res e1 e3 sp po
    generalize PD (oneS ns p (j + 1)) = R2 at *
    generalize PD (oneS ns p j) = R1 at *
    generalize ((oneS ns p j).map Nd.nm).map D.str = NL at *
    generalize drF ns (20 + (j : Int)) (((oneS ns p j).length : Int) - 1) = q at *
    generalize ((oneS ns p j).length : Int) - 1 = L1 at *
    generalize ((oneS ns p j).length : Int) = L0 at *
    simp only [bind_one, toO_some]
    rw [vSs_cons]
    simp [Gz.vSs_nil, Gz.vS_asg, Gz.vS_asgO, Gz.vS_asgT, Gz.vS_par, Gz.vS_app, Gz.vS_ext, Gz.vS_ret, Gz.vS_retO, Gz.vS_ifs, Gz.vS_for, Gz.vS_expr, Gz.vS_pass, Gz.vS_frz, Gz.vS_rais, Gz.vS_try, Gz.vE_var, Gz.vE_int, Gz.vE_bl, Gz.vE_non, Gz.vE_str, Gz.vE_glob, Gz.vE_fnv, Gz.vE_call, Gz.vE_bi, Gz.vE_gix, Gz.vE_bin, Gz.vE_cmp, Gz.vE_chain, Gz.vE_not, Gz.vE_and, Gz.vE_or, Gz.vE_ite, Gz.vE_tup, Gz.vE_lst, Gz.vE_idx, Gz.vE_slL, Gz.vE_slU, Gz.vE_isi, Gz.vE_isx, Gz.vE_calle, Gz.evEs, Gz.evXs, Gz.slotRv, Gz.bind_ok, Gz.bind_exc, Gz.st_ok, Gz.st_exc, Gz.toO_some, Gz.ofOpt_some, Gz.hold_fr, Gz.hold_own, Gz.Rv.cell, Gz.bind_one, Gz.then_nx, Gz.then_rt, Gz.then_ex, Gz.setE, Gz.Tg.bind, Gz.bindL, Gz.truthR, Gz.D.truth, lcE]
    rw [vSs_cons]
    simp [Gz.vSs_nil, Gz.vS_asg, Gz.vS_asgO, Gz.vS_asgT, Gz.vS_par, Gz.vS_app, Gz.vS_ext, Gz.vS_ret, Gz.vS_retO, Gz.vS_ifs, Gz.vS_for, Gz.vS_expr, Gz.vS_pass, Gz.vS_frz, Gz.vS_rais, Gz.vS_try, Gz.vE_var, Gz.vE_int, Gz.vE_bl, Gz.vE_non, Gz.vE_str, Gz.vE_glob, Gz.vE_fnv, Gz.vE_call, Gz.vE_bi, Gz.vE_gix, Gz.vE_bin, Gz.vE_cmp, Gz.vE_chain, Gz.vE_not, Gz.vE_and, Gz.vE_or, Gz.vE_ite, Gz.vE_tup, Gz.vE_lst, Gz.vE_idx, Gz.vE_slL, Gz.vE_slU, Gz.vE_isi, Gz.vE_isx, Gz.vE_calle, Gz.evEs, Gz.evXs, Gz.slotRv, Gz.bind_ok, Gz.bind_exc, Gz.st_ok, Gz.st_exc, Gz.toO_some, Gz.ofOpt_some, Gz.hold_fr, Gz.hold_own, Gz.Rv.cell, Gz.bind_one, Gz.then_nx, Gz.then_rt, Gz.then_ex, Gz.setE, Gz.Tg.bind, Gz.bindL, Gz.truthR, Gz.D.truth, Gz.vSs_cons, ln, gt, a20, s1, ed, adk, ix, em]
    exact ⟨_, rfl, _, _, _, rfl⟩
  · rintro env ⟨c2, c3, c4, rfl⟩
    rw [List.length_map, List.length_range, vSs_cons]
    generalize PD (oneS ns p (p.ns.length - 1)) = R at *
    simp [Gz.vSs_nil, Gz.vS_asg, Gz.vS_asgO, Gz.vS_asgT, Gz.vS_par, Gz.vS_app, Gz.vS_ext, Gz.vS_ret, Gz.vS_retO, Gz.vS_ifs, Gz.vS_for, Gz.vS_expr, Gz.vS_pass, Gz.vS_frz, Gz.vS_rais, Gz.vS_try, Gz.vE_var, Gz.vE_int, Gz.vE_bl, Gz.vE_non, Gz.vE_str, Gz.vE_glob, Gz.vE_fnv, Gz.vE_call, Gz.vE_bi, Gz.vE_gix, Gz.vE_bin, Gz.vE_cmp, Gz.vE_chain, Gz.vE_not, Gz.vE_and, Gz.vE_or, Gz.vE_ite, Gz.vE_tup, Gz.vE_lst, Gz.vE_idx, Gz.vE_slL, Gz.vE_slU, Gz.vE_isi, Gz.vE_isx, Gz.vE_calle, Gz.evEs, Gz.evXs, Gz.slotRv, Gz.bind_ok, Gz.bind_exc, Gz.st_ok, Gz.st_exc, Gz.toO_some, Gz.ofOpt_some, Gz.hold_fr, Gz.hold_own, Gz.Rv.cell, Gz.bind_one, Gz.then_nx, Gz.then_rt, Gz.then_ex, Gz.setE, Gz.Tg.bind, Gz.bindL, Gz.truthR, Gz.D.truth]
theorem r_law_k52 {ns : List Int} (hl : ns.length ≤ 63) : Run0 P 30 "law" [.scr ns] (.fr (.bl true)) := by
  refine (Run0.of (k := 29) H.law rfl fun m' hm => ?_).up (by decide)
  have dr := fun (k many : Int) (k0 : 0 ≤ k) (k1 : k < 1000) (h0 : 0 < many) => r_drawn H.ge.ls.dr (ns := ns) (k := k) (many := many) k0 (by omega) hl h0 m' [] (by omega)
  have e0 := dr 0 4 (by decide) (by decide) (by decide)
  have e24 := dr 24 5 (by decide) (by decide) (by decide)
  have e25 := dr 25 3 (by decide) (by decide) (by decide)
  have e26 := dr 26 3 (by decide) (by decide) (by decide)
  have e27 := dr 27 4 (by decide) (by decide) (by decide)
  have en := r_names4 H.ge.ls.dr H.names (ns := ns) (k := 1) (M := 6) (by decide) (by decide) hl (by decide) m' [] (by omega)
  rw [show ((6 : Nat) : Int) = 6 from rfl] at en
  have n0 := nm_ix ns 1 (M := 6) (i := 0) (by decide)
  have n5 := nm_ix ns 1 (M := 6) (i := 5) (by decide)
  have ni := fun (i : Nat) (hi : i < 6) => nm_ix ns 1 (M := 6) (i := i) hi
  rw [show ((0 : Nat) : Int) = 0 from rfl] at n0
  rw [show ((5 : Nat) : Int) = 5 from rfl] at n5
  have z0 := drF_nonneg (ns := ns) (k := 0) (many := 4) (by decide)
  have z1 := drF_lt (ns := ns) (k := 0) (many := 4) (by decide)
  have mi := mn_ix4 z0 z1
  have hj : (mnAt (drF ns 0 4)).joins = true := by
    unfold mnAt
    rcases (show drF ns 0 4 = 0 ∨ drF ns 0 4 = 1 ∨ drF ns 0 4 = 2 ∨ drF ns 0 4 = 3 by omega) with h | h | h | h <;> (rw [h]; rfl)
  generalize mnAt (drF ns 0 4) = m at *
  generalize drF ns 0 4 = q0 at *
  have a0 := drF_nonneg (ns := ns) (k := 24) (many := 5) (by decide)
  have a1 := drF_lt (ns := ns) (k := 24) (many := 5) (by decide)
  have b0 := drF_nonneg (ns := ns) (k := 25) (many := 3) (by decide)
  have b1 := drF_lt (ns := ns) (k := 25) (many := 3) (by decide)
  have c0 := drF_nonneg (ns := ns) (k := 26) (many := 3) (by decide)
  have c1 := drF_lt (ns := ns) (k := 26) (many := 3) (by decide)
  have f0 := drF_nonneg (ns := ns) (k := 27) (many := 4) (by decide)
  have f1 := drF_lt (ns := ns) (k := 27) (many := 4) (by decide)
  obtain ⟨n, hn⟩ : ∃ n : Nat, 1 + drF ns 24 5 = (n : Int) := ⟨(1 + drF ns 24 5).toNat, by omega⟩
  obtain ⟨w, hw⟩ : ∃ n : Nat, 1 + drF ns 25 3 = (n : Int) := ⟨(1 + drF ns 25 3).toNat, by omega⟩
  obtain ⟨h, hh⟩ : ∃ n : Nat, 1 + drF ns 26 3 = (n : Int) := ⟨(1 + drF ns 26 3).toNat, by omega⟩
  obtain ⟨f, hf⟩ : ∃ n : Nat, 2 + drF ns 27 4 = (n : Int) := ⟨(2 + drF ns 27 4).toNat, by omega⟩
  have A24 : Op2.ev .add (.int 1) (.int (drF ns 24 5)) = some (.fr (.int (n : Int))) := by rw [← hn]; rfl
  have A25 : Op2.ev .add (.int 1) (.int (drF ns 25 3)) = some (.fr (.int (w : Int))) := by rw [← hw]; rfl
  have A26 : Op2.ev .add (.int 1) (.int (drF ns 26 3)) = some (.fr (.int (h : Int))) := by rw [← hh]; rfl
  have A27 : Op2.ev .add (.int 2) (.int (drF ns 27 4)) = some (.fr (.int (f : Int))) := by rw [← hf]; rfl
  generalize drF ns 24 5 = q1 at *
  generalize drF ns 25 3 = q2 at *
  generalize drF ns 26 3 = q3 at *
  generalize drF ns 27 4 = q4 at *
  -- the nodes
  obtain ⟨l, hL⟩ : ∃ l : List Nd, l = (List.range n).map fun k : Nat => plF ns (40 + 170 * (k : Int)) (nmF ns 1 k) m := ⟨_, rfl⟩
  have len : l.length = n := by rw [hL, List.length_map, List.length_range]
  have mem : ∀ a ∈ l, ∃ k, k < n ∧ a = plF ns (40 + 170 * (k : Int)) (nmF ns 1 k) m := fun a ha => by
    rw [hL] at ha
    obtain ⟨k, hk, rfl⟩ := List.mem_map.mp ha
    exact ⟨k, List.mem_range.mp hk, rfl⟩
  have hpl : ∀ a ∈ l, a.plB m = true := fun a ha => by
    obtain ⟨k, _, rfl⟩ := mem a ha
    exact (plF_ok ns _ _ m 0).2.2.2.2
  have wf : ∀ d, Nd.wfs d l := fun d => wfs_iff.mpr fun a ha => by
    obtain ⟨k, _, rfl⟩ := mem a ha
    exact (plF_ok ns _ _ m d).1
  have wt : Nd.wts l ≤ 4 * n := by
    rw [← len]
    have : ∀ l : List Nd, (∀ a ∈ l, a.wt ≤ 4) → Nd.wts l ≤ 4 * l.length := fun l => by
      induction l with
      | nil => intro _; rw [Nd.wts]; omega
      | cons a l ih =>
        intro q
        rw [Nd.wts, List.length_cons]
        have := q a List.mem_cons_self
        have := ih fun b hb => q b (List.mem_cons_of_mem _ hb)
        omega
    exact this l fun a ha => by
      obtain ⟨k, _, rfl⟩ := mem a ha
      exact (plF_ok ns _ _ m 0).2.1
  have nms : ndsNms l = (List.range n).map (nmF ns 1) := by
    rw [hL]
    have : ∀ L : List Nat, ndsNms (L.map fun k : Nat => plF ns (40 + 170 * (k : Int)) (nmF ns 1 k) m) = L.map (nmF ns 1) := fun L => by
      induction L with
      | nil => rw [List.map_nil, ndsNms]; rfl
      | cons k L ih => rw [List.map_cons, nms_cons, ih, (plF_ok ns _ _ m 0).2.2.1]; rfl
    exact this _
  have nd6 : ∀ L : List Nat, (∀ i ∈ L, i < 6) → L.Nodup → (L.map (nmF ns 1)).Nodup := fun L hL nd => by
    rw [List.nodup_iff_pairwise_ne, List.pairwise_map]
    refine List.Pairwise.imp_of_mem (fun {a b} ha hb hne e => hne ?_) (List.nodup_iff_pairwise_ne.mp nd)
    have h1 := hL a ha
    have h2 := hL b hb
    exact nmF_inj ns 1 (by omega) (by omega) e
  have n5' : n ≤ 5 := by omega
  have hp : Pok 0 ⟨w, h, l⟩ := by
    refine ⟨⟨wf 0, by show Nd.wts l ≤ 150; omega, by show 0 < w; omega, by show 0 < h; omega, by show w ≤ 8; omega, by show h ≤ 8; omega⟩, fun x hx => ?_, ?_, by decide⟩
    · have hx : x ∈ ndsNms l := hx
      rw [nms] at hx
      obtain ⟨i, _, rfl⟩ := List.mem_map.mp hx
      exact nmF_ok ns 1 i
    · show (ndsNms l).Nodup
      rw [nms]
      exact nd6 _ (fun i hi => by have := List.mem_range.mp hi; omega) List.nodup_range
  obtain ⟨G, hG⟩ : ∃ G : Nd, G = .group (nmF ns 1 5) m 1 true (l.take f) := ⟨_, rfl⟩
  have o1 : shOk 1 := ⟨Sz.one.up (by decide), by decide⟩
  have wtk : Nd.wts (l.take f) + Nd.wts (l.drop f) = Nd.wts l := by rw [← wts_append, List.take_append_drop]
  have hg : Pok 1 ⟨w, h, G :: l.drop f⟩ := by
    refine ⟨⟨?_, ?_, by show 0 < w; omega, by show 0 < h; omega, by show w ≤ 8; omega, by show h ≤ 8; omega⟩, ?_, ?_, by decide⟩
    · show Nd.wfs 1 (G :: l.drop f)
      rw [Nd.wfs, hG, Nd.wf]
      exact ⟨⟨o1, wfs_iff.mpr fun a ha => wf_mem (wf 0) (List.mem_of_mem_take ha)⟩, wfs_iff.mpr fun a ha => wf_mem (wf 1) (List.mem_of_mem_drop ha)⟩
    · show Nd.wts (G :: l.drop f) ≤ 150
      rw [Nd.wts, hG, Nd.wt]
      omega
    · intro x hx
      have hx : x ∈ ndsNms (G :: l.drop f) := hx
      rw [nms_cons, hG, nms_grp] at hx
      have : x = nmF ns 1 5 ∨ x ∈ ndsNms l := by
        rcases List.mem_append.mp hx with hx | hx
        · rcases List.mem_cons.mp hx with hx | hx
          · exact .inl hx
          · exact .inr (by rw [← List.take_append_drop f l, nms_app]; exact List.mem_append_left _ hx)
        · exact .inr (by rw [← List.take_append_drop f l, nms_app]; exact List.mem_append_right _ hx)
      rcases this with rfl | hx
      · exact nmF_ok ns 1 5
      · exact hp.ch x hx
    · show (ndsNms (G :: l.drop f)).Nodup
      rw [nms_cons, hG, nms_grp, List.cons_append, ← nms_app, List.take_append_drop, nms]
      have := nd6 (5 :: List.range n) (fun i hi => by
        rcases List.mem_cons.mp hi with rfl | hi
        · decide
        · have := List.mem_range.mp hi; omega) (List.nodup_cons.mpr ⟨fun q => by have := List.mem_range.mp q; omega, List.nodup_range⟩)
      exact this
  have og : openB G = true := by
    rw [hG]
    unfold openB
    have : (l.take f).all (fun a => !a.sh || a.plB m) = true := List.all_eq_true.mpr fun a ha => by rw [hpl a (List.mem_of_mem_take ha)]; simp
    show (true && (true && (decide ((1 : Rat) = 1) && (m.joins && (l.take f).all fun a => !a.sh || a.plB m)))) = true
    rw [hj, this]
    decide
  have ef := p_flat H.me.fl H.me.places H.flat hp.ok m' [] (by omega)
  have eg := p_flat H.me.fl H.me.places H.flat hg.ok m' [] (by omega)
  have fg : flatF ⟨w, h, G :: l.drop f⟩ = flatF ⟨w, h, l⟩ := by
    have := flat_cong (w := w) (h := h) (l := [] ++ (G.kids ++ l.drop f)) (m := [] ++ G :: l.drop f) fun x y _ _ => open_shown (pre := []) (c := G) (post := l.drop f) hg.ok.wf og clr 0 clr_ok
    have kids : G.kids = l.take f := by rw [hG]; rfl
    rw [kids, List.nil_append, List.nil_append, List.take_append_drop] at this
    exact this.symm
  rw [fg] at eg
  have eo := p_opened_ok H.me hg (C := fun M => M) (pre := []) (c := G) (post := l.drop f) ⟨.id, rfl, by simp⟩ og m' [] (by omega)
  have kids : G.kids = l.take f := by rw [hG]; rfl
  have gnm : G.nm = nmF ns 1 5 := by rw [hG]; rfl
  rw [kids, gnm, List.nil_append, List.take_append_drop] at eo
  have hGpl : ∀ a ∈ G :: l.drop f, a.plB m = true := fun a ha => by
    rcases List.mem_cons.mp ha with rfl | ha
    · rw [hG]; unfold Nd.plB; simp [Nd.isTone, Nd.sh, Nd.mn]
    · exact hpl a (List.mem_of_mem_drop ha)
  have glen : (G :: l.drop f).length ≤ 6 := by rw [List.length_cons, List.length_drop, len]; omega
  have gwt : Nd.wts (G :: l.drop f) ≤ 100 := by rw [Nd.wts, hG, Nd.wt]; omega
  have el1 := l_one H hl hj hp (by decide) hpl (by show 1 ≤ l.length; omega) (by show l.length ≤ 6; omega) (by show Nd.wts l ≤ 100; omega) m' [] (by omega)
  have el2 := l_one H hl hj hg (by decide) hGpl (by show 1 ≤ (G :: l.drop f).length; simp) glen gwt m' [] (by omega)
  have O1 := one_all (ns := ns) hj hp.ok hpl (l.length - 1) (by show l.length - 1 + 1 ≤ l.length; omega)
  have O2 := one_all (ns := ns) hj hg.ok hGpl ((G :: l.drop f).length - 1) (by show (G :: l.drop f).length - 1 + 1 ≤ (G :: l.drop f).length; simp)
  simp only at el1 el2 O1 O2
  -- the first end
  have fin1 : 1 < n → ∃ RD, picD ⟨w, h, oneS ns ⟨w, h, l⟩ (l.length - 1)⟩ = RD ∧ D.tup [.int w, .int h, .tup [.tup [.str "layer", .str (nmF ns 1 0), .str m.s, .tup [.int 1, .int 1], .bl true, .int 0, .int 0, .non, shtD (flatF ⟨w, h, l⟩)]]] = RD ∧ Cm.ev .ne RD RD = some false := fun n1 => by
    have hlen := O1.len
    obtain ⟨a, ha⟩ : ∃ a, oneS ns ⟨w, h, l⟩ (l.length - 1) = [a] := by
      have : (oneS ns ⟨w, h, l⟩ (l.length - 1)).length = 1 := by
        have hlen : _ = l.length := hlen
        omega
      exact List.length_eq_one_iff.mp this
    rcases O1.last with q | q
    · omega
    · obtain ⟨b, c, rfl, hb, hc, em⟩ := q a ha
      have fl := O1.fl
      have hd := O1.hd
      rw [ha] at fl hd ⊢
      have fe := flat_one hp.ok hb hc em hj
      have fe : flatF ⟨w, h, [oneN ⟨w, h, l⟩ b c]⟩ = _ := fe
      rw [fl] at fe
      have bnm : b.nm = nmF ns 1 0 := by
        have hd : some b.nm = (l.map Nd.nm).head? := hd
        rw [hL] at hd
        obtain ⟨k, rfl⟩ : ∃ k, n = k + 1 := ⟨n - 1, by omega⟩
        rw [List.range_succ_eq_map] at hd
        simp only [List.map_cons, List.head?_cons, Option.some.injEq] at hd
        rw [hd]
        exact (plF_ok ns _ _ m 0).2.2.2.1
      refine ⟨_, rfl, ?_, ?_⟩
      · unfold picD
        simp only
        rw [ndsD, ndsD, oneD, bnm, em, ← em, ← fe]
        rfl
      · have wf1 : Nd.wfs 0 (oneS ns ⟨w, h, l⟩ (l.length - 1)) := O1.wf
        rw [ha] at wf1
        rw [cne', eqO_pic (d := 0) wf1 (by decide) (fun x hx => ?_)]
        · rfl
        · have := O1.sub
          rw [ha] at this
          exact hp.ch x (this.subset hx)
  have po2 : Pok 1 ⟨w, h, oneS ns ⟨w, h, G :: l.drop f⟩ ((G :: l.drop f).length - 1)⟩ := ⟨⟨O2.wf, by have := O2.wt; have q : Nd.wts (⟨w, h, G :: l.drop f⟩ : Pic).ns ≤ 100 := gwt; show Nd.wts (oneS ns ⟨w, h, G :: l.drop f⟩ ((G :: l.drop f).length - 1)) ≤ 150; omega, hp.ok.w0, hp.ok.h0, hp.ok.w1, hp.ok.h1⟩, fun x hx => hg.ch x (O2.sub.subset hx), hg.nd.sublist O2.sub, by decide⟩
  have ef2 := p_flat H.me.fl H.me.places H.flat po2.ok m' [] (by omega)
  have fl2 : flatF ⟨w, h, oneS ns ⟨w, h, G :: l.drop f⟩ ((G :: l.drop f).length - 1)⟩ = flatF ⟨w, h, l⟩ := O2.fl.trans fg
  rw [fl2] at ef2
  have en2 := p_names_in2 H.nm H.names_in po2.ok.wf (by have := po2.ok.wt; omega) m' [] (by omega)
  have i0 : idxEv (.lst ((ndsNms (oneS ns ⟨w, h, G :: l.drop f⟩ ((G :: l.drop f).length - 1))).map D.str)) (.int 0) = some (.str (nmF ns 1 5)) := by
    have hd := O2.hd
    have hd : ((oneS ns ⟨w, h, G :: l.drop f⟩ ((G :: l.drop f).length - 1)).map Nd.nm).head? = some G.nm := hd
    cases e : oneS ns ⟨w, h, G :: l.drop f⟩ ((G :: l.drop f).length - 1) with
    | nil => rw [e] at hd; cases hd
    | cons a r =>
      rw [e] at hd
      have hd : a.nm = G.nm := by simpa using hd
      rw [idx_lst, atD_0, nms_cons, nms_gr, hd, gnm]
      rfl
  have qs : eqO (.str (nmF ns 1 5)) (.str (nmF ns 1 5)) = some true := by rw [eqO_str1 (nmF_ok ns 1 5) (nmF_ok ns 1 5), decide_eq_true rfl]
  have qf : Cm.ev .ne (shtD (flatF ⟨w, h, l⟩)) (shtD (flatF ⟨w, h, l⟩)) = some false := by rw [cne', eqO_sht]; rfl
  have qf' : eqO (shtD (flatF ⟨w, h, l⟩)) (shtD (flatF ⟨w, h, l⟩)) = some true := eqO_sht _
  have qp : Cm.ev .ne (picD ⟨w, h, l⟩) (picD ⟨w, h, l⟩) = some false := by rw [cne', eqO_pic (d := 0) (wf 0) (by decide) hp.ch]; rfl
  -- slices
  have sU : slEv (.tup (ndsD l)) none (some (.int (f : Int))) = some (.fr (.tup (ndsD (l.take f)))) := by rw [sl_tU, cut_hi, ndsD_map, ndsD_map, List.map_take]
  have sL : slEv (.tup (ndsD l)) (some (.int (f : Int))) none = some (.fr (.tup (ndsD (l.drop f)))) := by rw [sl_tL, cut_lo, ndsD_map, ndsD_map, List.map_drop]
  have gD : D.tup [.str "group", .str (nmF ns 1 5), .str m.s, .tup [.int 1, .int 1], .bl true, .tup (ndsD (l.take f))] = ndD G := by rw [hG, ndD]; rfl
  have ag : Op2.ev .add (.tup [ndD G]) (.tup (ndsD (l.drop f))) = some (.fr (.tup (ndsD (G :: l.drop f)))) := by
    rw [nds_one]
    exact nds_add [G] (l.drop f) (by simp; omega)
  have sz : ∀ X : D, Op2.ev .add (.tup [.int (w : Int), .int (h : Int)]) (.tup [X]) = some (.fr (.tup [.int (w : Int), .int (h : Int), X])) := fun X => by
    show (if [D.int (w : Int), .int (h : Int)].length + [X].length ≤ lim then some (Rv.fr (.tup ([D.int (w : Int), .int (h : Int)] ++ [X]))) else none) = _
    rw [if_pos (by rw [limE]; simp)]
    rfl
  have pD : ∀ L : List Nd, D.tup [.int (w : Int), .int (h : Int), .tup (ndsD L)] = picD ⟨w, h, L⟩ := fun _ => rfl
  have lcE : ∀ c4 c5 c6 c7 c8 c9 c10 c11 c12 c13 : Cell, evE (den P m') P (.lc [("_law_k", 13)] (.one 13) .rng (.cons (.var 3) .nil) (.nil) (.call "_law_plain" (.cons (.var 0) (.cons (.bin .add (.int 40) (.bin .mul (.int 170) (.var 13))) (.cons (.idx (.var 2) (.var 13)) (.cons (.var 1) .nil)))))) [.fr (.scr ns), .fr (.str m.s), .fr (.lst ((nmList ns 1 6).map D.str)), .fr (.int (n : Int)), c4, c5, c6, c7, c8, c9, c10, c11, c12, c13] [] = .ok ⟨.lst (ndsD l), .own⟩ [] := fun c4 c5 c6 c7 c8 c9 c10 c11 c12 c13 => by
    rw [lc_of (xs := [.int (n : Int)]) (as := List.range n) (e := fun i : Nat => .int (i : Int)) (g := fun k : Nat => ndD (plF ns (40 + 170 * (k : Int)) (nmF ns 1 k) m))]
    · rw [hL, ndsD_map, List.map_map]; rfl
    · simp [Gz.vSs_nil, Gz.vS_asg, Gz.vS_asgO, Gz.vS_asgT, Gz.vS_par, Gz.vS_app, Gz.vS_ext, Gz.vS_ret, Gz.vS_retO, Gz.vS_ifs, Gz.vS_for, Gz.vS_expr, Gz.vS_pass, Gz.vS_frz, Gz.vS_rais, Gz.vS_try, Gz.vE_var, Gz.vE_int, Gz.vE_bl, Gz.vE_non, Gz.vE_str, Gz.vE_glob, Gz.vE_fnv, Gz.vE_call, Gz.vE_bi, Gz.vE_gix, Gz.vE_bin, Gz.vE_cmp, Gz.vE_chain, Gz.vE_not, Gz.vE_and, Gz.vE_or, Gz.vE_ite, Gz.vE_tup, Gz.vE_lst, Gz.vE_idx, Gz.vE_slL, Gz.vE_slU, Gz.vE_isi, Gz.vE_isx, Gz.vE_calle, Gz.evEs, Gz.evXs, Gz.slotRv, Gz.bind_ok, Gz.bind_exc, Gz.st_ok, Gz.st_exc, Gz.toO_some, Gz.ofOpt_some, Gz.hold_fr, Gz.hold_own, Gz.Rv.cell, Gz.bind_one, Gz.then_nx, Gz.then_rt, Gz.then_ex, Gz.setE, Gz.Tg.bind, Gz.bindL, Gz.truthR, Gz.D.truth]
    · exact it_rng (by omega)
    · rw [List.length_range, limE]; omega
    · intro i hi
      have hi := List.mem_range.mp hi
      have ep := l_plain H (ns := ns) (k := 40 + 170 * (i : Int)) (by omega) (by omega) hl (nmF ns 1 i) m m' [] (by omega)
      have ix := ni i (by omega)
      have mu : okMul 170 (i : Int) = true := okMul_of (a := 8) (b := 4) (by decide) (by omega) (by decide)
      unfold lcF
      generalize (nmList ns 1 6).map D.str = NL at *
      simp [Gz.vSs_nil, Gz.vSs_cons, Gz.vS_asg, Gz.vS_asgO, Gz.vS_asgT, Gz.vS_par, Gz.vS_app, Gz.vS_ext, Gz.vS_ret, Gz.vS_retO, Gz.vS_ifs, Gz.vS_for, Gz.vS_expr, Gz.vS_pass, Gz.vS_frz, Gz.vS_rais, Gz.vS_try, Gz.vE_var, Gz.vE_int, Gz.vE_bl, Gz.vE_non, Gz.vE_str, Gz.vE_glob, Gz.vE_fnv, Gz.vE_call, Gz.vE_bi, Gz.vE_gix, Gz.vE_bin, Gz.vE_cmp, Gz.vE_chain, Gz.vE_not, Gz.vE_and, Gz.vE_or, Gz.vE_ite, Gz.vE_tup, Gz.vE_lst, Gz.vE_idx, Gz.vE_slL, Gz.vE_slU, Gz.vE_isi, Gz.vE_isx, Gz.vE_calle, Gz.evEs, Gz.evXs, Gz.slotRv, Gz.Out.bind, Gz.Out.st, Gz.Out.toO, Gz.ofOpt, Gz.Rv.hold, Gz.Rv.cell, Gz.SO.then_, Gz.setE, Gz.Tg.bind, Gz.bindL, Gz.truthR, Gz.D.truth, Gz.evT, Gz.wipeE, Gz.Op2.ev, mu, ix, ep]
  have bt : ∀ l : List D, Bi.ev .tuple [.lst l] = some (.fr (.tup l)) := fun _ => rfl
  generalize hNL : (nmList ns 1 6).map D.str = NL at *
  generalize hS1 : oneS ns ⟨w, h, l⟩ (l.length - 1) = R1 at *
  generalize hS2 : oneS ns ⟨w, h, G :: l.drop f⟩ ((G :: l.drop f).length - 1) = R2 at *
  clear O1 O2 po2 fl2 hS1 hS2 hg hp hGpl hpl wf mem nms fg og
  generalize hSH : shtD (flatF ⟨w, h, l⟩) = SH at *
  unfold f_law_k52 entry
  rw [vSs_cons]
  simp [Gz.vSs_nil, Gz.vS_asg, Gz.vS_asgO, Gz.vS_asgT, Gz.vS_par, Gz.vS_app, Gz.vS_ext, Gz.vS_ret, Gz.vS_retO, Gz.vS_ifs, Gz.vS_for, Gz.vS_expr, Gz.vS_pass, Gz.vS_frz, Gz.vS_rais, Gz.vS_try, Gz.vE_var, Gz.vE_int, Gz.vE_bl, Gz.vE_non, Gz.vE_str, Gz.vE_glob, Gz.vE_fnv, Gz.vE_call, Gz.vE_bi, Gz.vE_gix, Gz.vE_bin, Gz.vE_cmp, Gz.vE_chain, Gz.vE_not, Gz.vE_and, Gz.vE_or, Gz.vE_ite, Gz.vE_tup, Gz.vE_lst, Gz.vE_idx, Gz.vE_slL, Gz.vE_slU, Gz.vE_isi, Gz.vE_isx, Gz.vE_calle, Gz.evEs, Gz.evXs, Gz.slotRv, Gz.bind_ok, Gz.bind_exc, Gz.st_ok, Gz.st_exc, Gz.toO_some, Gz.ofOpt_some, Gz.hold_fr, Gz.hold_own, Gz.Rv.cell, Gz.bind_one, Gz.then_nx, Gz.then_rt, Gz.then_ex, Gz.setE, Gz.Tg.bind, Gz.bindL, Gz.truthR, Gz.D.truth, e0, mi]
  rw [vSs_cons]
  simp [Gz.vSs_nil, Gz.vS_asg, Gz.vS_asgO, Gz.vS_asgT, Gz.vS_par, Gz.vS_app, Gz.vS_ext, Gz.vS_ret, Gz.vS_retO, Gz.vS_ifs, Gz.vS_for, Gz.vS_expr, Gz.vS_pass, Gz.vS_frz, Gz.vS_rais, Gz.vS_try, Gz.vE_var, Gz.vE_int, Gz.vE_bl, Gz.vE_non, Gz.vE_str, Gz.vE_glob, Gz.vE_fnv, Gz.vE_call, Gz.vE_bi, Gz.vE_gix, Gz.vE_bin, Gz.vE_cmp, Gz.vE_chain, Gz.vE_not, Gz.vE_and, Gz.vE_or, Gz.vE_ite, Gz.vE_tup, Gz.vE_lst, Gz.vE_idx, Gz.vE_slL, Gz.vE_slU, Gz.vE_isi, Gz.vE_isx, Gz.vE_calle, Gz.evEs, Gz.evXs, Gz.slotRv, Gz.bind_ok, Gz.bind_exc, Gz.st_ok, Gz.st_exc, Gz.toO_some, Gz.ofOpt_some, Gz.hold_fr, Gz.hold_own, Gz.Rv.cell, Gz.bind_one, Gz.then_nx, Gz.then_rt, Gz.then_ex, Gz.setE, Gz.Tg.bind, Gz.bindL, Gz.truthR, Gz.D.truth, en]
  rw [vSs_cons]
  simp [Gz.vSs_nil, Gz.vS_asg, Gz.vS_asgO, Gz.vS_asgT, Gz.vS_par, Gz.vS_app, Gz.vS_ext, Gz.vS_ret, Gz.vS_retO, Gz.vS_ifs, Gz.vS_for, Gz.vS_expr, Gz.vS_pass, Gz.vS_frz, Gz.vS_rais, Gz.vS_try, Gz.vE_var, Gz.vE_int, Gz.vE_bl, Gz.vE_non, Gz.vE_str, Gz.vE_glob, Gz.vE_fnv, Gz.vE_call, Gz.vE_bi, Gz.vE_gix, Gz.vE_bin, Gz.vE_cmp, Gz.vE_chain, Gz.vE_not, Gz.vE_and, Gz.vE_or, Gz.vE_ite, Gz.vE_tup, Gz.vE_lst, Gz.vE_idx, Gz.vE_slL, Gz.vE_slU, Gz.vE_isi, Gz.vE_isx, Gz.vE_calle, Gz.evEs, Gz.evXs, Gz.slotRv, Gz.bind_ok, Gz.bind_exc, Gz.st_ok, Gz.st_exc, Gz.toO_some, Gz.ofOpt_some, Gz.hold_fr, Gz.hold_own, Gz.Rv.cell, Gz.bind_one, Gz.then_nx, Gz.then_rt, Gz.then_ex, Gz.setE, Gz.Tg.bind, Gz.bindL, Gz.truthR, Gz.D.truth, e24, A24]
  rw [vSs_cons]
  simp [Gz.vSs_nil, Gz.vS_asg, Gz.vS_asgO, Gz.vS_asgT, Gz.vS_par, Gz.vS_app, Gz.vS_ext, Gz.vS_ret, Gz.vS_retO, Gz.vS_ifs, Gz.vS_for, Gz.vS_expr, Gz.vS_pass, Gz.vS_frz, Gz.vS_rais, Gz.vS_try, Gz.vE_var, Gz.vE_int, Gz.vE_bl, Gz.vE_non, Gz.vE_str, Gz.vE_glob, Gz.vE_fnv, Gz.vE_call, Gz.vE_bi, Gz.vE_gix, Gz.vE_bin, Gz.vE_cmp, Gz.vE_chain, Gz.vE_not, Gz.vE_and, Gz.vE_or, Gz.vE_ite, Gz.vE_tup, Gz.vE_lst, Gz.vE_idx, Gz.vE_slL, Gz.vE_slU, Gz.vE_isi, Gz.vE_isx, Gz.vE_calle, Gz.evEs, Gz.evXs, Gz.slotRv, Gz.bind_ok, Gz.bind_exc, Gz.st_ok, Gz.st_exc, Gz.toO_some, Gz.ofOpt_some, Gz.hold_fr, Gz.hold_own, Gz.Rv.cell, Gz.bind_one, Gz.then_nx, Gz.then_rt, Gz.then_ex, Gz.setE, Gz.Tg.bind, Gz.bindL, Gz.truthR, Gz.D.truth, lcE, bt]
  rw [vSs_cons]
  simp [Gz.vSs_nil, Gz.vS_asg, Gz.vS_asgO, Gz.vS_asgT, Gz.vS_par, Gz.vS_app, Gz.vS_ext, Gz.vS_ret, Gz.vS_retO, Gz.vS_ifs, Gz.vS_for, Gz.vS_expr, Gz.vS_pass, Gz.vS_frz, Gz.vS_rais, Gz.vS_try, Gz.vE_var, Gz.vE_int, Gz.vE_bl, Gz.vE_non, Gz.vE_str, Gz.vE_glob, Gz.vE_fnv, Gz.vE_call, Gz.vE_bi, Gz.vE_gix, Gz.vE_bin, Gz.vE_cmp, Gz.vE_chain, Gz.vE_not, Gz.vE_and, Gz.vE_or, Gz.vE_ite, Gz.vE_tup, Gz.vE_lst, Gz.vE_idx, Gz.vE_slL, Gz.vE_slU, Gz.vE_isi, Gz.vE_isx, Gz.vE_calle, Gz.evEs, Gz.evXs, Gz.slotRv, Gz.bind_ok, Gz.bind_exc, Gz.st_ok, Gz.st_exc, Gz.toO_some, Gz.ofOpt_some, Gz.hold_fr, Gz.hold_own, Gz.Rv.cell, Gz.bind_one, Gz.then_nx, Gz.then_rt, Gz.then_ex, Gz.setE, Gz.Tg.bind, Gz.bindL, Gz.truthR, Gz.D.truth, e25, A25, e26, A26]
  rw [vSs_cons]
  simp [Gz.vSs_nil, Gz.vS_asg, Gz.vS_asgO, Gz.vS_asgT, Gz.vS_par, Gz.vS_app, Gz.vS_ext, Gz.vS_ret, Gz.vS_retO, Gz.vS_ifs, Gz.vS_for, Gz.vS_expr, Gz.vS_pass, Gz.vS_frz, Gz.vS_rais, Gz.vS_try, Gz.vE_var, Gz.vE_int, Gz.vE_bl, Gz.vE_non, Gz.vE_str, Gz.vE_glob, Gz.vE_fnv, Gz.vE_call, Gz.vE_bi, Gz.vE_gix, Gz.vE_bin, Gz.vE_cmp, Gz.vE_chain, Gz.vE_not, Gz.vE_and, Gz.vE_or, Gz.vE_ite, Gz.vE_tup, Gz.vE_lst, Gz.vE_idx, Gz.vE_slL, Gz.vE_slU, Gz.vE_isi, Gz.vE_isx, Gz.vE_calle, Gz.evEs, Gz.evXs, Gz.slotRv, Gz.bind_ok, Gz.bind_exc, Gz.st_ok, Gz.st_exc, Gz.toO_some, Gz.ofOpt_some, Gz.hold_fr, Gz.hold_own, Gz.Rv.cell, Gz.bind_one, Gz.then_nx, Gz.then_rt, Gz.then_ex, Gz.setE, Gz.Tg.bind, Gz.bindL, Gz.truthR, Gz.D.truth, sz, pD]
  rw [vSs_cons]
  simp [Gz.vSs_nil, Gz.vS_asg, Gz.vS_asgO, Gz.vS_asgT, Gz.vS_par, Gz.vS_app, Gz.vS_ext, Gz.vS_ret, Gz.vS_retO, Gz.vS_ifs, Gz.vS_for, Gz.vS_expr, Gz.vS_pass, Gz.vS_frz, Gz.vS_rais, Gz.vS_try, Gz.vE_var, Gz.vE_int, Gz.vE_bl, Gz.vE_non, Gz.vE_str, Gz.vE_glob, Gz.vE_fnv, Gz.vE_call, Gz.vE_bi, Gz.vE_gix, Gz.vE_bin, Gz.vE_cmp, Gz.vE_chain, Gz.vE_not, Gz.vE_and, Gz.vE_or, Gz.vE_ite, Gz.vE_tup, Gz.vE_lst, Gz.vE_idx, Gz.vE_slL, Gz.vE_slU, Gz.vE_isi, Gz.vE_isx, Gz.vE_calle, Gz.evEs, Gz.evXs, Gz.slotRv, Gz.bind_ok, Gz.bind_exc, Gz.st_ok, Gz.st_exc, Gz.toO_some, Gz.ofOpt_some, Gz.hold_fr, Gz.hold_own, Gz.Rv.cell, Gz.bind_one, Gz.then_nx, Gz.then_rt, Gz.then_ex, Gz.setE, Gz.Tg.bind, Gz.bindL, Gz.truthR, Gz.D.truth, ef]
  rw [vSs_cons]
  simp [Gz.vSs_nil, Gz.vS_asg, Gz.vS_asgO, Gz.vS_asgT, Gz.vS_par, Gz.vS_app, Gz.vS_ext, Gz.vS_ret, Gz.vS_retO, Gz.vS_ifs, Gz.vS_for, Gz.vS_expr, Gz.vS_pass, Gz.vS_frz, Gz.vS_rais, Gz.vS_try, Gz.vE_var, Gz.vE_int, Gz.vE_bl, Gz.vE_non, Gz.vE_str, Gz.vE_glob, Gz.vE_fnv, Gz.vE_call, Gz.vE_bi, Gz.vE_gix, Gz.vE_bin, Gz.vE_cmp, Gz.vE_chain, Gz.vE_not, Gz.vE_and, Gz.vE_or, Gz.vE_ite, Gz.vE_tup, Gz.vE_lst, Gz.vE_idx, Gz.vE_slL, Gz.vE_slU, Gz.vE_isi, Gz.vE_isx, Gz.vE_calle, Gz.evEs, Gz.evXs, Gz.slotRv, Gz.bind_ok, Gz.bind_exc, Gz.st_ok, Gz.st_exc, Gz.toO_some, Gz.ofOpt_some, Gz.hold_fr, Gz.hold_own, Gz.Rv.cell, Gz.bind_one, Gz.then_nx, Gz.then_rt, Gz.then_ex, Gz.setE, Gz.Tg.bind, Gz.bindL, Gz.truthR, Gz.D.truth, n0]
  rw [vSs_cons]
  have st1 : ∀ (c9 c10 c11 c12 c13 : Cell) (k : Gz.Env → Store → SO), (evS (den P m') P (.ifs (.and (.cmp .gt (.var 3) (.int 1)) (.cmp .ne (.call "_law_one" (.cons (.var 0) (.cons (.var 6) .nil))) (.bin .add (.var 5) (.tup (.cons (.tup (.cons (.var 8) .nil)) .nil))))) (.cons (.ret (.bl false)) .nil) (.nil)) [.fr (.scr ns), .fr (.str m.s), .fr (.lst NL), .fr (.int (n : Int)), .fr (.tup (ndsD l)), .fr (.tup [.int (w : Int), .int (h : Int)]), .fr (picD ⟨w, h, l⟩), .fr SH, .fr (.tup [.str "layer", .str (nmF ns 1 0), .str m.s, .tup [.int 1, .int 1], .bl true, .int 0, .int 0, .non, SH]), c9, c10, c11, c12, c13] []).then_ k = k [.fr (.scr ns), .fr (.str m.s), .fr (.lst NL), .fr (.int (n : Int)), .fr (.tup (ndsD l)), .fr (.tup [.int (w : Int), .int (h : Int)]), .fr (picD ⟨w, h, l⟩), .fr SH, .fr (.tup [.str "layer", .str (nmF ns 1 0), .str m.s, .tup [.int 1, .int 1], .bl true, .int 0, .int 0, .non, SH]), c9, c10, c11, c12, c13] [] := fun c9 c10 c11 c12 c13 k => by
    by_cases n1 : 1 < n
    · have gt : Cm.ev .gt (.int (n : Int)) (.int 1) = some true := by
        show some (decide ((1 : Int) < (n : Int))) = _
        rw [decide_eq_true (by omega)]
      obtain ⟨RD, r1, r2, r3⟩ := fin1 n1
      rw [r1] at el1
      simp [Gz.vSs_nil, Gz.vS_asg, Gz.vS_asgO, Gz.vS_asgT, Gz.vS_par, Gz.vS_app, Gz.vS_ext, Gz.vS_ret, Gz.vS_retO, Gz.vS_ifs, Gz.vS_for, Gz.vS_expr, Gz.vS_pass, Gz.vS_frz, Gz.vS_rais, Gz.vS_try, Gz.vE_var, Gz.vE_int, Gz.vE_bl, Gz.vE_non, Gz.vE_str, Gz.vE_glob, Gz.vE_fnv, Gz.vE_call, Gz.vE_bi, Gz.vE_gix, Gz.vE_bin, Gz.vE_cmp, Gz.vE_chain, Gz.vE_not, Gz.vE_and, Gz.vE_or, Gz.vE_ite, Gz.vE_tup, Gz.vE_lst, Gz.vE_idx, Gz.vE_slL, Gz.vE_slU, Gz.vE_isi, Gz.vE_isx, Gz.vE_calle, Gz.evEs, Gz.evXs, Gz.slotRv, Gz.bind_ok, Gz.bind_exc, Gz.st_ok, Gz.st_exc, Gz.toO_some, Gz.ofOpt_some, Gz.hold_fr, Gz.hold_own, Gz.Rv.cell, Gz.bind_one, Gz.then_nx, Gz.then_rt, Gz.then_ex, Gz.setE, Gz.Tg.bind, Gz.bindL, Gz.truthR, Gz.D.truth, gt, el1, sz, r2, r3]
    · have gt : Cm.ev .gt (.int (n : Int)) (.int 1) = some false := by
        show some (decide ((1 : Int) < (n : Int))) = _
        rw [decide_eq_false (by omega)]
      simp [Gz.vSs_nil, Gz.vS_asg, Gz.vS_asgO, Gz.vS_asgT, Gz.vS_par, Gz.vS_app, Gz.vS_ext, Gz.vS_ret, Gz.vS_retO, Gz.vS_ifs, Gz.vS_for, Gz.vS_expr, Gz.vS_pass, Gz.vS_frz, Gz.vS_rais, Gz.vS_try, Gz.vE_var, Gz.vE_int, Gz.vE_bl, Gz.vE_non, Gz.vE_str, Gz.vE_glob, Gz.vE_fnv, Gz.vE_call, Gz.vE_bi, Gz.vE_gix, Gz.vE_bin, Gz.vE_cmp, Gz.vE_chain, Gz.vE_not, Gz.vE_and, Gz.vE_or, Gz.vE_ite, Gz.vE_tup, Gz.vE_lst, Gz.vE_idx, Gz.vE_slL, Gz.vE_slU, Gz.vE_isi, Gz.vE_isx, Gz.vE_calle, Gz.evEs, Gz.evXs, Gz.slotRv, Gz.bind_ok, Gz.bind_exc, Gz.st_ok, Gz.st_exc, Gz.toO_some, Gz.ofOpt_some, Gz.hold_fr, Gz.hold_own, Gz.Rv.cell, Gz.bind_one, Gz.then_nx, Gz.then_rt, Gz.then_ex, Gz.setE, Gz.Tg.bind, Gz.bindL, Gz.truthR, Gz.D.truth, gt]
  rw [st1]
  rw [vSs_cons]
  simp [Gz.vSs_nil, Gz.vS_asg, Gz.vS_asgO, Gz.vS_asgT, Gz.vS_par, Gz.vS_app, Gz.vS_ext, Gz.vS_ret, Gz.vS_retO, Gz.vS_ifs, Gz.vS_for, Gz.vS_expr, Gz.vS_pass, Gz.vS_frz, Gz.vS_rais, Gz.vS_try, Gz.vE_var, Gz.vE_int, Gz.vE_bl, Gz.vE_non, Gz.vE_str, Gz.vE_glob, Gz.vE_fnv, Gz.vE_call, Gz.vE_bi, Gz.vE_gix, Gz.vE_bin, Gz.vE_cmp, Gz.vE_chain, Gz.vE_not, Gz.vE_and, Gz.vE_or, Gz.vE_ite, Gz.vE_tup, Gz.vE_lst, Gz.vE_idx, Gz.vE_slL, Gz.vE_slU, Gz.vE_isi, Gz.vE_isx, Gz.vE_calle, Gz.evEs, Gz.evXs, Gz.slotRv, Gz.bind_ok, Gz.bind_exc, Gz.st_ok, Gz.st_exc, Gz.toO_some, Gz.ofOpt_some, Gz.hold_fr, Gz.hold_own, Gz.Rv.cell, Gz.bind_one, Gz.then_nx, Gz.then_rt, Gz.then_ex, Gz.setE, Gz.Tg.bind, Gz.bindL, Gz.truthR, Gz.D.truth, e27, A27]
  rw [vSs_cons]
  simp [Gz.vSs_nil, Gz.vS_asg, Gz.vS_asgO, Gz.vS_asgT, Gz.vS_par, Gz.vS_app, Gz.vS_ext, Gz.vS_ret, Gz.vS_retO, Gz.vS_ifs, Gz.vS_for, Gz.vS_expr, Gz.vS_pass, Gz.vS_frz, Gz.vS_rais, Gz.vS_try, Gz.vE_var, Gz.vE_int, Gz.vE_bl, Gz.vE_non, Gz.vE_str, Gz.vE_glob, Gz.vE_fnv, Gz.vE_call, Gz.vE_bi, Gz.vE_gix, Gz.vE_bin, Gz.vE_cmp, Gz.vE_chain, Gz.vE_not, Gz.vE_and, Gz.vE_or, Gz.vE_ite, Gz.vE_tup, Gz.vE_lst, Gz.vE_idx, Gz.vE_slL, Gz.vE_slU, Gz.vE_isi, Gz.vE_isx, Gz.vE_calle, Gz.evEs, Gz.evXs, Gz.slotRv, Gz.bind_ok, Gz.bind_exc, Gz.st_ok, Gz.st_exc, Gz.toO_some, Gz.ofOpt_some, Gz.hold_fr, Gz.hold_own, Gz.Rv.cell, Gz.bind_one, Gz.then_nx, Gz.then_rt, Gz.then_ex, Gz.setE, Gz.Tg.bind, Gz.bindL, Gz.truthR, Gz.D.truth, n5, sU, gD]
  rw [vSs_cons]
  simp [Gz.vSs_nil, Gz.vS_asg, Gz.vS_asgO, Gz.vS_asgT, Gz.vS_par, Gz.vS_app, Gz.vS_ext, Gz.vS_ret, Gz.vS_retO, Gz.vS_ifs, Gz.vS_for, Gz.vS_expr, Gz.vS_pass, Gz.vS_frz, Gz.vS_rais, Gz.vS_try, Gz.vE_var, Gz.vE_int, Gz.vE_bl, Gz.vE_non, Gz.vE_str, Gz.vE_glob, Gz.vE_fnv, Gz.vE_call, Gz.vE_bi, Gz.vE_gix, Gz.vE_bin, Gz.vE_cmp, Gz.vE_chain, Gz.vE_not, Gz.vE_and, Gz.vE_or, Gz.vE_ite, Gz.vE_tup, Gz.vE_lst, Gz.vE_idx, Gz.vE_slL, Gz.vE_slU, Gz.vE_isi, Gz.vE_isx, Gz.vE_calle, Gz.evEs, Gz.evXs, Gz.slotRv, Gz.bind_ok, Gz.bind_exc, Gz.st_ok, Gz.st_exc, Gz.toO_some, Gz.ofOpt_some, Gz.hold_fr, Gz.hold_own, Gz.Rv.cell, Gz.bind_one, Gz.then_nx, Gz.then_rt, Gz.then_ex, Gz.setE, Gz.Tg.bind, Gz.bindL, Gz.truthR, Gz.D.truth, sL, ag, sz, pD]
  rw [vSs_cons]
  simp [Gz.vSs_nil, Gz.vS_asg, Gz.vS_asgO, Gz.vS_asgT, Gz.vS_par, Gz.vS_app, Gz.vS_ext, Gz.vS_ret, Gz.vS_retO, Gz.vS_ifs, Gz.vS_for, Gz.vS_expr, Gz.vS_pass, Gz.vS_frz, Gz.vS_rais, Gz.vS_try, Gz.vE_var, Gz.vE_int, Gz.vE_bl, Gz.vE_non, Gz.vE_str, Gz.vE_glob, Gz.vE_fnv, Gz.vE_call, Gz.vE_bi, Gz.vE_gix, Gz.vE_bin, Gz.vE_cmp, Gz.vE_chain, Gz.vE_not, Gz.vE_and, Gz.vE_or, Gz.vE_ite, Gz.vE_tup, Gz.vE_lst, Gz.vE_idx, Gz.vE_slL, Gz.vE_slU, Gz.vE_isi, Gz.vE_isx, Gz.vE_calle, Gz.evEs, Gz.evXs, Gz.slotRv, Gz.bind_ok, Gz.bind_exc, Gz.st_ok, Gz.st_exc, Gz.toO_some, Gz.ofOpt_some, Gz.hold_fr, Gz.hold_own, Gz.Rv.cell, Gz.bind_one, Gz.then_nx, Gz.then_rt, Gz.then_ex, Gz.setE, Gz.Tg.bind, Gz.bindL, Gz.truthR, Gz.D.truth, eg, qf, n5, eo, qp]
  rw [vSs_cons]
  simp [Gz.vSs_nil, Gz.vS_asg, Gz.vS_asgO, Gz.vS_asgT, Gz.vS_par, Gz.vS_app, Gz.vS_ext, Gz.vS_ret, Gz.vS_retO, Gz.vS_ifs, Gz.vS_for, Gz.vS_expr, Gz.vS_pass, Gz.vS_frz, Gz.vS_rais, Gz.vS_try, Gz.vE_var, Gz.vE_int, Gz.vE_bl, Gz.vE_non, Gz.vE_str, Gz.vE_glob, Gz.vE_fnv, Gz.vE_call, Gz.vE_bi, Gz.vE_gix, Gz.vE_bin, Gz.vE_cmp, Gz.vE_chain, Gz.vE_not, Gz.vE_and, Gz.vE_or, Gz.vE_ite, Gz.vE_tup, Gz.vE_lst, Gz.vE_idx, Gz.vE_slL, Gz.vE_slU, Gz.vE_isi, Gz.vE_isx, Gz.vE_calle, Gz.evEs, Gz.evXs, Gz.slotRv, Gz.bind_ok, Gz.bind_exc, Gz.st_ok, Gz.st_exc, Gz.toO_some, Gz.ofOpt_some, Gz.hold_fr, Gz.hold_own, Gz.Rv.cell, Gz.bind_one, Gz.then_nx, Gz.then_rt, Gz.then_ex, Gz.setE, Gz.Tg.bind, Gz.bindL, Gz.truthR, Gz.D.truth, el2]
  rw [vSs_cons]
  simp [Gz.vSs_nil, Gz.vS_asg, Gz.vS_asgO, Gz.vS_asgT, Gz.vS_par, Gz.vS_app, Gz.vS_ext, Gz.vS_ret, Gz.vS_retO, Gz.vS_ifs, Gz.vS_for, Gz.vS_expr, Gz.vS_pass, Gz.vS_frz, Gz.vS_rais, Gz.vS_try, Gz.vE_var, Gz.vE_int, Gz.vE_bl, Gz.vE_non, Gz.vE_str, Gz.vE_glob, Gz.vE_fnv, Gz.vE_call, Gz.vE_bi, Gz.vE_gix, Gz.vE_bin, Gz.vE_cmp, Gz.vE_chain, Gz.vE_not, Gz.vE_and, Gz.vE_or, Gz.vE_ite, Gz.vE_tup, Gz.vE_lst, Gz.vE_idx, Gz.vE_slL, Gz.vE_slU, Gz.vE_isi, Gz.vE_isx, Gz.vE_calle, Gz.evEs, Gz.evXs, Gz.slotRv, Gz.bind_ok, Gz.bind_exc, Gz.st_ok, Gz.st_exc, Gz.toO_some, Gz.ofOpt_some, Gz.hold_fr, Gz.hold_own, Gz.Rv.cell, Gz.bind_one, Gz.then_nx, Gz.then_rt, Gz.then_ex, Gz.setE, Gz.Tg.bind, Gz.bindL, Gz.truthR, Gz.D.truth, ef2, qf', en2, i0, n5, ceq2, qs]
end
end GzL
end -- Lw_k52
section -- Law_k52
/-! k52: the program has the defs; the answer. -/
namespace GzL
open PySem PySem.Spec PyProof.Rows L2 Gz
theorem has_k52 : HK52 P := by repeat' (first | kernel_rfl | constructor)
theorem answer (ns : List Int) (hl : ns.length ≤ 63) : ∃ S', den (mkP items cons tabs excs hots) 200 "law" [.scr ns] [] = .ok (.fr (.bl true)) S' := by first | exact ⟨[], r_law_k52 has_k52 hl 200 [] (by decide)⟩ | exact ⟨[], r_law_k52 has_k52 hl 200 (by decide)⟩
end GzL
end -- Law_k52
section -- Hd_k52
set_option maxHeartbeats 0
/-! k52: the head, the law. -/
namespace GzL
open PySem PySem.Spec PyProof.Rows L2 Gz
theorem law_ps : (items.all fun i => !decide (i.x = ("law" : Str)) || decide (i.ps = [("_law_script" : Str)])) = true := by decide +kernel
theorem law_fn : P.defs.lookup ("law" : Str) = some lawFn := by kernel_rfl
end GzL
open PySem PySem.W PySem.Calls PyProof.Rows
theorem PySem.Challenge.cw_glazework_k52_whole_to_one_holds : PySem.Challenge.rw_glazework_k52_whole_to_one.Holds := by
  w_on
  o_law
  refine HandSHeadRun.head_any (r := OpenLaw.row GzL.rw) (q := view (OpenLaw.row GzL.rw).prog [GzL.lawAt]) (H := GzL.hk) (ob := GzL.ob) (M := 6000) (loose := GzL.loose) (d := HandSHeadRun.topDef (OpenLaw.row GzL.rw).prog GzL.lawAt) (kwd := []) GzL.ob_eq
    (by kernel_rfl) (fun s => by kernel_rfl) GzL.run (by kernel_rfl) (by kernel_rfl) (by kernel_rfl) (by rfl) (by first | assumption | decide +kernel) (by decide +kernel) ⟨rfl, rfl, rfl, rfl, rfl, by decide +kernel⟩ ?hw ?hc
  case hw => w_witness2
  case hc =>
    have hn : (HandSHeadRun.topDef (OpenLaw.row GzL.rw).prog GzL.lawAt).name = ("law" : PySem.Str) := by kernel_rfl
    refine Gz.walk_law (l := GzL.rw) (n := 63) (k := 200) (x := "_law_script") (items := GzL.items) (cons := GzL.cons) (tabs := GzL.tabs) (excs := GzL.excs) (hots := GzL.hots) (fn := GzL.lawFn) rfl (by decide) (by kernel_rfl) ⟨rfl, by decide, by decide⟩ (fun i hi => ?_) (fun i hi hm => ?_) (by rw [hn]; exact GzL.law_fn) (fun i hi e => ?_) (by rw [hn]; exact GzL.answer)
    · exact Bool.and_eq_true_iff.mp (List.all_eq_true.mp GzL.ck i hi)
    · have q := List.all_eq_true.mp GzL.ckH i hi
      rw [decide_eq_true hm] at q
      exact q
    · rw [hn] at e
      have q := List.all_eq_true.mp GzL.law_ps i hi
      simpa [e] using q
end -- Hd_k52
