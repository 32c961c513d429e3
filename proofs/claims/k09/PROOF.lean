import PyProof.Rows.All
import HandS.ForMost
import HandS.ForExc
import HandS.CallSlots
import HandS.Lambda
import HandS.TupAny
import HandS.TupMul
import HandS.Wide
import HandS.TupLe
import HandS.Flow
import HandS.Style
import HandS.Deep
import HandS.IsInst
import HandS.Small
import HandS.Conv
import HandS.WordsDict
import HandS.SetFor
import HandS.RaiseMore
import HandS.Walk
import HandS.Rev
import HandS.RevRange
import HandS.Zip
import HandS.WordsExc
import HandS.Defaults
import HandS.HeadHook2
import HandS.HeadEnd
import PyProof.SumWalkG
import PyProof.ExcBaseAll.ValueError
import HandS.HeadWalk
import HandS.TryMany
import HandS.HeadHook4
import HandS.TryOnly
import HandS.SortInts
import KE.KStateDown
import HandS.Head0
import HandS.Head1
import HandS.Head2
import PySem.Challenge.RW_corehall_k09_caches_over_memory
set_option Elab.async false
set_option linter.all false
set_option maxRecDepth 100000
set_option maxHeartbeats 0
namespace MM
open PySem L2

inductive D where
  | non | bl (b : Bool) | int (i : Int) | str (x : Str) | tup (ds : List D) | ref (i : Nat) | rol (ds : List D)
mutual
def D.beq : D → D → Bool
  | .non, .non => true
  | .bl a, .bl b => a == b
  | .int a, .int b => decide (a = b)
  | .str a, .str b => decide (a = b)
  | .tup a, .tup b => D.beqs a b
  | .ref a, .ref b => a == b
  | .rol a, .rol b => D.beqs a b
  | _, _ => false
def D.beqs : List D → List D → Bool
  | [], [] => true
  | a :: as, b :: bs => D.beq a b && D.beqs as bs
  | _, _ => false
end
mutual
theorem D.beq_ok : ∀ a b : D, D.beq a b = true → a = b := by
  intro a b h
  cases a <;> cases b <;> simp only [D.beq, Bool.false_eq_true, beq_iff_eq, decide_eq_true_eq] at h <;> first | rfl | (subst h; rfl) | (rw [D.beqs_ok _ _ h])
theorem D.beqs_ok : ∀ a b : List D, D.beqs a b = true → a = b := by
  intro a b h
  cases a <;> cases b <;> simp only [D.beqs, Bool.false_eq_true, Bool.and_eq_true] at h
  · rfl
  · rw [D.beq_ok _ _ h.1, D.beqs_ok _ _ h.2]
end
mutual
theorem D.beq_refl : ∀ a : D, D.beq a a = true := by
  intro a
  cases a <;> simp only [D.beq, beq_self_eq_true, decide_true]
  · exact D.beqs_refl _
  · exact D.beqs_refl _
theorem D.beqs_refl : ∀ a : List D, D.beqs a a = true := by
  intro a
  cases a
  · rfl
  · simp only [D.beqs, Bool.and_eq_true]
    exact ⟨D.beq_refl _, D.beqs_refl _⟩
end
instance : DecidableEq D := fun a b => decidable_of_iff (D.beq a b = true) ⟨D.beq_ok a b, fun e => by rw [e]; exact D.beq_refl b⟩
inductive O where
  | lst (ds : List D) | dic (kvs : List (Key × D)) | dicL (kvs : List (Key × D)) | ins (c : Str) (fs : List (Str × D))
  deriving DecidableEq
abbrev Hm := List O
abbrev Ev := List (Option D)
/-- an exception: its class's name, its fields -/
structure Ex where
  cls : Str
  fs : List (Str × D)
  deriving DecidableEq
inductive R (α : Type) where
  | ok (a : α) (h : Hm)
  | exn (x : Ex) (h : Hm)
  | bad
def R.bind {α β : Type} (r : R α) (k : α → Hm → R β) : R β := match r with
  | .ok a h => k a h
  | .exn x h => .exn x h
  | .bad => .bad

structure Gx where
  K : PySem.W.Frag
  mg : Str → Option Value
  T : List (Addr × Str)
def KTup (K : PySem.W.Frag) (a : Addr) (xs : List V) : Prop :=
  ∃ (o : Obj) (its : Array Value) (n : Nat), K.lookup a = some o ∧ o.cls = .type "tuple" ∧ o.data = .seq its n ∧ its.size ≤ sizeLine ∧ Vals xs its.toList
def KLst (K : PySem.W.Frag) (a : Addr) (xs : List V) : Prop :=
  ∃ (o : Obj) (its : Array Value) (n : Nat), K.lookup a = some o ∧ o.cls = .type "list" ∧ o.dict = none ∧ o.data = .seq its n ∧ its.size ≤ sizeLine ∧ Vals xs its.toList
def TupAt (K : PySem.W.Frag) (π : List Addr) (H : Hp) (a : Addr) (xs : List V) : Prop := (H a = some (.tup xs) ∧ a ∉ π) ∨ KTup K a xs
def LstAt (K : PySem.W.Frag) (π : List Addr) (H : Hp) (a : Addr) (xs : List V) : Prop := (∃ o, H a = some (.frz o (.lst xs)) ∧ a ∉ π) ∨ KLst K a xs
theorem TupAt.sq {K : PySem.W.Frag} {π : List Addr} {H : Hp} {a : Addr} {xs : List V} (h : TupAt K π H a xs) : SqT K H a xs := by
  rcases h with ⟨h, _⟩ | h
  · exact .inl (.inl h)
  · exact .inr h
theorem LstAt.sq {K : PySem.W.Frag} {π : List Addr} {H : Hp} {a : Addr} {xs : List V} (h : LstAt K π H a xs) : SqL K H a xs := by
  rcases h with ⟨o, h, _⟩ | h
  · exact .inl (.inr ⟨o, h⟩)
  · exact .inr h
/-- what a step of the program leaves of what it does not know -/
structure Step (π : List Addr) (H : Hp) (π' : List Addr) (H' : Hp) : Prop where
  ext : ∃ more, π' = π ++ more
  out : ∀ a o, H a = some o → a ∉ π → (∀ ps, o ≠ .tbl ps) → a ∉ π'
  keep : ∀ a o, H a = some o → a ∉ π → (∀ ps, o ≠ .tbl ps) → H' a = some o
  frz : ∀ a o u, H a = some (.frz o u) → H' a = some (.frz o u)
theorem Step.refl {π : List Addr} {H : Hp} : Step π H π H := ⟨⟨[], by simp⟩, fun _ _ _ h _ => h, fun _ _ h _ _ => h, fun _ _ _ h => h⟩
theorem Step.trans {π π1 π2 : List Addr} {H H1 H2 : Hp} (a : Step π H π1 H1) (b : Step π1 H1 π2 H2) : Step π H π2 H2 := by
  obtain ⟨m1, e1⟩ := a.ext
  obtain ⟨m2, e2⟩ := b.ext
  exact ⟨⟨m1 ++ m2, by rw [e2, e1, List.append_assoc]⟩, fun x o h n t => b.out x o (a.keep x o h n t) (a.out x o h n t) t, fun x o h n t => b.keep x o (a.keep x o h n t) (a.out x o h n t) t, fun x o u h => b.frz x o u (a.frz x o u h)⟩
theorem Step.get {π π' : List Addr} {H H' : Hp} (s : Step π H π' H') {i : Nat} {a : Addr} (h : π[i]? = some a) : π'[i]? = some a := by
  obtain ⟨m, e⟩ := s.ext
  rw [e, List.getElem?_append_left (List.getElem?_eq_some_iff.mp h).1]
  exact h
mutual
def DV (K : PySem.W.Frag) (π : List Addr) (H : Hp) : D → V → Prop
  | .non, v => v = .non
  | .bl b, v => v = .bl b
  | .int i, v => v = .int i
  | .str x, v => v = .str x
  | .ref i, v => ∃ a, π[i]? = some a ∧ v = .ref a
  | .tup ds, v => ∃ a xs, v = .ref a ∧ TupAt K π H a xs ∧ DVs K π H ds xs
  | .rol ds, v => ∃ a xs, v = .ref a ∧ LstAt K π H a xs ∧ DVs K π H ds xs
def DVs (K : PySem.W.Frag) (π : List Addr) (H : Hp) : List D → List V → Prop
  | [], xs => xs = []
  | d :: ds, xs => ∃ v vs, xs = v :: vs ∧ DV K π H d v ∧ DVs K π H ds vs
end
section
variable {K : PySem.W.Frag} {π π' : List Addr} {H H' : Hp}
theorem TupAt.step (s : Step π H π' H') {a : Addr} {xs : List V} (h : TupAt K π H a xs) : TupAt K π' H' a xs := by
  rcases h with ⟨h, n⟩ | h
  · exact .inl ⟨s.keep a _ h n (fun ps z => by cases z), s.out a _ h n (fun ps z => by cases z)⟩
  · exact .inr h
theorem LstAt.step (s : Step π H π' H') {a : Addr} {xs : List V} (h : LstAt K π H a xs) : LstAt K π' H' a xs := by
  rcases h with ⟨o, h, n⟩ | h
  · exact .inl ⟨o, s.keep a _ h n (fun ps z => by cases z), s.out a _ h n (fun ps z => by cases z)⟩
  · exact .inr h
mutual
theorem DV.step (s : Step π H π' H') : ∀ (d : D) (v : V), DV K π H d v → DV K π' H' d v
  | .non, _, h => h
  | .bl _, _, h => h
  | .int _, _, h => h
  | .str _, _, h => h
  | .ref _, _, ⟨a, h, e⟩ => ⟨a, s.get h, e⟩
  | .tup ds, _, ⟨a, xs, e, h, q⟩ => ⟨a, xs, e, h.step s, DVs.step s ds xs q⟩
  | .rol ds, _, ⟨a, xs, e, h, q⟩ => ⟨a, xs, e, h.step s, DVs.step s ds xs q⟩
theorem DVs.step (s : Step π H π' H') : ∀ (ds : List D) (xs : List V), DVs K π H ds xs → DVs K π' H' ds xs
  | [], _, h => h
  | d :: ds, _, ⟨v, vs, e, h, q⟩ => ⟨v, vs, e, DV.step s d v h, DVs.step s ds vs q⟩
end
theorem DVs.len : ∀ {ds : List D} {xs : List V}, DVs K π H ds xs → xs.length = ds.length
  | [], _, h => by rw [show _ = [] from h] <;> rfl
  | d :: ds, _, ⟨v, vs, e, _, q⟩ => by rw [e, List.length_cons, List.length_cons, DVs.len q]
theorem DVs.get : ∀ {ds : List D} {xs : List V} {i : Nat} {d : D}, DVs K π H ds xs → ds[i]? = some d → ∃ v, xs[i]? = some v ∧ DV K π H d v
  | d :: ds, _, 0, d', ⟨v, vs, e, h, q⟩, g => by
    have g' : d = d' := Option.some.inj g
    subst g'
    exact ⟨v, by rw [e] <;> rfl, h⟩
  | d :: ds, _, i + 1, d', ⟨v, vs, e, h, q⟩, g => by
    obtain ⟨w, h1, h2⟩ := DVs.get (i := i) q g
    exact ⟨w, by rw [e]; exact h1, h2⟩
theorem DVs.app : ∀ {ds es : List D} {xs ys : List V}, DVs K π H ds xs → DVs K π H es ys → DVs K π H (ds ++ es) (xs ++ ys)
  | [], _, _, _, h, q => by rw [show _ = [] from h]; exact q
  | d :: ds, _, _, _, ⟨v, vs, e, h, q⟩, r => ⟨v, vs ++ _, by rw [e] <;> rfl, h, DVs.app q r⟩
theorem DVs.one {d : D} {v : V} (h : DV K π H d v) : DVs K π H [d] [v] := ⟨v, [], rfl, h, rfl⟩
theorem DVs.two {d e : D} {v w : V} (h : DV K π H d v) (q : DV K π H e w) : DVs K π H [d, e] [v, w] := ⟨v, [w], rfl, h, w, [], rfl, q, rfl⟩
theorem DVs.take : ∀ (n : Nat) {ds : List D} {xs : List V}, DVs K π H ds xs → DVs K π H (ds.take n) (xs.take n)
  | 0, _, _, _ => rfl
  | n + 1, [], _, h => by rw [show _ = [] from h]; rfl
  | n + 1, d :: ds, _, ⟨v, vs, e, h, q⟩ => ⟨v, vs.take n, by rw [e] <;> rfl, h, DVs.take n q⟩
theorem DVs.drop : ∀ (n : Nat) {ds : List D} {xs : List V}, DVs K π H ds xs → DVs K π H (ds.drop n) (xs.drop n)
  | 0, _, _, h => h
  | n + 1, [], _, h => by rw [show _ = [] from h]; rfl
  | n + 1, d :: ds, _, ⟨v, vs, e, h, q⟩ => by rw [e]; exact DVs.drop n q
theorem DVs.set : ∀ (i : Nat) {ds : List D} {xs : List V} {d : D} {v : V}, DVs K π H ds xs → DV K π H d v → DVs K π H (ds.set i d) (xs.set i v)
  | _, [], _, _, _, h, _ => by rw [show _ = [] from h]; rfl
  | 0, d :: ds, _, _, w, ⟨v, vs, e, h, q⟩, r => ⟨w, vs, by rw [e] <;> rfl, r, q⟩
  | i + 1, d :: ds, _, _, w, ⟨v, vs, e, h, q⟩, r => ⟨v, vs.set i w, by rw [e] <;> rfl, h, DVs.set i q r⟩
theorem DVs.snoc {ds : List D} {xs : List V} {d : D} {v : V} (h : DVs K π H ds xs) (q : DV K π H d v) : DVs K π H (ds ++ [d]) (xs ++ [v]) := h.app (.one q)
theorem DVs.rev : ∀ {ds : List D} {xs : List V}, DVs K π H ds xs → DVs K π H ds.reverse xs.reverse
  | [], _, h => by rw [show _ = [] from h]; rfl
  | d :: ds, _, ⟨v, vs, e, h, q⟩ => by rw [e, List.reverse_cons, List.reverse_cons]; exact (DVs.rev q).snoc h
theorem DVs.erase : ∀ (i : Nat) {ds : List D} {xs : List V}, DVs K π H ds xs → DVs K π H (ds.eraseIdx i) (xs.eraseIdx i)
  | _, [], _, h => by rw [show _ = [] from h]; rfl
  | 0, d :: ds, _, ⟨v, vs, e, h, q⟩ => by rw [e]; exact q
  | i + 1, d :: ds, _, ⟨v, vs, e, h, q⟩ => ⟨v, vs.eraseIdx i, by rw [e] <;> rfl, h, DVs.erase i q⟩
end
def DPs {κ : Type} (K : PySem.W.Frag) (π : List Addr) (H : Hp) : List (κ × D) → List (κ × V) → Prop
  | [], xs => xs = []
  | p :: ps, xs => ∃ v vs, xs = (p.1, v) :: vs ∧ DV K π H p.2 v ∧ DPs K π H ps vs
theorem DPs.step {κ : Type} {K : PySem.W.Frag} {π π' : List Addr} {H H' : Hp} (s : Step π H π' H') : ∀ (ps : List (κ × D)) (xs : List (κ × V)), DPs K π H ps xs → DPs K π' H' ps xs
  | [], _, h => h
  | p :: ps, _, ⟨v, vs, e, h, q⟩ => ⟨v, vs, e, h.step s _ _, DPs.step s ps vs q⟩
theorem DPs.len {κ : Type} {K : PySem.W.Frag} {π : List Addr} {H : Hp} : ∀ {ps : List (κ × D)} {xs : List (κ × V)}, DPs K π H ps xs → xs.length = ps.length
  | [], _, h => by rw [show _ = [] from h] <;> rfl
  | p :: ps, _, ⟨v, vs, e, h, q⟩ => by rw [e, List.length_cons, List.length_cons, DPs.len q]
def OV (G : Gx) (π : List Addr) (H : Hp) (a : Addr) : O → Prop
  | .lst ds => ∃ xs, H a = some (.lst xs) ∧ DVs G.K π H ds xs
  | .dic kvs => ∃ xs, H a = some (.dK xs) ∧ DPs G.K π H kvs xs
  | .dicL kvs => ∃ o xs, H a = some (.frz o (.dK xs)) ∧ DPs G.K π H kvs xs
  | .ins c fs => ∃ C dx xs, G.mg c = some (.ref C) ∧ H a = some (.ins C dx xs) ∧ DPs G.K π H fs xs
theorem OV.some {G : Gx} {π : List Addr} {H : Hp} {a : Addr} {o : O} (h : OV G π H a o) : ∃ u, H a = some u := by
  cases o with
  | lst ds => obtain ⟨xs, h, _⟩ := h; exact ⟨_, h⟩
  | dic ds => obtain ⟨xs, h, _⟩ := h; exact ⟨_, h⟩
  | dicL ds => obtain ⟨o, xs, h, _⟩ := h; exact ⟨_, h⟩
  | ins c fs => obtain ⟨C, dx, xs, _, h, _⟩ := h; exact ⟨_, h⟩
/-- an object stands as it stood, the rest has gone on -/
theorem OV.step {G : Gx} {π π' : List Addr} {H H' : Hp} {a : Addr} {o : O} (s : Step π H π' H') (e : H' a = H a) (h : OV G π H a o) : OV G π' H' a o := by
  cases o with
  | lst ds => obtain ⟨xs, h, q⟩ := h; exact ⟨xs, e.trans h, q.step s _ _⟩
  | dic ds => obtain ⟨xs, h, q⟩ := h; exact ⟨xs, e.trans h, q.step s _ _⟩
  | dicL ds => obtain ⟨o, xs, h, q⟩ := h; exact ⟨o, xs, e.trans h, q.step s _ _⟩
  | ins c fs => obtain ⟨C, dx, xs, g, h, q⟩ := h; exact ⟨C, dx, xs, g, e.trans h, q.step s _ _⟩
structure Good (G : Gx) (π : List Addr) (h : Hm) (H : Hp) : Prop where
  len : π.length = h.length
  nd : π.Nodup
  ob : ∀ (i : Nat) (a : Addr) (o : O), π[i]? = some a → h[i]? = some o → OV G π H a o
  tabs : LamX.Tabs G.T H
  tout : ∀ p ∈ G.T, p.1 ∉ π
section
variable {G : Gx} {π π' : List Addr} {h h' : Hm} {H H' : Hp}
theorem Good.in_ (g : Good G π h H) {a : Addr} (m : a ∈ π) : ∃ u, H a = some u := by
  obtain ⟨i, hi, e⟩ := List.mem_iff_getElem.mp m
  have q : π[i]? = some a := by rw [List.getElem?_eq_getElem hi, e]
  obtain ⟨o, ho⟩ : ∃ o, h[i]? = some o := ⟨h[i]'(by rw [← g.len]; exact hi), List.getElem?_eq_getElem _⟩
  exact (g.ob i a o q ho).some
theorem Good.free (g : Good G π h H) {a : Addr} (n : H a = none) : a ∉ π := fun m => by
  obtain ⟨u, e⟩ := g.in_ m
  rw [n] at e
  cases e
theorem Good.at_ (g : Good G π h H) {i : Nat} {o : O} (e : h[i]? = some o) : ∃ a, π[i]? = some a ∧ OV G π H a o := by
  have hi : i < π.length := by rw [g.len]; exact (List.getElem?_eq_some_iff.mp e).1
  exact ⟨π[i], List.getElem?_eq_getElem hi, g.ob i _ o (List.getElem?_eq_getElem hi) e⟩
theorem Good.obj (g : Good G π h H) {i : Nat} {a : Addr} {o : O} (e : h[i]? = some o) (q : π[i]? = some a) : OV G π H a o := g.ob i a o q e
/-- a table is none of ours -/
theorem tab_at {P : Addr} {q : Str} {H : Hp} (t : LamX.TabS H P q) : ∃ ps, H P = some (.tbl ps) := by
  obtain ⟨ps, e, _⟩ := t
  exact ⟨ps, e⟩
/-- the tables stay -/
theorem Good.tabs_upd (g : Good G π h H) {a : Addr} {o : HO} (e : H a = none ∨ ∃ u, H a = some u ∧ ¬ (∃ ps, u = .tbl ps) ∧ ∀ c q, u ≠ LamX.CodeO c q) : LamX.Tabs G.T (upd H a o) := fun p hp => by
  obtain ⟨ps, e1, e2, e3⟩ := g.tabs p hp
  have n1 : p.1 ≠ a := fun z => by
    rw [z] at e1
    rcases e with e | ⟨u, e, n, _⟩
    · rw [e] at e1; cases e1
    · rw [e] at e1; cases e1; exact n ⟨_, rfl⟩
  refine ⟨ps, by rw [upd_ne n1]; exact e1, e2, fun pos cv hc => ?_⟩
  obtain ⟨c, h1, h2⟩ := e3 pos cv hc
  have n2 : c ≠ a := fun z => by
    rw [z] at h2
    rcases e with e | ⟨u, e, _, n⟩
    · rw [e] at h2; cases h2
    · rw [e] at h2; exact n _ _ (Option.some.inj h2)
  exact ⟨c, h1, by rw [upd_ne n2]; exact h2⟩
/-- a new thing that is none of ours (a tuple, an iterator) -/
theorem Step.other (g : Good G π h H) {a : Addr} {o : HO} (n : H a = none) : Step π H π (upd H a o) :=
  ⟨⟨[], by simp⟩, fun _ _ _ q _ => q, fun b u e _ _ => by rw [upd_ne (ne_of_none e n)]; exact e, fun b o u e => by rw [upd_ne (ne_of_none e n)]; exact e⟩
theorem Good.other (g : Good G π h H) {a : Addr} {o : HO} (n : H a = none) : Good G π h (upd H a o) := by
  have s : Step π H π (upd H a o) := Step.other g n
  refine ⟨g.len, g.nd, fun i b u e1 e2 => ?_, g.tabs_upd (.inl n), g.tout⟩
  obtain ⟨w, e⟩ := (g.ob i b u e1 e2).some
  exact (g.ob i b u e1 e2).step s (upd_ne (ne_of_none e n))
/-- a new object of ours -/
theorem Step.new (g : Good G π h H) {a : Addr} {u : HO} (n : H a = none) : Step π H (π ++ [a]) (upd H a u) := by
  refine ⟨⟨[a], rfl⟩, fun b o e q _ m => ?_, fun b o e _ _ => by rw [upd_ne (ne_of_none e n)]; exact e, fun b o u e => by rw [upd_ne (ne_of_none e n)]; exact e⟩
  rcases List.mem_append.mp m with m | m
  · exact q m
  · rw [List.mem_singleton] at m
    exact ne_of_none e n m
theorem Good.new (g : Good G π h H) {a : Addr} {u : HO} {o : O} (n : H a = none) (w : OV G (π ++ [a]) (upd H a u) a o) : Good G (π ++ [a]) (h ++ [o]) (upd H a u) := by
  have s := Step.new (u := u) g n
  refine ⟨by rw [List.length_append, List.length_append, g.len] <;> rfl, ?_, fun i b v e1 e2 => ?_, g.tabs_upd (.inl n), fun p hp m => ?_⟩
  · rw [List.nodup_append]
    refine ⟨g.nd, by simp, fun x hx y hy z => ?_⟩
    rw [List.mem_singleton] at hy
    rw [z, hy] at hx
    exact g.free n hx
  · by_cases hi : i < π.length
    · rw [List.getElem?_append_left hi] at e1
      rw [List.getElem?_append_left (by rw [← g.len]; exact hi)] at e2
      obtain ⟨w', e⟩ := (g.ob i b v e1 e2).some
      exact (g.ob i b v e1 e2).step s (upd_ne (ne_of_none e n))
    · have h1 := (List.getElem?_eq_some_iff.mp e1).1
      have hi' : i = π.length := by
        rw [List.length_append, List.length_singleton] at h1
        omega
      subst hi'
      rw [List.getElem?_append_right (Nat.le_refl _), Nat.sub_self] at e1
      rw [List.getElem?_append_right (by rw [g.len]; exact Nat.le_refl _), g.len, Nat.sub_self] at e2
      have e1' : a = b := Option.some.inj e1
      have e2' : o = v := Option.some.inj e2
      subst e1' e2'
      exact w
  · rcases List.mem_append.mp m with m | m
    · exact g.tout p hp m
    · rw [List.mem_singleton] at m
      obtain ⟨ps, e⟩ := tab_at (g.tabs p hp)
      rw [m, n] at e
      cases e
theorem nodup_ix' {α : Type} {l : List α} (hN : l.Nodup) {i j : Nat} {x : α} (a : l[i]? = some x) (b : l[j]? = some x) : i = j := by
  obtain ⟨h1, e1⟩ := List.getElem?_eq_some_iff.mp a
  obtain ⟨h2, e2⟩ := List.getElem?_eq_some_iff.mp b
  exact (List.getElem_inj hN).mp (e1.trans e2.symm)
theorem nfz {a : Addr} {v : HO} (e : H a = some v) (n : ∀ o u, v ≠ .frz o u) : ∀ o u, H a ≠ some (.frz o u) := fun o u z => n o u (Option.some.inj (e.symm.trans z))
/-- an object of ours changes -/
theorem Step.put {i : Nat} {a : Addr} {u : HO} (m : π[i]? = some a) (nf : ∀ o u, H a ≠ some (.frz o u)) : Step π H π (upd H a u) := by
  have ma := List.mem_of_getElem? m
  exact ⟨⟨[], by simp⟩, fun _ _ _ q _ => q, fun b o e q _ => by rw [upd_ne (show b ≠ a from fun z => q (by rw [z]; exact ma))]; exact e, fun b o u e => by rw [upd_ne (show b ≠ a from fun z => nf o u (by rw [← z]; exact e))]; exact e⟩
theorem Good.put (g : Good G π h H) {i : Nat} {a : Addr} {u : HO} {o : O} (m : π[i]? = some a) (nf : ∀ o u, H a ≠ some (.frz o u)) (w : OV G π (upd H a u) a o) : Good G π (h.set i o) (upd H a u) := by
  have s : Step π H π (upd H a u) := Step.put m nf
  have hi : i < h.length := by rw [← g.len]; exact (List.getElem?_eq_some_iff.mp m).1
  have tb : ∀ b v, b ∈ π → H b = some v → (¬ ∃ ps, v = .tbl ps) ∧ ∀ c q, v ≠ LamX.CodeO c q := fun b v hb e => by
    obtain ⟨j, hj, ej⟩ := List.mem_iff_getElem.mp hb
    have q : π[j]? = some b := by rw [List.getElem?_eq_getElem hj, ej]
    have ho : h[j]? = some (h[j]'(by rw [← g.len]; exact hj)) := List.getElem?_eq_getElem _
    have z := g.ob j b _ q ho
    generalize h[j]'(by rw [← g.len]; exact hj) = oo at z
    cases oo with
    | lst ds => obtain ⟨xs, z, _⟩ := z; rw [e] at z; cases z; exact ⟨fun ⟨ps, z⟩ => (by cases z), fun c q z => (by unfold LamX.CodeO at z; cases z)⟩
    | dic ds => obtain ⟨xs, z, _⟩ := z; rw [e] at z; cases z; exact ⟨fun ⟨ps, z⟩ => (by cases z), fun c q z => (by unfold LamX.CodeO at z; cases z)⟩
    | dicL ds => obtain ⟨o, xs, z, _⟩ := z; rw [e] at z; cases z; exact ⟨fun ⟨ps, z⟩ => (by cases z), fun c q z => (by unfold LamX.CodeO at z; cases z)⟩
    | ins c fs => obtain ⟨C, dx, xs, _, z, _⟩ := z; rw [e] at z; cases z; exact ⟨fun ⟨ps, z⟩ => (by cases z), fun c q z => (by unfold LamX.CodeO at z; cases z)⟩
  obtain ⟨v0, e0⟩ := g.in_ (List.mem_of_getElem? m)
  obtain ⟨t1, t2⟩ := tb a v0 (List.mem_of_getElem? m) e0
  refine ⟨by rw [List.length_set]; exact g.len, g.nd, fun j b v e1 e2 => ?_, g.tabs_upd (.inr ⟨v0, e0, t1, t2⟩), g.tout⟩
  by_cases hj : j = i
  · subst hj
    rw [m] at e1
    cases e1
    rw [List.getElem?_set_self hi] at e2
    cases e2
    exact w
  · rw [List.getElem?_set_ne (Ne.symm hj)] at e2
    have ne : b ≠ a := fun z => hj (nodup_ix' g.nd e1 (by rw [z]; exact m))
    exact (g.ob j b v e1 e2).step s (upd_ne ne)
end
end MM

namespace MM
open PySem L2

abbrev gx (X : Cx) (T : List (Addr × Str)) : Gx := ⟨X.K, X.mg, T⟩
structure EnvOk (G : Gx) (π : List Addr) (H : Hp) (env : Ev) (σ : L2.St) : Prop where
  len : σ.length = env.length
  get : ∀ (i : Nat) (d : D), env[i]? = some (some d) → ∃ v, σ[i]? = some (some v) ∧ DV G.K π H d v
structure S (G : Gx) (π : List Addr) (env : Ev) (h : Hm) (σ : L2.St) (H : Hp) : Prop where
  good : Good G π h H
  env : EnvOk G π H env σ
def ExV (G : Gx) (π : List Addr) (H : Hp) (x : Ex) (cls : Value) (d : Option Addr) : Prop :=
  ∃ C, G.mg x.cls = some (.ref C) ∧ cls = .ref C ∧ match d with
    | none => x.fs = []
    | some dx => ∃ xs, H dx = some (.xd xs) ∧ dx ∉ π ∧ DPs G.K π H x.fs xs
def Post (G : Gx) (W : WX) (π : List Addr) (σ : L2.St) (H : Hp) {α : Type} (r : R α) (Q : List Addr → Hp → Hm → α → Prop) : Prop := match r with
  | .ok a h' => ∀ π' H', Step π H π' H' → Good G π' h' H' → Q π' H' h' a
  | .exn x h' => ∀ π' H' cls d, Step π H π' H' → Good G π' h' H' → ExV G π' H' x cls d → W cls d σ H'
  | .bad => False
section
variable {G : Gx} {W : WX} {π π' : List Addr} {σ : L2.St} {H H' : Hp} {env : Ev} {h h' : Hm} {α β : Type}
theorem EnvOk.step (s : Step π H π' H') (e : EnvOk G π H env σ) : EnvOk G π' H' env σ := ⟨e.len, fun i d q => by
  obtain ⟨v, h1, h2⟩ := e.get i d q
  exact ⟨v, h1, h2.step s _ _⟩⟩
theorem EnvOk.set (e : EnvOk G π H env σ) {d : D} {v : V} (q : DV G.K π H d v) (i : Nat) : EnvOk G π H (env.set i (some d)) (σ.set i (some v)) := by
  refine ⟨by rw [List.length_set, List.length_set, e.len], fun j d' g => ?_⟩
  by_cases hj : j = i
  · subst hj
    have hl : j < env.length := by
      have z := (List.getElem?_eq_some_iff.mp g).1
      rw [List.length_set] at z
      exact z
    rw [List.getElem?_set_self hl] at g
    cases g
    exact ⟨v, List.getElem?_set_self (by rw [e.len]; exact hl), q⟩
  · rw [List.getElem?_set_ne (Ne.symm hj)] at g
    obtain ⟨w, h1, h2⟩ := e.get j d' g
    exact ⟨w, by rw [List.getElem?_set_ne (Ne.symm hj)]; exact h1, h2⟩
theorem EnvOk.gone (e : EnvOk G π H env σ) (i : Nat) : EnvOk G π H (env.set i none) (σ.set i none) := by
  refine ⟨by rw [List.length_set, List.length_set, e.len], fun j d' g => ?_⟩
  by_cases hj : j = i
  · subst hj
    have hl : j < env.length := by
      have z := (List.getElem?_eq_some_iff.mp g).1
      rw [List.length_set] at z
      exact z
    rw [List.getElem?_set_self hl] at g
    cases g
  · rw [List.getElem?_set_ne (Ne.symm hj)] at g
    obtain ⟨w, h1, h2⟩ := e.get j d' g
    exact ⟨w, by rw [List.getElem?_set_ne (Ne.symm hj)]; exact h1, h2⟩
theorem S.step (s : Step π H π' H') (g : Good G π' h' H') (x : S G π env h σ H) : S G π' env h' σ H' := ⟨g, x.env.step s⟩
theorem Post.mono {r : R α} {Q Q' : List Addr → Hp → Hm → α → Prop} (p : Post G W π σ H r Q) (w : ∀ π' H' h' a, Step π H π' H' → Good G π' h' H' → Q π' H' h' a → Q' π' H' h' a) : Post G W π σ H r Q' := by
  cases r with
  | ok a h' => exact fun π' H' s g => w _ _ _ _ s g (p π' H' s g)
  | exn x h' => exact p
  | bad => exact p
theorem Post.bind {r : R α} {k : α → Hm → R β} {Q : List Addr → Hp → Hm → β → Prop} (p : Post G W π σ H (r.bind k) Q) : Post G W π σ H r fun π' H' h' a => Post G W π' σ H' (k a h') Q := by
  cases r with
  | ok a h' =>
    intro π' H' s g
    have p' : Post G W π σ H (k a h') Q := p
    generalize k a h' = z at p' ⊢
    cases z with
    | ok b h2 => exact fun π2 H2 s2 g2 => p' π2 H2 (s.trans s2) g2
    | exn x h2 => exact fun π2 H2 cls d s2 g2 e => p' π2 H2 cls d (s.trans s2) g2 e
    | bad => exact p'
  | exn x h' => exact p
  | bad => exact p
end
/-- an expression's run, as a reading -/
def tE (G : Gx) (W : WX) (m : Ev → Hm → R D) : TE := fun σ H Q => ∃ π env h, S G π env h σ H ∧ Post G W π σ H (m env h) fun π' H' _ d => ∀ v, DV G.K π' H' d v → Q v H'
def tB' (G : Gx) (W : WX) (m : Ev → Hm → R Bool) : TT := fun σ H Q => ∃ π env h, S G π env h σ H ∧ Post G W π σ H (m env h) fun _ H' _ b => Q b H'
def tL (G : Gx) (W : WX) (m : Ev → Hm → R (List D)) : TA := fun σ H Q => ∃ π env h, S G π env h σ H ∧ Post G W π σ H (m env h) fun π' H' _ ds => ∀ vs, DVs G.K π' H' ds vs → Q vs H'
theorem PE.of {X : Cx} {e : Expr} {t t' : TE} (p : PE X e t) (w : ∀ σ H Q, t' σ H Q → t σ H Q) : PE X e t' := ⟨fun pins s σ H Q I h => p.run pins s σ H Q I (w σ H Q h)⟩
theorem PT.of {X : Cx} {e : Expr} {t t' : TT} (p : PT X e t) (w : ∀ σ H Q, t' σ H Q → t σ H Q) : PT X e t' := ⟨fun pins s σ H Q I h => p.run pins s σ H Q I (w σ H Q h)⟩
theorem PA.of {X : Cx} {e : List Expr} {t t' : TA} (p : PA X e t) (w : ∀ σ H Q, t' σ H Q → t σ H Q) : PA X e t' := ⟨fun pos pins s σ H Q I h => p.run pos pins s σ H Q I (w σ H Q h)⟩
theorem PS.of {X : Cx} {e : Stmt} {t t' : TS} (p : PS X e t) (w : ∀ D σ H, t' D σ H → t D σ H) : PS X e t' := ⟨fun pins s σ H D I h => p.run pins s σ H D I (w D σ H h)⟩
theorem PSs.of {X : Cx} {e : List Stmt} {t t' : TS} (p : PSs X e t) (w : ∀ D σ H, t' D σ H → t D σ H) : PSs X e t' := ⟨fun pins s σ H D I h => p.run pins s σ H D I (w D σ H h)⟩
abbrev Em (X : Cx) (T : List (Addr × Str)) (W : WX) (e : Expr) (m : Ev → Hm → R D) : Prop := PE X e (tE (gx X T) W m)
abbrev Tm (X : Cx) (T : List (Addr × Str)) (W : WX) (e : Expr) (m : Ev → Hm → R Bool) : Prop := PT X e (tB' (gx X T) W m)
abbrev Am (X : Cx) (T : List (Addr × Str)) (W : WX) (e : List Expr) (m : Ev → Hm → R (List D)) : Prop := PA X e (tL (gx X T) W m)

def mC (d : D) : Ev → Hm → R D := fun _ h => .ok d h
def mVar (i : Nat) : Ev → Hm → R D := fun env h => match env[i]? with
  | some (some d) => .ok d h
  | _ => .bad
/-- a two-place operation on data -/
abbrev F2 := D → D → Hm → R D
def m2 (f : F2) (a b : Ev → Hm → R D) : Ev → Hm → R D := fun env h => (a env h).bind fun x h1 => (b env h1).bind fun y h2 => f x y h2
def mNil : Ev → Hm → R (List D) := fun _ h => .ok [] h
def mCons (a : Ev → Hm → R D) (r : Ev → Hm → R (List D)) : Ev → Hm → R (List D) := fun env h => (a env h).bind fun x h1 => (r env h1).bind fun xs h2 => .ok (x :: xs) h2
def mTup (r : Ev → Hm → R (List D)) : Ev → Hm → R D := fun env h => (r env h).bind fun xs h1 => .ok (.tup xs) h1
def mLst (r : Ev → Hm → R (List D)) : Ev → Hm → R D := fun env h => (r env h).bind fun xs h1 => .ok (.ref h1.length) (h1 ++ [.lst xs])
section
variable {X : Cx} {T : List (Addr × Str)} {W : WX} {a b e : Expr} {es : List Expr} {ma mb me : Ev → Hm → R D} {mr : Ev → Hm → R (List D)} {pos : Pos}
theorem em_int {i j} : Em X T W (.Constant (.int i) j pos) (mC (.int i)) := PE.of pe_int fun σ H Q ⟨π, env, h, s, p⟩ => p π H Step.refl s.good _ rfl
theorem em_bl {i j} : Em X T W (.Constant (.bool i) j pos) (mC (.bl i)) := PE.of pe_bl fun σ H Q ⟨π, env, h, s, p⟩ => p π H Step.refl s.good _ rfl
theorem em_non {j} : Em X T W (.Constant .none j pos) (mC .non) := PE.of pe_non fun σ H Q ⟨π, env, h, s, p⟩ => p π H Step.refl s.good _ rfl
theorem em_str {i j} : Em X T W (.Constant (.str i) j pos) (mC (.str i)) := PE.of pe_str fun σ H Q ⟨π, env, h, s, p⟩ => p π H Step.refl s.good _ rfl
theorem em_var (i : Nat) {x : Str} (hN : X.N[i]? = some x := by rfl) (hv : Vis X.env.scope x := by first | exact Or.inl rfl | exact Or.inr (Or.inl rfl) | exact Or.inr (Or.inr rfl)) (hd : (x == ("__debug__" : Str)) = false := by rfl)
    (hcd : (x == ("__classdict__" : Str)) = false := by rfl) : Em X T W (.Name x pos) (mVar i) := PE.of (pe_var hN hv hd hcd) fun σ H Q ⟨π, env, h, s, p⟩ => by
  cases q : env[i]? with
  | none => simp only [mVar, q] at p; exact p.elim
  | some o =>
    cases o with
    | none => simp only [mVar, q] at p; exact p.elim
    | some d =>
      obtain ⟨v, h1, h2⟩ := s.env.get i d q
      simp only [mVar, q] at p
      exact ⟨v, h1, p π H Step.refl s.good v h2⟩
/-- a value of the module -/
theorem em_glob {x : Str} {d : D} {v : V} {u : Value} (hg : Gl X x) (hm : X.mg x = some u) (r : RelV v u) (hd : ∀ π H, DV X.K π H d v) (hdb : (x == ("__debug__" : Str)) = false := by rfl) : Em X T W (.Name x pos) (mC d) :=
  PE.of (pe_glob hg hm r hdb) fun σ H Q ⟨π, env, h, s, p⟩ => p π H Step.refl s.good _ (hd π H)
/-- what a rule of the hand layer does, in data -/
def Op2 (G : Gx) (r : R2) (f : F2) : Prop := ∀ (W : WX) (π : List Addr) (σ : L2.St) (h : Hm) (H : Hp) (d e : D) (x y : V) (Q : VK), Good G π h H → DV G.K π H d x → DV G.K π H e y → Post G W π σ H (f d e h) (fun π' H' _ z => ∀ v, DV G.K π' H' z v → Q v H') → r x y H Q
theorem chain2 {r : R2} {f : F2} (ho : Op2 (gx X T) r f) {σ : L2.St} {H : Hp} {Q : VK} (p : tE (gx X T) W (m2 f ma mb) σ H Q) : tOp r (tE (gx X T) W ma) (tE (gx X T) W mb) σ H Q := by
  obtain ⟨π, env, h, s, p⟩ := p
  refine ⟨π, env, h, s, p.bind.mono fun π1 H1 h1 d s1 g1 p1 x dx => ?_⟩
  refine ⟨π1, env, h1, s.step s1 g1, p1.bind.mono fun π2 H2 h2 e s2 g2 p2 y ey => ?_⟩
  exact ho W π2 σ h2 H2 d e x y Q g2 (dx.step s2 _ _) ey p2
theorem em_op {op : Operator} {r : R2} {f : F2} (hr : OpR X (binaryOp op) r) (ho : Op2 (gx X T) r f) (ha : Em X T W a ma) (hb : Em X T W b mb) : Em X T W (.BinOp a op b pos) (m2 f ma mb) :=
  PE.of (pe_op hr ha hb) fun σ H Q p => chain2 ho p
theorem em_cmp {op : CmpOp} {r : R2} {f : F2} (hr : OpR X (compareOp op) r) (ho : Op2 (gx X T) r f) (ha : Em X T W a ma) (hb : Em X T W b mb) (hm : behindInMarks op b = false) : Em X T W (.Compare a [op] [b] pos) (m2 f ma mb) :=
  PE.of (pe_cmpR hr ha hb hm) fun σ H Q p => chain2 ho p
theorem am_nil : Am X T W [] mNil := PA.of pa_nil fun σ H Q ⟨π, env, h, s, p⟩ => p π H Step.refl s.good _ rfl
theorem am_cons (ha : Em X T W e me) (hr : Am X T W es mr) (hs : starEach (e :: es) X.env = (false, eval e X.env) :: starEach es X.env := by rfl) : Am X T W (e :: es) (mCons me mr) :=
  PA.of (pa_cons ha hr hs) fun σ H Q ⟨π, env, h, s, p⟩ => by
    refine ⟨π, env, h, s, p.bind.mono fun π1 H1 h1 d s1 g1 p1 x dx => ?_⟩
    refine ⟨π1, env, h1, s.step s1 g1, p1.bind.mono fun π2 H2 h2 e s2 g2 p2 y ey => ?_⟩
    exact p2 π2 H2 Step.refl g2 _ ⟨x, y, rfl, dx.step s2 _ _, ey⟩
end
end MM

namespace MM
open PySem L2

theorem szl {n : Nat} (h : n ≤ 16777216) : n ≤ sizeLine := by rw [sizeLine_eq]; exact h
theorem szl' {n : Nat} (h : n < 16777216) : n < sizeLine := by rw [sizeLine_eq]; exact h
section
variable {G : Gx} {π : List Addr} {h : Hm} {H : Hp} {α : Type}
theorem post_ok {W : WX} {σ : L2.St} {a : α} {Q : List Addr → Hp → Hm → α → Prop} (g : Good G π h H) (p : Post G W π σ H (.ok a h) Q) : Q π H h a := p π H Step.refl g
/-- an answer that stands by itself -/
theorem post_val {W : WX} {σ : L2.St} {d : D} {v : V} {Q : VK} (g : Good G π h H) (p : Post G W π σ H (.ok d h) fun π' H' _ z => ∀ v, DV G.K π' H' z v → Q v H') (e : DV G.K π H d v) : Q v H := p π H Step.refl g v e
/-- a new tuple -/
theorem post_tup {W : WX} {σ : L2.St} {ds : List D} {xs : List V} {Q : VK} (g : Good G π h H) (p : Post G W π σ H (.ok (.tup ds) h) fun π' H' _ z => ∀ v, DV G.K π' H' z v → Q v H') (e : DVs G.K π H ds xs) (a : Addr) (n : H a = none) : Q (.ref a) (upd H a (.tup xs)) :=
  p π _ (Step.other g n) (g.other n) _ ⟨a, xs, rfl, .inl ⟨upd_same, g.free n⟩, e.step (Step.other g n) _ _⟩
/-- a new list -/
theorem post_lst {W : WX} {σ : L2.St} {ds : List D} {xs : List V} {Q : VK} (g : Good G π h H) (p : Post G W π σ H (.ok (.ref h.length) (h ++ [.lst ds])) fun π' H' _ z => ∀ v, DV G.K π' H' z v → Q v H') (e : DVs G.K π H ds xs) (a : Addr) (n : H a = none) : Q (.ref a) (upd H a (.lst xs)) := by
  have s := Step.new (a := a) (u := .lst xs) g n
  refine p (π ++ [a]) _ s (g.new n ⟨xs, upd_same, e.step s _ _⟩) _ ⟨a, ?_, rfl⟩
  rw [List.getElem?_append_right (by rw [g.len]; exact Nat.le_refl _), g.len, Nat.sub_self] <;> rfl
/-- a list of ours, read -/
theorem Good.lst (g : Good G π h H) {i : Nat} {ds : List D} {a : Addr} (e : h[i]? = some (.lst ds)) (q : π[i]? = some a) : ∃ xs, H a = some (.lst xs) ∧ DVs G.K π H ds xs := g.obj e q
end

def fAdd : F2 := fun x y h => match x, y with
  | .int a, .int b => .ok (.int (a + b)) h
  | .str a, .str b => if a.length + b.length ≤ 16777216 then .ok (.str (a ++ b)) h else .bad
  | .tup a, .tup b => if a.length + b.length ≤ 16777216 then .ok (.tup (a ++ b)) h else .bad
  | .ref i, .ref j => match h[i]?, h[j]? with
    | some (.lst a), some (.lst b) => if a.length + b.length ≤ 16777216 then .ok (.ref h.length) (h ++ [.lst (a ++ b)]) else .bad
    | _, _ => .bad
  | _, _ => .bad
def rAddM (K : PySem.W.Frag) : R2 := fun x y H Q => rI0 (fun i j => .int (i + j)) x y H Q ∨ (∃ i j, x = .str i ∧ y = .str j ∧ i.length + j.length ≤ sizeLine ∧ Q (.str (i ++ j)) H) ∨ rCatA K x y H Q ∨ rCat x y H Q
theorem or_add {X : Cx} : OpR X (binaryOp .Add) (rAddM X.K) := op_add.or (op_add_str.or (op_catA.or op_cat))
theorem o2_add {G : Gx} : Op2 G (rAddM G.K) fAdd := by
  intro W π σ h H d e x y Q g dx ey p
  unfold fAdd at p
  split at p
  · obtain rfl := (show x = _ from dx)
    obtain rfl := (show y = _ from ey)
    exact .inl ⟨_, _, rfl, rfl, post_val g p rfl⟩
  · obtain rfl := (show x = _ from dx)
    obtain rfl := (show y = _ from ey)
    split at p
    · rename_i hl
      exact .inr (.inl ⟨_, _, rfl, rfl, szl hl, post_val g p rfl⟩)
    · exact p.elim
  · obtain ⟨a, xs, rfl, ta, da⟩ := dx
    obtain ⟨b, ys, rfl, tb, db⟩ := ey
    split at p
    · rename_i hl
      refine .inr (.inr (.inl ⟨a, b, xs, ys, rfl, rfl, ta.sq, tb.sq, szl (by rw [da.len, db.len]; exact hl), fun z => ?_, fun z1 z2 => ?_, fun z1 z2 q n => ?_⟩))
      · subst z
        have e0 := da.len
        have e1 : _ = [] := List.length_eq_zero_iff.mp e0.symm
        subst e1
        exact post_val g p ⟨b, ys, rfl, tb, db⟩
      · subst z2
        have e0 := db.len
        have e1 : _ = [] := List.length_eq_zero_iff.mp e0.symm
        subst e1
        rw [List.append_nil] at p
        exact post_val g p ⟨a, xs, rfl, ta, da⟩
      · exact post_tup g p (da.app db) q n
    · exact p.elim
  · obtain ⟨a, qa, rfl⟩ := dx
    obtain ⟨b, qb, rfl⟩ := ey
    split at p
    · rename_i u v e1 e2
      split at p
      · rename_i hl
        obtain ⟨xs, ha, da⟩ := g.lst e1 qa
        obtain ⟨ys, hb, db⟩ := g.lst e2 qb
        exact .inr (.inr (.inr ⟨a, b, xs, ys, rfl, rfl, ha, hb, szl (by rw [da.len, db.len]; exact hl), fun q n => post_lst g p (da.app db) q n⟩))
      · exact p.elim
    · exact p.elim
  · exact p.elim

def fI (f : Int → Int → Option D) : F2 := fun x y h => match x, y with
  | .int a, .int b => match f a b with
    | some d => .ok d h
    | none => .bad
  | _, _ => .bad
theorem o2_int {G : Gx} {r : R2} {f : Int → Int → Option D} (w : ∀ i j d H Q v, f i j = some d → DV G.K [] H d v → Q v H → r (.int i) (.int j) H Q) (flat : ∀ i j d, f i j = some d → (∃ k, d = .int k) ∨ ∃ b, d = .bl b) : Op2 G r (fI f) := by
  intro W π σ h H d e x y Q g dx ey p
  unfold fI at p
  split at p
  · rename_i i j
    obtain rfl := (show x = _ from dx)
    obtain rfl := (show y = _ from ey)
    cases q : f i j with
    | none => rw [q] at p; exact p.elim
    | some z =>
      rw [q] at p
      rcases flat i j z q with ⟨k, rfl⟩ | ⟨b, rfl⟩
      · exact w i j _ H Q _ q rfl (post_val g p rfl)
      · exact w i j _ H Q _ q rfl (post_val g p rfl)
  · exact p.elim
theorem o2_I0 {G : Gx} {g : Int → Int → Int} : Op2 G (rI0 fun i j => .int (g i j)) (fI fun i j => some (.int (g i j))) :=
  o2_int (fun i j d H Q v e dv q => by cases e; obtain rfl := (show v = _ from dv); exact ⟨i, j, rfl, rfl, q⟩) (fun i j d e => by cases e; exact .inl ⟨_, rfl⟩)
theorem o2_B0 {G : Gx} {g : Int → Int → Bool} : Op2 G (rI0 fun i j => .bl (g i j)) (fI fun i j => some (.bl (g i j))) :=
  o2_int (fun i j d H Q v e dv q => by cases e; obtain rfl := (show v = _ from dv); exact ⟨i, j, rfl, rfl, q⟩) (fun i j d e => by cases e; exact .inr ⟨_, rfl⟩)
theorem o2_IC {G : Gx} {C : Int → Int → Prop} [∀ i j, Decidable (C i j)] {g : Int → Int → Int} : Op2 G (rI C fun i j => .int (g i j)) (fI fun i j => if C i j then some (.int (g i j)) else none) :=
  o2_int (fun i j d H Q v e dv q => by
    by_cases hc : C i j
    · rw [if_pos hc] at e
      cases e
      obtain rfl := (show v = _ from dv)
      exact ⟨i, j, rfl, rfl, hc, q⟩
    · rw [if_neg hc] at e
      cases e) (fun i j d e => by
    by_cases hc : C i j
    · rw [if_pos hc] at e
      cases e
      exact .inl ⟨_, rfl⟩
    · rw [if_neg hc] at e
      cases e)
def fSub : F2 := fI fun i j => some (.int (i - j))
instance {i j : Int} : Decidable (CMul i j) := inferInstanceAs (Decidable ((-(2 ^ 64) < i ∧ i < 2 ^ 64) ∨ (-(2 ^ 64) < j ∧ j < 2 ^ 64)))
instance {i j : Int} : Decidable (CDivN i j) := inferInstanceAs (Decidable (j ≠ 0 ∧ j.natAbs < 1073741824))
instance {i j : Int} : Decidable (CPow i j) := inferInstanceAs (Decidable (0 ≤ j ∧ j ≤ 1000000 ∧ i.natAbs < 2 ^ 64))
def fMulI : F2 := fI fun i j => if CMul i j then some (.int (i * j)) else none
def fDiv : F2 := fI fun i j => if CDivN i j then some (.int (i.fdiv j)) else none
def fMod : F2 := fI fun i j => if j ≠ 0 then some (.int (i.fmod j)) else none
def fPow : F2 := fI fun i j => if CPow i j then some (.int (i ^ j.toNat)) else none
def fLt : F2 := fI fun i j => some (.bl (decide (i < j)))
def fLe : F2 := fI fun i j => some (.bl (decide (i ≤ j)))
def fGt : F2 := fI fun i j => some (.bl (decide (j < i)))
def fGe : F2 := fI fun i j => some (.bl (decide (j ≤ i)))
/-- * of numbers, of a list by a number, of a tuple by a number -/
def fMul : F2 := fun x y h => match x, y with
  | .int _, .int _ => fMulI x y h
  | .ref i, .int k => match h[i]? with
    | some (.lst a) => if -(2 ^ 63) ≤ k ∧ k < 2 ^ 63 ∧ a.length * k.toNat ≤ 16777216 then .ok (.ref h.length) (h ++ [.lst (List.replicate k.toNat a).flatten]) else .bad
    | _ => .bad
  | .tup a, .int k => if a ≠ [] ∧ 2 ≤ k ∧ k ≤ 1000 ∧ a.length ≤ 1000 then .ok (.tup (List.replicate k.toNat a).flatten) h else .bad
  | _, _ => .bad
theorem DVs.rep {K : PySem.W.Frag} {π : List Addr} {H : Hp} {ds : List D} {xs : List V} (h : DVs K π H ds xs) : ∀ n : Nat, DVs K π H (List.replicate n ds).flatten (List.replicate n xs).flatten
  | 0 => rfl
  | n + 1 => by
    rw [List.replicate_succ, List.replicate_succ, List.flatten_cons, List.flatten_cons]
    exact h.app (DVs.rep h n)
def rMulM (K : PySem.W.Frag) : R2 := fun x y H Q => rI CMul (fun i j => .int (i * j)) x y H Q ∨ rRep x y H Q ∨ rRepT K x y H Q
theorem or_mul {X : Cx} : OpR X (binaryOp .Mult) (rMulM X.K) := op_mul.or (op_rep.or op_repT)
theorem o2_mul {G : Gx} : Op2 G (rMulM G.K) fMul := by
  intro W π σ h H d e x y Q g dx ey p
  unfold fMul at p
  split at p
  · exact .inl (o2_IC W π σ h H _ _ x y Q g dx ey p)
  · obtain ⟨a, qa, rfl⟩ := dx
    obtain rfl := (show y = _ from ey)
    split at p
    · rename_i e1
      split at p
      · rename_i hl
        obtain ⟨xs, ha, da⟩ := g.lst e1 qa
        exact .inr (.inl ⟨a, _, xs, rfl, rfl, ha, hl.1, hl.2.1, szl (by rw [da.len]; exact hl.2.2), fun q n => post_lst g p (da.rep _) q n⟩)
      · exact p.elim
    · exact p.elim
  · obtain ⟨a, xs, rfl, ta, da⟩ := dx
    obtain rfl := (show y = _ from ey)
    split at p
    · rename_i hl
      refine .inr (.inr ⟨a, _, xs, rfl, rfl, ta.sq, fun z => hl.1 ?_, hl.2.1, hl.2.2.1, by rw [da.len]; exact hl.2.2.2, fun q n => post_tup g p (da.rep _) q n⟩)
      subst z
      exact List.length_eq_zero_iff.mp da.len.symm
    · exact p.elim
  · exact p.elim
section
variable {X : Cx} {T : List (Addr × Str)} {W : WX} {a b : Expr} {ma mb : Ev → Hm → R D} {pos : Pos}
theorem em_add (ha : Em X T W a ma) (hb : Em X T W b mb) : Em X T W (.BinOp a .Add b pos) (m2 fAdd ma mb) := em_op or_add o2_add ha hb
theorem em_sub (ha : Em X T W a ma) (hb : Em X T W b mb) : Em X T W (.BinOp a .Sub b pos) (m2 fSub ma mb) := em_op op_sub o2_I0 ha hb
theorem em_mul (ha : Em X T W a ma) (hb : Em X T W b mb) : Em X T W (.BinOp a .Mult b pos) (m2 fMul ma mb) := em_op or_mul o2_mul ha hb
theorem em_div (ha : Em X T W a ma) (hb : Em X T W b mb) : Em X T W (.BinOp a .FloorDiv b pos) (m2 fDiv ma mb) := em_op op_fdivN o2_IC ha hb
theorem em_mod (ha : Em X T W a ma) (hb : Em X T W b mb) : Em X T W (.BinOp a .Mod b pos) (m2 fMod ma mb) := em_op op_modN o2_IC ha hb
theorem em_pow (ha : Em X T W a ma) (hb : Em X T W b mb) : Em X T W (.BinOp a .Pow b pos) (m2 fPow ma mb) := em_op op_pow o2_IC ha hb
theorem em_lt (ha : Em X T W a ma) (hb : Em X T W b mb) : Em X T W (.Compare a [.Lt] [b] pos) (m2 fLt ma mb) := em_cmp op_lt o2_B0 ha hb (nomark _)
theorem em_le (ha : Em X T W a ma) (hb : Em X T W b mb) : Em X T W (.Compare a [.LtE] [b] pos) (m2 fLe ma mb) := em_cmp op_le o2_B0 ha hb (nomark _)
theorem em_gt (ha : Em X T W a ma) (hb : Em X T W b mb) : Em X T W (.Compare a [.Gt] [b] pos) (m2 fGt ma mb) := em_cmp op_gt o2_B0 ha hb (nomark _)
theorem em_ge (ha : Em X T W a ma) (hb : Em X T W b mb) : Em X T W (.Compare a [.GtE] [b] pos) (m2 fGe ma mb) := em_cmp op_ge o2_B0 ha hb (nomark _)
end
end MM

namespace MM
open PySem L2

def mapO {α β : Type} (f : α → Option β) : List α → Option (List β)
  | [] => some []
  | a :: as => match f a with
    | some b => match mapO f as with
      | some bs => some (b :: bs)
      | none => none
    | none => none
/-- a datum as the library's plain data -/
def py (h : Hm) : Nat → D → Option PyData
  | 0, _ => none
  | n + 1, d => match d with
    | .non => some .none
    | .bl b => some (.bool b)
    | .int i => some (.int i)
    | .str x => if PyData.canLay0 (.str x) = true then some (.str x) else none
    | .tup ds => (mapO (py h n) ds).map .tuple
    | .rol ds => (mapO (py h n) ds).map .list
    | .ref i => match h[i]? with
      | some (.lst ds) => (mapO (py h n) ds).map .list
      | _ => none
section
variable {G : Gx} {π : List Addr} {h : Hm} {H : Hp}
def PyOk (q : PyData) (n : Nat) : Prop := q.canLay0 = true ∧ q.depth ≤ n
theorem pys_ok {n : Nat} (ih : ∀ d v q, DV G.K π H d v → py h n d = some q → Dp G.K H v q ∧ PyOk q n) : ∀ (ds : List D) (vs : List V) (qs : List PyData), DVs G.K π H ds vs → mapO (py h n) ds = some qs → DpAll G.K H vs qs ∧ PyData.canLayAll0 qs = true ∧ PyData.depthAll qs ≤ n
  | [], vs, qs, dv, e => by
    obtain rfl := (show vs = [] from dv)
    cases e
    exact ⟨.nil, rfl, Nat.zero_le _⟩
  | d :: ds, vs, qs, ⟨v, ws, ev, h1, h2⟩, e => by
    subst ev
    unfold mapO at e
    cases q1 : py h n d with
    | none => rw [q1] at e; cases e
    | some a =>
      cases q2 : mapO (py h n) ds with
      | none => rw [q1, q2] at e; cases e
      | some as =>
        rw [q1, q2] at e
        cases e
        obtain ⟨i1, i2, i3⟩ := ih d v a h1 q1
        obtain ⟨j1, j2, j3⟩ := pys_ok ih ds ws as h2 q2
        refine ⟨.cons i1 j1, ?_, ?_⟩
        · simp only [PyData.canLayAll0, i2, j2, Bool.and_self]
        · simp only [PyData.depthAll]
          omega
theorem map_some {α β : Type} {f : α → β} {o : Option α} {b : β} (e : o.map f = some b) : ∃ a, o = some a ∧ f a = b := by
  cases o with
  | none => cases e
  | some a => exact ⟨a, rfl, Option.some.inj e⟩
theorem py_ok (g : Good G π h H) : ∀ (n : Nat) (d : D) (v : V) (q : PyData), DV G.K π H d v → py h n d = some q → Dp G.K H v q ∧ PyOk q n
  | 0, _, _, _, _, e => by cases e
  | n + 1, d, v, q, dv, e => by
    have ih := pys_ok (G := G) (π := π) (h := h) (H := H) (py_ok g n)
    cases d with
    | non => cases e; obtain rfl := (show v = _ from dv); exact ⟨.non, rfl, Nat.zero_le _⟩
    | bl b => cases e; obtain rfl := (show v = _ from dv); exact ⟨.bl b, rfl, Nat.zero_le _⟩
    | int b => cases e; obtain rfl := (show v = _ from dv); exact ⟨.int b, rfl, Nat.zero_le _⟩
    | str x =>
      obtain rfl := (show v = _ from dv)
      have e' : (if PyData.canLay0 (.str x) = true then some (PyData.str x) else none) = some q := e
      by_cases hc : PyData.canLay0 (.str x) = true
      · rw [if_pos hc] at e'
        cases e'
        exact ⟨.str x, hc, Nat.zero_le _⟩
      · rw [if_neg hc] at e'
        cases e'
    | tup ds =>
      obtain ⟨a, xs, rfl, t, ds'⟩ := dv
      have e' : (mapO (py h n) ds).map PyData.tuple = some q := e
      obtain ⟨qs, e1, rfl⟩ := map_some e'
      obtain ⟨i1, i2, i3⟩ := ih ds xs qs ds' e1
      exact ⟨.tup t.sq i1, by simp only [PyData.canLay0]; exact i2, by simp only [PyData.depth]; omega⟩
    | rol ds =>
      obtain ⟨a, xs, rfl, t, ds'⟩ := dv
      have e' : (mapO (py h n) ds).map PyData.list = some q := e
      obtain ⟨qs, e1, rfl⟩ := map_some e'
      obtain ⟨i1, i2, i3⟩ := ih ds xs qs ds' e1
      exact ⟨.lst t.sq i1, by simp only [PyData.canLay0]; exact i2, by simp only [PyData.depth]; omega⟩
    | ref i =>
      obtain ⟨a, qa, rfl⟩ := dv
      have e' : (match h[i]? with
        | some (.lst ds) => (mapO (py h n) ds).map PyData.list
        | _ => none) = some q := e
      split at e'
      · rename_i ds e0
        obtain ⟨xs, ha, ds'⟩ := g.lst e0 qa
        obtain ⟨qs, e1, rfl⟩ := map_some e'
        obtain ⟨i1, i2, i3⟩ := ih ds xs qs ds' e1
        exact ⟨.lst (SqL.of ha) i1, by simp only [PyData.canLay0]; exact i2, by simp only [PyData.depth]; omega⟩
      · cases e'
theorem shaped_of {q : PyData} (p : PyOk q 60) : SeqAt.shaped q = true := by
  unfold SeqAt.shaped
  rw [p.1, Bool.true_and]
  exact decide_eq_true (Nat.le_trans p.2 (by decide))
end
/-- data that compare without looking at the heap -/
def flat2 : D → D → Bool
  | .non, .non => true | .non, .int _ => true | .int _, .non => true | .non, .bl _ => true | .bl _, .non => true | .non, .str _ => true | .str _, .non => true
  | .int _, .int _ => true | .bl _, .bl _ => true | .str _, .str _ => true
  | .int _, .str _ => true | .str _, .int _ => true | .bl _, .str _ => true | .str _, .bl _ => true
  | _, _ => false
def fEq : F2 := fun x y h => if flat2 x y = true then .ok (.bl (decide (x = y))) h else match py h 60 x, py h 60 y with
  | some a, some b => .ok (.bl (PyData.eqv a b)) h
  | _, _ => .bad
def fNe : F2 := fun x y h => if flat2 x y = true then .ok (.bl (!decide (x = y))) h else match py h 60 x, py h 60 y with
  | some a, some b => .ok (.bl (!PyData.eqv a b)) h
  | _, _ => .bad
def rEqM (K : PySem.W.Frag) : R2 := fun x y H Q => rEq x y H Q ∨ rEqD K x y H Q
def rNeM (K : PySem.W.Frag) : R2 := fun x y H Q => rNe x y H Q ∨ rNeD K x y H Q
theorem flat2_scal {K : PySem.W.Frag} {π : List Addr} {H : Hp} {d e : D} {x y : V} (f : flat2 d e = true) (dx : DV K π H d x) (ey : DV K π H e y) : scal x y = true ∧ decide (x = y) = decide (d = e) := by
  cases d <;> cases e <;> first
    | exact absurd f Bool.false_ne_true
    | (obtain rfl := (show x = _ from dx)
       obtain rfl := (show y = _ from ey)
       exact ⟨rfl, by simp⟩)
theorem o2_eq {G : Gx} : Op2 G (rEqM G.K) fEq := by
  intro W π σ h H d e x y Q g dx ey p
  unfold fEq at p
  split at p
  · rename_i f
    obtain ⟨h1, h2⟩ := flat2_scal f dx ey
    exact .inl ⟨h1, post_val g p (by rw [h2]; rfl)⟩
  · split at p
    · rename_i a b e1 e2
      obtain ⟨i1, i2⟩ := py_ok g _ _ _ _ dx e1
      obtain ⟨j1, j2⟩ := py_ok g _ _ _ _ ey e2
      exact .inr ⟨a, b, i1, j1, shaped_of i2, shaped_of j2, post_val g p rfl⟩
    · exact p.elim
theorem o2_ne {G : Gx} : Op2 G (rNeM G.K) fNe := by
  intro W π σ h H d e x y Q g dx ey p
  unfold fNe at p
  split at p
  · rename_i f
    obtain ⟨h1, h2⟩ := flat2_scal f dx ey
    exact .inl ⟨h1, post_val g p (by rw [h2]; rfl)⟩
  · split at p
    · rename_i a b e1 e2
      obtain ⟨i1, i2⟩ := py_ok g _ _ _ _ dx e1
      obtain ⟨j1, j2⟩ := py_ok g _ _ _ _ ey e2
      exact .inr ⟨a, b, i1, j1, shaped_of i2, shaped_of j2, post_val g p rfl⟩
    · exact p.elim

def flatD : D → Bool
  | .non => true | .bl _ => true | .int _ => true | .str _ => true
  | _ => false
def eqF : D → D → Bool
  | .non, .non => true
  | .bl a, .bl b => a == b
  | .bl a, .int b => (if a then 1 else 0) == b
  | .int a, .bl b => a == (if b then 1 else 0)
  | .int a, .int b => a == b
  | .str a, .str b => a == b
  | _, _ => false
def inF (x : D) (ds : List D) : Bool := ds.any fun y => eqF y x
def keyD : D → Option Key
  | .int i => some (.inl i)
  | .str x => some (.inr x)
  | _ => none
def getK (kvs : List (Key × D)) (k : Key) : Option D := (kvs.find? fun p => decide (p.1 = k)).map (·.2)
def fIn (neg : Bool) : F2 := fun x y h => match y with
  | .tup ds => if flatD x = true ∧ ds.all flatD = true then .ok (.bl (if neg then !inF x ds else inF x ds)) h else .bad
  | .rol ds => if flatD x = true ∧ ds.all flatD = true then .ok (.bl (if neg then !inF x ds else inF x ds)) h else .bad
  | .ref i => match h[i]? with
    | some (.lst ds) => if flatD x = true ∧ ds.all flatD = true then .ok (.bl (if neg then !inF x ds else inF x ds)) h else match py h 60 x, py h 60 (.ref i) with
      | some a, some (.list bs) => .ok (.bl (if neg then !bs.any fun z => PyData.eqv z a else bs.any fun z => PyData.eqv z a)) h
      | _, _ => .bad
    | some (.dic kvs) => match keyD x with
      | some k => .ok (.bl (if neg then !(getK kvs k).isSome else (getK kvs k).isSome)) h
      | none => .bad
    | some (.dicL kvs) => match keyD x with
      | some k => .ok (.bl (if neg then !(getK kvs k).isSome else (getK kvs k).isSome)) h
      | none => .bad
    | _ => .bad
  | .str b => match x with
    | .str a => .ok (.bl (if neg then !(!(Builtin.Str.occurrences b a 0 b.length 1).isEmpty) else !(Builtin.Str.occurrences b a 0 b.length 1).isEmpty)) h
    | _ => .bad
  | _ => .bad
section
variable {K : PySem.W.Frag} {π : List Addr} {H : Hp}
theorem flatD_V : ∀ {d : D} {x : V}, flatD d = true → DV K π H d x → flatV x = true := by
  intro d x f dx
  cases d <;> first
    | exact absurd f Bool.false_ne_true
    | (obtain rfl := (show x = _ from dx); rfl)
theorem eqF_V {d e : D} {x y : V} (f : flatD d = true) (f' : flatD e = true) (dx : DV K π H d x) (ey : DV K π H e y) : eqV x y = eqF d e := by
  cases d <;> cases e <;> first
    | exact absurd f Bool.false_ne_true
    | exact absurd f' Bool.false_ne_true
    | (obtain rfl := (show x = _ from dx)
       obtain rfl := (show y = _ from ey)
       rfl)
theorem flatDs_V : ∀ {ds : List D} {xs : List V}, ds.all flatD = true → DVs K π H ds xs → xs.all flatV = true
  | [], _, _, h => by rw [show _ = [] from h] <;> rfl
  | d :: ds, _, f, ⟨v, vs, e, h, q⟩ => by
    rw [List.all_cons, Bool.and_eq_true] at f
    rw [e, List.all_cons, flatD_V f.1 h, flatDs_V f.2 q] <;> rfl
theorem inF_V {d : D} {x : V} (f : flatD d = true) (dx : DV K π H d x) : ∀ {ds : List D} {xs : List V}, ds.all flatD = true → DVs K π H ds xs → inV x xs = inF d ds
  | [], _, _, h => by rw [show _ = [] from h] <;> rfl
  | e :: ds, _, fs, ⟨v, vs, ev, h, q⟩ => by
    rw [List.all_cons, Bool.and_eq_true] at fs
    have ih := inF_V f dx fs.2 q
    unfold inV inF at ih ⊢
    rw [ev, List.any_cons, List.any_cons, ih, eqF_V fs.1 f h dx]
theorem keyD_V {d : D} {x : V} {k : Key} (e : keyD d = some k) (dx : DV K π H d x) : x = kV k := by
  cases d <;> first
    | (cases e; obtain rfl := (show x = _ from dx); rfl)
    | cases e
theorem getK_V {κ : Key} : ∀ {kvs : List (Key × D)} {xs : List (Key × V)}, DPs K π H kvs xs → match getK kvs κ with
    | some d => ∃ v, valV xs κ = some v ∧ DV K π H d v
    | none => valV xs κ = none
  | [], _, h => by rw [show _ = [] from h] <;> rfl
  | p :: ps, _, ⟨v, vs, e, h, q⟩ => by
    have ih := getK_V (κ := κ) q
    rw [e]
    unfold getK valV at ih ⊢
    by_cases hk : p.1 = κ
    · simp only [List.find?_cons, hk, decide_true, Option.map_some]
      first
        | exact ⟨v, rfl, h⟩
        | (refine ⟨v, ?_, h⟩; simp)
    · simp only [List.find?_cons, hk, decide_false]
      first
        | exact ih
        | (simp [hk]; exact ih)
end
end MM

namespace MM
open PySem L2

def rDin (neg : Bool) : R2 := fun x y H Q => ∃ a o, y = .ref a ∧ DGet H a x o ∧ Q (.bl (if neg then !o.isSome else o.isSome)) H
theorem op_din {X : Cx} (hu : X.A.units + 1 < cLine) : OpR X (compareOp .In) (rDin false) := by
  intro pins s σ H x y v u Q I rx ry h
  obtain ⟨a, o, rfl, g, q⟩ := h
  obtain rfl : u = Value.ref a := ry
  exact d_in hu I g rx fun s3 I3 => ⟨.bl o.isSome, H, I3, rfl, q⟩
theorem op_dnotin {X : Cx} (hu : X.A.units + 1 < cLine) : OpR X (compareOp .NotIn) (rDin true) := by
  intro pins s σ H x y v u Q I rx ry h
  obtain ⟨a, o, rfl, g, q⟩ := h
  obtain rfl : u = Value.ref a := ry
  exact d_notIn hu I g rx fun s3 I3 => ⟨.bl (!o.isSome), H, I3, rfl, q⟩
def rInDn (K : PySem.W.Frag) (neg : Bool) : R2 := fun x y H Q => ∃ d ds, Dp K H x d ∧ Dp K H y (.list ds) ∧ SeqAt.shaped d = true ∧ SeqAt.shaped (.list ds) = true ∧ Q (.bl (if neg then !ds.any fun z => PyData.eqv z d else ds.any fun z => PyData.eqv z d)) H
def rInS (neg : Bool) : R2 := fun x y H Q => ∃ i j, x = .str i ∧ y = .str j ∧ Q (.bl (if neg then !(!(Builtin.Str.occurrences j i 0 j.length 1).isEmpty) else !(Builtin.Str.occurrences j i 0 j.length 1).isEmpty)) H
def rInM (K : PySem.W.Frag) (neg : Bool) : R2 := fun x y H Q => rIn K neg x y H Q ∨ rInDn K neg x y H Q ∨ rDin neg x y H Q ∨ rInS neg x y H Q
theorem or_in {X : Cx} (hu : X.A.units + 65 < cLine) : OpR X (compareOp .In) (rInM X.K false) := op_in_seq.or ((op_inD hu).or ((op_din (by omega)).or op_in_str))
theorem or_nin {X : Cx} (hu : X.A.units + 65 < cLine) : OpR X (compareOp .NotIn) (rInM X.K true) := op_notIn_seq.or ((op_notInD hu).or ((op_dnotin (by omega)).or op_notin_str))
theorem o2_in {G : Gx} {neg : Bool} : Op2 G (rInM G.K neg) (fIn neg) := by
  intro W π σ h H d e x y Q g dx ey p
  unfold fIn at p
  split at p
  · obtain ⟨a, xs, rfl, t, ds'⟩ := ey
    split at p
    · rename_i f
      refine .inl ⟨a, xs, rfl, .inr t.sq, flatD_V f.1 dx, flatDs_V f.2 ds', ?_⟩
      rw [inF_V f.1 dx f.2 ds']
      exact post_val g p rfl
    · exact p.elim
  · obtain ⟨a, xs, rfl, t, ds'⟩ := ey
    split at p
    · rename_i f
      refine .inl ⟨a, xs, rfl, .inl t.sq, flatD_V f.1 dx, flatDs_V f.2 ds', ?_⟩
      rw [inF_V f.1 dx f.2 ds']
      exact post_val g p rfl
    · exact p.elim
  · split at p
    · rename_i e0
      split at p
      · rename_i f
        obtain ⟨a, qa, rfl⟩ := ey
        obtain ⟨xs, ha, ds'⟩ := g.lst e0 qa
        refine .inl ⟨a, xs, rfl, .inl (SqL.of ha), flatD_V f.1 dx, flatDs_V f.2 ds', ?_⟩
        rw [inF_V f.1 dx f.2 ds']
        exact post_val g p rfl
      · split at p
        · rename_i a bs e1 e2
          obtain ⟨i1, i2⟩ := py_ok g _ _ _ _ dx e1
          obtain ⟨j1, j2⟩ := py_ok g _ _ _ _ ey e2
          exact .inr (.inl ⟨a, bs, i1, j1, shaped_of i2, shaped_of j2, post_val g p rfl⟩)
        · exact p.elim
    · rename_i kvs e0
      split at p
      · rename_i k ek
        obtain ⟨a, qa, rfl⟩ := ey
        obtain ⟨xs, ha, ds'⟩ := g.obj e0 qa
        obtain rfl := keyD_V ek dx
        refine .inr (.inr (.inl ⟨a, _, rfl, DGet.k ha, ?_⟩))
        have z := getK_V (κ := k) ds'
        cases q : getK kvs k with
        | none =>
          rw [q] at z p
          rw [show valV xs k = none from z]
          exact post_val g p rfl
        | some w =>
          rw [q] at z p
          obtain ⟨v, z1, z2⟩ := z
          rw [z1]
          exact post_val g p rfl
      · exact p.elim
    · rename_i kvs e0
      split at p
      · rename_i k ek
        obtain ⟨a, qa, rfl⟩ := ey
        obtain ⟨oo, xs, ha, ds'⟩ := g.obj e0 qa
        obtain rfl := keyD_V ek dx
        refine .inr (.inr (.inl ⟨a, _, rfl, Or.inl ⟨xs, _, .inr ⟨oo, ha⟩, rfl, rfl⟩, ?_⟩))
        have z := getK_V (κ := k) ds'
        cases q : getK kvs k with
        | none =>
          rw [q] at z p
          rw [show valV xs k = none from z]
          exact post_val g p rfl
        | some w =>
          rw [q] at z p
          obtain ⟨v, z1, z2⟩ := z
          rw [z1]
          exact post_val g p rfl
      · exact p.elim
    · exact p.elim
  · obtain rfl := (show y = _ from ey)
    split at p
    · obtain rfl := (show x = _ from dx)
      exact .inr (.inr (.inr ⟨_, _, rfl, rfl, post_val g p rfl⟩))
    · exact p.elim
  · exact p.elim

def fIs (neg : Bool) : F2 := fun x y h => match y with
  | .non => .ok (.bl (if neg then !decide (x = .non) else decide (x = .non))) h
  | .bl b => match x with
    | .bl a => .ok (.bl (if neg then !decide (a = b) else decide (a = b))) h
    | _ => .bad
  | _ => .bad
def rIsM (neg : Bool) : R2 := fun x y H Q => (y = .non ∧ Q (.bl (if neg then !decide (x = .non) else decide (x = .non))) H) ∨ ∃ a b : Bool, x = .bl a ∧ y = .bl b ∧ Q (.bl (if neg then !decide (a = b) else decide (a = b))) H
theorem or_is {X : Cx} : OpR X (compareOp .Is) (rIsM false) := op_isN.or op_isBl
theorem or_isnot {X : Cx} : OpR X (compareOp .IsNot) (rIsM true) := op_notN.or op_notBl
theorem non_iff {K : PySem.W.Frag} {π : List Addr} {H : Hp} {d : D} {x : V} (dx : DV K π H d x) : decide (x = .non) = decide (d = .non) := by
  cases d <;> first
    | (obtain rfl := (show x = _ from dx); simp)
    | (obtain ⟨a, _, rfl⟩ := dx; simp)
    | (obtain ⟨a, xs, rfl, _⟩ := dx; simp)
theorem o2_is {G : Gx} {neg : Bool} : Op2 G (rIsM neg) (fIs neg) := by
  intro W π σ h H d e x y Q g dx ey p
  unfold fIs at p
  split at p
  · obtain rfl := (show y = _ from ey)
    refine .inl ⟨rfl, ?_⟩
    rw [non_iff dx]
    exact post_val g p rfl
  · obtain rfl := (show y = _ from ey)
    split at p
    · obtain rfl := (show x = _ from dx)
      exact .inr ⟨_, _, rfl, rfl, post_val g p rfl⟩
    · exact p.elim
  · exact p.elim
section
variable {X : Cx} {T : List (Addr × Str)} {W : WX} {a b : Expr} {ma mb : Ev → Hm → R D} {pos : Pos}
theorem em_eq (hu : X.A.units + 64 < cLine) (ha : Em X T W a ma) (hb : Em X T W b mb) : Em X T W (.Compare a [.Eq] [b] pos) (m2 fEq ma mb) := em_cmp (op_eq.or (op_eqD hu)) o2_eq ha hb (nomark _)
theorem em_ne (hu : X.A.units + 64 < cLine) (ha : Em X T W a ma) (hb : Em X T W b mb) : Em X T W (.Compare a [.NotEq] [b] pos) (m2 fNe ma mb) := em_cmp (op_ne.or (op_neD hu)) o2_ne ha hb (nomark _)
theorem em_in (hu : X.A.units + 65 < cLine) (ha : Em X T W a ma) (hb : Em X T W b mb) (hm : behindInMarks .In b = false := by rfl) : Em X T W (.Compare a [.In] [b] pos) (m2 (fIn false) ma mb) := em_cmp (or_in hu) o2_in ha hb hm
theorem em_nin (hu : X.A.units + 65 < cLine) (ha : Em X T W a ma) (hb : Em X T W b mb) (hm : behindInMarks .NotIn b = false := by rfl) : Em X T W (.Compare a [.NotIn] [b] pos) (m2 (fIn true) ma mb) := em_cmp (or_nin hu) o2_in ha hb hm
theorem em_is (ha : Em X T W a ma) (hb : Em X T W b mb) : Em X T W (.Compare a [.Is] [b] pos) (m2 (fIs false) ma mb) := em_cmp or_is o2_is ha hb (nomark _)
theorem em_isnot (ha : Em X T W a ma) (hb : Em X T W b mb) : Em X T W (.Compare a [.IsNot] [b] pos) (m2 (fIs true) ma mb) := em_cmp or_isnot o2_is ha hb (nomark _)
end

def truD (h : Hm) : D → Option Bool
  | .non => some false
  | .bl b => some b
  | .int i => some (i != 0)
  | .str x => if x.length ≤ 16777216 then some ((x.length : Int) != 0) else none
  | .tup ds => some (!ds.isEmpty)
  | .rol ds => some (!ds.isEmpty)
  | .ref i => match h[i]? with
    | some (.lst ds) => some (!ds.isEmpty)
    | some (.dic kvs) => some (!kvs.isEmpty)
    | _ => none
def fTru (x : D) (h : Hm) : R Bool := match truD h x with
  | some b => .ok b h
  | none => .bad
theorem DVs.isEmpty {K : PySem.W.Frag} {π : List Addr} {H : Hp} : ∀ {ds : List D} {xs : List V}, DVs K π H ds xs → xs.isEmpty = ds.isEmpty
  | [], _, h => by rw [show _ = [] from h] <;> rfl
  | d :: ds, _, ⟨v, vs, e, _, _⟩ => by rw [e] <;> rfl
theorem DPs.isEmpty {κ : Type} {K : PySem.W.Frag} {π : List Addr} {H : Hp} : ∀ {ds : List (κ × D)} {xs : List (κ × V)}, DPs K π H ds xs → xs.isEmpty = ds.isEmpty
  | [], _, h => by rw [show _ = [] from h] <;> rfl
  | d :: ds, _, ⟨v, vs, e, _, _⟩ => by rw [e] <;> rfl
theorem tru_V {G : Gx} {π : List Addr} {h : Hm} {H : Hp} (g : Good G π h H) {d : D} {x : V} {k : Bool} (dx : DV G.K π H d x) (e : truD h d = some k) : TruV G.K x H k := by
  cases d with
  | non => obtain rfl := (show x = _ from dx); cases e; rfl
  | bl b => obtain rfl := (show x = _ from dx); cases e; rfl
  | int b => obtain rfl := (show x = _ from dx); cases e; rfl
  | str b =>
    obtain rfl := (show x = _ from dx)
    have e' : (if b.length ≤ 16777216 then some ((b.length : Int) != 0) else none) = some k := e
    by_cases hl : b.length ≤ 16777216
    · rw [if_pos hl] at e'
      cases e'
      exact ⟨szl hl, rfl⟩
    · rw [if_neg hl] at e'
      cases e'
  | tup ds => obtain ⟨a, xs, rfl, t, q⟩ := dx; cases e; exact .inr (.inl ⟨xs, t.sq, by rw [q.isEmpty]⟩)
  | rol ds => obtain ⟨a, xs, rfl, t, q⟩ := dx; cases e; exact .inl ⟨xs, t.sq, by rw [q.isEmpty]⟩
  | ref i =>
    obtain ⟨a, qa, rfl⟩ := dx
    have e' : (match h[i]? with
      | some (.lst ds) => some (!ds.isEmpty)
      | some (.dic kvs) => some (!kvs.isEmpty)
      | _ => none) = some k := e
    split at e'
    · rename_i ds e0
      obtain ⟨xs, ha, ds'⟩ := g.lst e0 qa
      cases e'
      exact .inl ⟨xs, SqL.of ha, by rw [ds'.isEmpty]⟩
    · rename_i kvs e0
      obtain ⟨xs, ha, ds'⟩ := g.obj e0 qa
      cases e'
      exact .inr (.inr ⟨xs, ha, by rw [ds'.isEmpty]⟩)
    · cases e'
def mTru (m : Ev → Hm → R D) : Ev → Hm → R Bool := fun env h => (m env h).bind fTru
/-- the answer is True or False -/
def mBool (m : Ev → Hm → R D) : Ev → Hm → R Bool := fun env h => (m env h).bind fun x h1 => match x with
  | .bl b => .ok b h1
  | _ => .bad
def mAnd (a b : Ev → Hm → R Bool) : Ev → Hm → R Bool := fun env h => (a env h).bind fun k h1 => if k = true then b env h1 else .ok false h1
def mOr (a b : Ev → Hm → R Bool) : Ev → Hm → R Bool := fun env h => (a env h).bind fun k h1 => if k = true then .ok true h1 else b env h1
def mNot (a : Ev → Hm → R Bool) : Ev → Hm → R Bool := fun env h => (a env h).bind fun k h1 => .ok (!k) h1
def mAndV (a b : Ev → Hm → R D) : Ev → Hm → R D := fun env h => (a env h).bind fun x h1 => (fTru x h1).bind fun k h2 => if k = true then b env h2 else .ok x h2
def mOrV (a b : Ev → Hm → R D) : Ev → Hm → R D := fun env h => (a env h).bind fun x h1 => (fTru x h1).bind fun k h2 => if k = true then .ok x h2 else b env h2
def mNotV (a : Ev → Hm → R D) : Ev → Hm → R D := fun env h => (a env h).bind fun x h1 => (fTru x h1).bind fun k h2 => .ok (.bl (!k)) h2
def mIf (c : Ev → Hm → R Bool) (a b : Ev → Hm → R D) : Ev → Hm → R D := fun env h => (c env h).bind fun k h1 => if k = true then a env h1 else b env h1
def mChain (f f' : F2) (a b c : Ev → Hm → R D) : Ev → Hm → R D := fun env h => (a env h).bind fun x h1 => (b env h1).bind fun y h2 => (f x y h2).bind fun z h3 => match z with
  | .bl k => if k = true then (c env h3).bind fun w h4 => f' y w h4 else .ok (.bl false) h3
  | _ => .bad
def mNeg (a : Ev → Hm → R D) : Ev → Hm → R D := fun env h => (a env h).bind fun x h1 => match x with
  | .int i => .ok (.int (-i)) h1
  | _ => .bad
abbrev Wm (X : Cx) (T : List (Addr × Str)) (W : WX) (e : Expr) (m : Ev → Hm → R Bool) : Prop := PW X e (tB' (gx X T) W m)
theorem PW.of {X : Cx} {e : Expr} {t t' : TT} (p : PW X e t) (w : ∀ σ H Q, t' σ H Q → t σ H Q) : PW X e t' := ⟨fun wh pins s σ H Q I h => p.run wh pins s σ H Q I (w σ H Q h)⟩
section
variable {X : Cx} {T : List (Addr × Str)} {W : WX} {a b c : Expr} {rest : List Expr} {ma mb mc : Ev → Hm → R D} {ta tb tc : Ev → Hm → R Bool} {pos : Pos}
theorem tm_tru (ha : Em X T W a ma) (he : ∀ whole, isTrue a X.env whole = (do let v ← whole; standAt a.pos; holding [v] (truthy v)) := by intro _; rfl) : Tm X T W a (mTru ma) := PT.of (pt_truth ha he) fun σ H Q ⟨π, env, h, s, p⟩ => by
  refine ⟨π, env, h, s, p.bind.mono fun π1 H1 h1 d s1 g1 p1 x dx => ?_⟩
  unfold fTru at p1
  cases q : truD h1 d with
  | none => rw [q] at p1; exact p1.elim
  | some k => rw [q] at p1; exact ⟨k, tru_V g1 dx q, p1 π1 H1 Step.refl g1⟩
theorem tm_val (ha : Em X T W a ma) (he : ∀ whole, isTrue a X.env whole = (do let v ← whole; standAt a.pos; holding [v] (truthy v)) := by intro _; rfl) : Tm X T W a (mBool ma) := PT.of (pt_val ha he) fun σ H Q ⟨π, env, h, s, p⟩ => by
  refine ⟨π, env, h, s, p.bind.mono fun π1 H1 h1 d s1 g1 p1 x dx => ?_⟩
  cases d <;> first
    | exact p1.elim
    | (obtain rfl := (show x = _ from dx); exact ⟨_, rfl, p1 π1 H1 Step.refl g1⟩)
/-- a comparison as a test -/
theorem tm_cmp {op : CmpOp} {r : R2} {f : F2} (hr : OpR X (compareOp op) r) (ho : Op2 (gx X T) r f) (ha : Em X T W a ma) (hb : Em X T W b mb) (hm : behindInMarks op b = false) : Tm X T W (.Compare a [op] [b] pos) (mBool (m2 f ma mb)) :=
  PT.of (pt_cmpR hr ha hb hm) fun σ H Q ⟨π, env, h, s, p⟩ => by
    refine chain2 ho ⟨π, env, h, s, p.bind.mono fun π1 H1 h1 d s1 g1 p1 x dx => ?_⟩
    cases d <;> first
      | exact p1.elim
      | (obtain rfl := (show x = _ from dx); exact ⟨_, rfl, p1 π1 H1 Step.refl g1⟩)
theorem tm_lt (ha : Em X T W a ma) (hb : Em X T W b mb) : Tm X T W (.Compare a [.Lt] [b] pos) (mBool (m2 fLt ma mb)) := tm_cmp op_lt o2_B0 ha hb (nomark _)
theorem tm_le (ha : Em X T W a ma) (hb : Em X T W b mb) : Tm X T W (.Compare a [.LtE] [b] pos) (mBool (m2 fLe ma mb)) := tm_cmp op_le o2_B0 ha hb (nomark _)
theorem tm_gt (ha : Em X T W a ma) (hb : Em X T W b mb) : Tm X T W (.Compare a [.Gt] [b] pos) (mBool (m2 fGt ma mb)) := tm_cmp op_gt o2_B0 ha hb (nomark _)
theorem tm_ge (ha : Em X T W a ma) (hb : Em X T W b mb) : Tm X T W (.Compare a [.GtE] [b] pos) (mBool (m2 fGe ma mb)) := tm_cmp op_ge o2_B0 ha hb (nomark _)
theorem tm_eq (hu : X.A.units + 64 < cLine) (ha : Em X T W a ma) (hb : Em X T W b mb) : Tm X T W (.Compare a [.Eq] [b] pos) (mBool (m2 fEq ma mb)) := tm_cmp (op_eq.or (op_eqD hu)) o2_eq ha hb (nomark _)
theorem tm_ne (hu : X.A.units + 64 < cLine) (ha : Em X T W a ma) (hb : Em X T W b mb) : Tm X T W (.Compare a [.NotEq] [b] pos) (mBool (m2 fNe ma mb)) := tm_cmp (op_ne.or (op_neD hu)) o2_ne ha hb (nomark _)
theorem tm_in (hu : X.A.units + 65 < cLine) (ha : Em X T W a ma) (hb : Em X T W b mb) (hm : behindInMarks .In b = false := by rfl) : Tm X T W (.Compare a [.In] [b] pos) (mBool (m2 (fIn false) ma mb)) := tm_cmp (or_in hu) o2_in ha hb hm
theorem tm_nin (hu : X.A.units + 65 < cLine) (ha : Em X T W a ma) (hb : Em X T W b mb) (hm : behindInMarks .NotIn b = false := by rfl) : Tm X T W (.Compare a [.NotIn] [b] pos) (mBool (m2 (fIn true) ma mb)) := tm_cmp (or_nin hu) o2_in ha hb hm
theorem tm_is (ha : Em X T W a ma) (hb : Em X T W b mb) : Tm X T W (.Compare a [.Is] [b] pos) (mBool (m2 (fIs false) ma mb)) := tm_cmp or_is o2_is ha hb (nomark _)
theorem tm_isnot (ha : Em X T W a ma) (hb : Em X T W b mb) : Tm X T W (.Compare a [.IsNot] [b] pos) (mBool (m2 (fIs true) ma mb)) := tm_cmp or_isnot o2_is ha hb (nomark _)
theorem wm_and1 (ha : Tm X T W a ta) : Wm X T W (.BoolOp .And [a] pos) ta := pw_and1 ha
theorem wm_or1 (ha : Tm X T W a ta) : Wm X T W (.BoolOp .Or [a] pos) ta := pw_or1 ha
theorem wm_and (ha : Tm X T W a ta) (hb : Wm X T W (.BoolOp .And (b :: rest) pos) tb) : Wm X T W (.BoolOp .And (a :: b :: rest) pos) (mAnd ta tb) := PW.of (pw_and ha hb) fun σ H Q ⟨π, env, h, s, p⟩ => by
  refine ⟨π, env, h, s, p.bind.mono fun π1 H1 h1 k s1 g1 p1 => ?_⟩
  cases k with
  | true => exact iteT ⟨π1, env, h1, s.step s1 g1, p1⟩
  | false => exact iteF (p1 π1 H1 Step.refl g1)
theorem wm_or (ha : Tm X T W a ta) (hb : Wm X T W (.BoolOp .Or (b :: rest) pos) tb) : Wm X T W (.BoolOp .Or (a :: b :: rest) pos) (mOr ta tb) := PW.of (pw_or ha hb) fun σ H Q ⟨π, env, h, s, p⟩ => by
  refine ⟨π, env, h, s, p.bind.mono fun π1 H1 h1 k s1 g1 p1 => ?_⟩
  cases k with
  | true => exact iteT (p1 π1 H1 Step.refl g1)
  | false => exact iteF ⟨π1, env, h1, s.step s1 g1, p1⟩
theorem tm_wm (h : Wm X T W a ta) : Tm X T W a ta := PW.pt h
theorem tm_not (ha : Tm X T W a ta) : Tm X T W (.UnaryOp .Not a pos) (mNot ta) := PT.of (pt_not ha) fun σ H Q ⟨π, env, h, s, p⟩ =>
  ⟨π, env, h, s, p.bind.mono fun π1 H1 h1 k s1 g1 p1 => p1 π1 H1 Step.refl g1⟩
theorem em_one {op} (ha : Em X T W a ma) : Em X T W (.BoolOp op [a] pos) ma := pe_one ha
theorem em_and (ha : Em X T W a ma) (hb : Em X T W (.BoolOp .And (b :: rest) pos) mb) : Em X T W (.BoolOp .And (a :: b :: rest) pos) (mAndV ma mb) := PE.of (pe_andT ha hb) fun σ H Q ⟨π, env, h, s, p⟩ => by
  refine ⟨π, env, h, s, p.bind.mono fun π1 H1 h1 d s1 g1 p1 x dx => ?_⟩
  unfold fTru at p1
  cases q : truD h1 d with
  | none => rw [q] at p1; exact p1.elim
  | some k =>
    rw [q] at p1
    refine ⟨k, tru_V g1 dx q, ?_⟩
    cases k with
    | true => exact iteT ⟨π1, env, h1, s.step s1 g1, p1⟩
    | false => exact iteF (p1 π1 H1 Step.refl g1 x dx)
theorem em_or (ha : Em X T W a ma) (hb : Em X T W (.BoolOp .Or (b :: rest) pos) mb) : Em X T W (.BoolOp .Or (a :: b :: rest) pos) (mOrV ma mb) := PE.of (pe_orT ha hb) fun σ H Q ⟨π, env, h, s, p⟩ => by
  refine ⟨π, env, h, s, p.bind.mono fun π1 H1 h1 d s1 g1 p1 x dx => ?_⟩
  unfold fTru at p1
  cases q : truD h1 d with
  | none => rw [q] at p1; exact p1.elim
  | some k =>
    rw [q] at p1
    refine ⟨k, tru_V g1 dx q, ?_⟩
    cases k with
    | true => exact iteT (p1 π1 H1 Step.refl g1 x dx)
    | false => exact iteF ⟨π1, env, h1, s.step s1 g1, p1⟩
theorem em_not (ha : Em X T W a ma) : Em X T W (.UnaryOp .Not a pos) (mNotV ma) := PE.of (pe_notT ha) fun σ H Q ⟨π, env, h, s, p⟩ => by
  refine ⟨π, env, h, s, p.bind.mono fun π1 H1 h1 d s1 g1 p1 x dx => ?_⟩
  unfold fTru at p1
  cases q : truD h1 d with
  | none => rw [q] at p1; exact p1.elim
  | some k => rw [q] at p1; exact ⟨k, tru_V g1 dx q, p1 π1 H1 Step.refl g1 _ rfl⟩
theorem em_if (hc : Tm X T W c tc) (ha : Em X T W a ma) (hb : Em X T W b mb) : Em X T W (.IfExp c a b pos) (mIf tc ma mb) := PE.of (pe_ifExp hc ha hb) fun σ H Q ⟨π, env, h, s, p⟩ => by
  refine ⟨π, env, h, s, p.bind.mono fun π1 H1 h1 k s1 g1 p1 => ?_⟩
  cases k with
  | true => exact iteT ⟨π1, env, h1, s.step s1 g1, p1⟩
  | false => exact iteF ⟨π1, env, h1, s.step s1 g1, p1⟩
theorem em_neg (ha : Em X T W a ma) : Em X T W (.UnaryOp .USub a pos) (mNeg ma) := PE.of (pe_un un_neg ha) fun σ H Q ⟨π, env, h, s, p⟩ => by
  refine ⟨π, env, h, s, p.bind.mono fun π1 H1 h1 d s1 g1 p1 x dx => ?_⟩
  cases d <;> first
    | exact p1.elim
    | (obtain rfl := (show x = _ from dx); exact ⟨_, rfl, p1 π1 H1 Step.refl g1 _ rfl⟩)
theorem chain3 {r r' : R2} {f f' : F2} (ho : Op2 (gx X T) r f) (ho' : Op2 (gx X T) r' f') {σ : L2.St} {H : Hp} {Q : VK} (p : tE (gx X T) W (mChain f f' ma mb mc) σ H Q) : tChain r r' (tE (gx X T) W ma) (tE (gx X T) W mb) (tE (gx X T) W mc) σ H Q := by
  obtain ⟨π, env, h, s, p⟩ := p
  refine ⟨π, env, h, s, p.bind.mono fun π1 H1 h1 d s1 g1 p1 x dx => ?_⟩
  refine ⟨π1, env, h1, s.step s1 g1, p1.bind.mono fun π2 H2 h2 e s2 g2 p2 y ey => ?_⟩
  refine ho W π2 σ h2 H2 d e x y _ g2 (dx.step s2 _ _) ey (p2.bind.mono fun π3 H3 h3 z s3 g3 p3 v zv => ?_)
  cases z <;> first
    | exact p3.elim
    | skip
  rename_i k
  obtain rfl := (show v = _ from zv)
  refine ⟨k, rfl, ?_⟩
  cases k with
  | true => exact iteT ⟨π3, env, h3, ((s.step s1 g1).step s2 g2).step s3 g3, p3.bind.mono fun π4 H4 h4 w s4 g4 p4 u wu => ho' W π4 σ h4 H4 e w y u Q g4 ((ey.step s3 _ _).step s4 _ _) wu p4⟩
  | false => exact iteF (p3 π3 H3 Step.refl g3 _ rfl)
theorem em_chain {op op' : CmpOp} {r r' : R2} {f f' : F2} (hr : OpR X (compareOp op) r) (ho : Op2 (gx X T) r f) (hr' : OpR X (compareOp op') r') (ho' : Op2 (gx X T) r' f') (ha : Em X T W a ma) (hb : Em X T W b mb) (hc : Em X T W c mc) (hm : lastMarks [op, op'] [b, c] = false := by rfl) :
    Em X T W (.Compare a [op, op'] [b, c] pos) (mChain f f' ma mb mc) := PE.of (pe_chain hr hr' ha hb hc hm) fun σ H Q p => chain3 ho ho' p
theorem tm_chain {op op' : CmpOp} {r r' : R2} {f f' : F2} (hr : OpR X (compareOp op) r) (ho : Op2 (gx X T) r f) (hr' : OpR X (compareOp op') r') (ho' : Op2 (gx X T) r' f') (ha : Em X T W a ma) (hb : Em X T W b mb) (hc : Em X T W c mc) (hm : lastMarks [op, op'] [b, c] = false := by rfl) :
    Tm X T W (.Compare a [op, op'] [b, c] pos) (mBool (mChain f f' ma mb mc)) := PT.of (pt_chain hr hr' ha hb hc hm) fun σ H Q ⟨π, env, h, s, p⟩ => by
  refine chain3 ho ho' ⟨π, env, h, s, p.bind.mono fun π1 H1 h1 d s1 g1 p1 x dx => ?_⟩
  cases d <;> first
    | exact p1.elim
    | (obtain rfl := (show x = _ from dx); exact ⟨_, rfl, p1 π1 H1 Step.refl g1⟩)
/-- lt, le, gt, ge as the chain wants them -/
theorem cl_lt : OpR X (compareOp .Lt) (rI0 fun i j => .bl (decide (i < j))) ∧ Op2 (gx X T) (rI0 fun i j => .bl (decide (i < j))) fLt := ⟨op_lt, o2_B0⟩
theorem cl_le : OpR X (compareOp .LtE) (rI0 fun i j => .bl (decide (i ≤ j))) ∧ Op2 (gx X T) (rI0 fun i j => .bl (decide (i ≤ j))) fLe := ⟨op_le, o2_B0⟩
end
end MM

namespace MM
open PySem L2

inductive SR where
  | next (env : Ev) (h : Hm)
  | ret (d : D) (h : Hm)
  | brk (env : Ev) (h : Hm)
  | cont (env : Ev) (h : Hm)
  | exn (x : Ex) (env : Ev) (h : Hm)
  | bad
def R.bindS {α : Type} (r : R α) (env : Ev) (k : α → Hm → SR) : SR := match r with
  | .ok a h => k a h
  | .exn x h => .exn x env h
  | .bad => .bad
/-- what stands behind a block -/
def SR.then (r : SR) (k : Ev → Hm → SR) : SR := match r with
  | .next env h => k env h
  | r => r
def PostS (G : Gx) (W : WX) (D : Ends) (π : List Addr) (H : Hp) (r : SR) : Prop := match r with
  | .next env h => ∀ π' σ' H', Step π H π' H' → S G π' env h σ' H' → D.nx σ' H'
  | .ret d h => ∀ π' H' v, Step π H π' H' → Good G π' h H' → DV G.K π' H' d v → D.rt v H'
  | .brk env h => ∀ π' σ' H', Step π H π' H' → S G π' env h σ' H' → D.bk σ' H'
  | .cont env h => ∀ π' σ' H', Step π H π' H' → S G π' env h σ' H' → D.ct σ' H'
  | .exn x env h => ∀ π' σ' H' cls d, Step π H π' H' → S G π' env h σ' H' → ExV G π' H' x cls d → W cls d σ' H'
  | .bad => False
def tS (G : Gx) (W : WX) (m : Ev → Hm → SR) : TS := fun D σ H => ∃ π env h, S G π env h σ H ∧ PostS G W D π H (m env h)
section
variable {G : Gx} {W : WX} {D : Ends} {π π' : List Addr} {σ : L2.St} {H H' : Hp} {env : Ev} {h h' : Hm} {α : Type}
theorem PostS.step {r : SR} (s : Step π H π' H') (p : PostS G W D π H r) : PostS G W D π' H' r := by
  cases r with
  | next env h => exact fun π2 σ2 H2 s2 x => p π2 σ2 H2 (s.trans s2) x
  | ret d h => exact fun π2 H2 v s2 x e => p π2 H2 v (s.trans s2) x e
  | brk env h => exact fun π2 σ2 H2 s2 x => p π2 σ2 H2 (s.trans s2) x
  | cont env h => exact fun π2 σ2 H2 s2 x => p π2 σ2 H2 (s.trans s2) x
  | exn y env h => exact fun π2 σ2 H2 cls d s2 x e => p π2 σ2 H2 cls d (s.trans s2) x e
  | bad => exact p
theorem PostS.bind {r : R α} {k : α → Hm → SR} (s : S G π env h σ H) (p : PostS G W D π H (r.bindS env k)) : Post G W π σ H r fun π' H' h' a => PostS G W D π' H' (k a h') := by
  cases r with
  | ok a h' => exact fun π' H' s' g => PostS.step s' p
  | exn x h' => exact fun π' H' cls d s' g e => p π' σ H' cls d s' ⟨g, s.env.step s'⟩ e
  | bad => exact p
theorem PostS.then {r : SR} {k : Ev → Hm → SR} (p : PostS G W D π H (r.then k)) : PostS G W { D with nx := tS G W k D } π H r := by
  cases r with
  | next env h => exact fun π2 σ2 H2 s2 x => ⟨π2, env, h, x, PostS.step s2 p⟩
  | ret d h => exact p
  | brk env h => exact p
  | cont env h => exact p
  | exn y env h => exact p
  | bad => exact p
theorem PostS.mono {D' : Ends} {r : SR} (p : PostS G W D π H r) (h1 : ∀ σ H, D.nx σ H → D'.nx σ H) (h2 : ∀ v H, D.rt v H → D'.rt v H) (h3 : ∀ σ H, D.bk σ H → D'.bk σ H) (h4 : ∀ σ H, D.ct σ H → D'.ct σ H) : PostS G W D' π H r := by
  cases r with
  | next env h => exact fun π2 σ2 H2 s2 x => h1 _ _ (p π2 σ2 H2 s2 x)
  | ret d h => exact fun π2 H2 v s2 x e => h2 _ _ (p π2 H2 v s2 x e)
  | brk env h => exact fun π2 σ2 H2 s2 x => h3 _ _ (p π2 σ2 H2 s2 x)
  | cont env h => exact fun π2 σ2 H2 s2 x => h4 _ _ (p π2 σ2 H2 s2 x)
  | exn y env h => exact p
  | bad => exact p
end
abbrev Sm (X : Cx) (T : List (Addr × Str)) (W : WX) (e : Stmt) (m : Ev → Hm → SR) : Prop := PS X e (tS (gx X T) W m)
abbrev Ssm (X : Cx) (T : List (Addr × Str)) (W : WX) (e : List Stmt) (m : Ev → Hm → SR) : Prop := PSs X e (tS (gx X T) W m)

/-- a store goes on, or is wrong -/
def SR.only (r : SR) : SR := match r with
  | .next env h => .next env h
  | .exn x env h => .exn x env h
  | _ => .bad
abbrev Gt := D → Ev → Hm → SR
abbrev Gts := List D → Ev → Hm → SR
def nxO (Q : L2.St → Hp → Prop) : Ends := { nx := Q, rt := fun _ _ => False }
def tG (G : Gx) (W : WX) (g : Gt) : TG := fun v σ H Q => ∃ π env h d, S G π env h σ H ∧ DV G.K π H d v ∧ PostS G W (nxO Q) π H (g d env h)
def tGs (G : Gx) (W : WX) (g : Gts) : TGs := fun vs σ H Q => ∃ π env h ds, S G π env h σ H ∧ DVs G.K π H ds vs ∧ PostS G W (nxO Q) π H (g ds env h)
theorem PG.of {X : Cx} {e : Expr} {t t' : TG} (p : PG X e t) (w : ∀ v σ H Q, t' v σ H Q → t v σ H Q) : PG X e t' := ⟨fun pins s σ H v u Q I r h => p.run pins s σ H v u Q I r (w v σ H Q h)⟩
theorem PGs.of {X : Cx} {e : List Expr} {t t' : TGs} (p : PGs X e t) (w : ∀ v σ H Q, t' v σ H Q → t v σ H Q) : PGs X e t' := ⟨fun pins s σ H v u Q I r h => p.run pins s σ H v u Q I r (w v σ H Q h)⟩
abbrev Gm (X : Cx) (T : List (Addr × Str)) (W : WX) (e : Expr) (g : Gt) : Prop := PG X e (tG (gx X T) W g)
abbrev Gsm (X : Cx) (T : List (Addr × Str)) (W : WX) (e : List Expr) (g : Gts) : Prop := PGs X e (tGs (gx X T) W g)
def gN (i : Nat) : Gt := fun d env h => .next (env.set i (some d)) h
def gsNil : Gts := fun ds env h => match ds with
  | [] => .next env h
  | _ => .bad
def gsCons (g : Gt) (r : Gts) : Gts := fun ds env h => match ds with
  | d :: ds => (g d env h).then (r ds)
  | [] => .bad
/-- a tuple is unpacked -/
def gT (n : Nat) (r : Gts) : Gt := fun d env h => match d with
  | .tup ds => if ds.length = n then r ds env h else .bad
  | _ => .bad
/-- a list is unpacked -/
def gL (n : Nat) (r : Gts) : Gt := fun d env h => match d with
  | .ref i => match h[i]? with
    | some (.lst ds) => if ds.length = n then r ds env h else .bad
    | _ => .bad
  | _ => .bad
section
variable {X : Cx} {T : List (Addr × Str)} {W : WX} {e : Expr} {es : List Expr} {g : Gt} {r : Gts} {pos : Pos}
theorem gm_name (i : Nat) {x : Str} (hN : X.N.Nodup) (hi : X.N[i]? = some x := by rfl) (hx : Loc X.env.scope x := by first | exact .inl rfl | exact .inr rfl) (hf : X.fn x = true ∨ X.env.scope.names.lookup x = some .local := by first | exact .inl rfl | exact .inr rfl | assumption) : Gm X T W (.Name x pos) (gN i) :=
  PG.of (pg_name hN hi hx hf) fun v σ H Q ⟨π, env, h, d, s, dv, p⟩ => p π _ H Step.refl ⟨s.good, s.env.set dv i⟩
theorem gsm_nil : Gsm X T W [] gsNil := PGs.of pgs_nil fun v σ H Q ⟨π, env, h, ds, s, dv, p⟩ => by
  cases ds with
  | nil => exact ⟨dv, p π σ H Step.refl s⟩
  | cons d ds => exact p.elim
theorem gsm_cons (h1 : Gm X T W e g) (h2 : Gsm X T W es r) (hs : (assignEach (e :: es) X.env).map (·.2) = assign e X.env :: (assignEach es X.env).map (·.2) := by rfl) : Gsm X T W (e :: es) (gsCons g r) := PGs.of (pgs_cons h1 h2 hs) fun v σ H Q ⟨π, env, h, ds, s, dv, p⟩ => by
  cases ds with
  | nil => exact p.elim
  | cons d ds =>
    obtain ⟨v, vs, rfl, d1, d2⟩ := dv
    refine ⟨v, vs, rfl, π, env, h, d, s, d1, ?_⟩
    have p' : PostS (gx X T) W (nxO Q) π H ((g d env h).then (r ds)) := p
    generalize g d env h = z at p' ⊢
    cases z with
    | next env' h' => exact fun π2 σ2 H2 s2 x => ⟨π2, env', h', ds, x, d2.step s2 _ _, PostS.step s2 p'⟩
    | ret d h => exact p'
    | brk env h => exact p'
    | cont env h => exact p'
    | exn y env h => exact p'
    | bad => exact p'
theorem gm_tup {k n : Nat} (hc : X.calm = true) (hr : Gsm X T W es r) (hn : (assignEach es X.env).length = n := by rfl) (hst : (assignEach es X.env).findIdx? (·.1) = none := by rfl) : Gm X T W (.Tuple es k pos) (gT n r) :=
  PG.of (pg_tup hc hr hn hst) fun v σ H Q ⟨π, env, h, d, s, dv, p⟩ => by
    unfold gT at p
    split at p
    · obtain ⟨a, xs, rfl, t, q⟩ := dv
      split at p
      · rename_i hl
        exact ⟨a, xs, rfl, t.sq, by rw [q.len]; exact hl, π, env, h, _, s, q, p⟩
      · exact p.elim
    · exact p.elim
theorem gm_lst {k n : Nat} (hc : X.calm = true) (hr : Gsm X T W es r) (hn : (assignEach es X.env).length = n := by rfl) (hst : (assignEach es X.env).findIdx? (·.1) = none := by rfl) : Gm X T W (.Tuple es k pos) (gL n r) :=
  PG.of (pg_lst hc hr hn hst) fun v σ H Q ⟨π, env, h, d, s, dv, p⟩ => by
    unfold gL at p
    split at p
    · obtain ⟨a, qa, rfl⟩ := dv
      split at p
      · rename_i e0
        obtain ⟨xs, ha, q⟩ := s.good.lst e0 qa
        split at p
        · rename_i hl
          exact ⟨a, xs, rfl, SqL.of ha, by rw [q.len]; exact hl, π, env, h, _, s, q, p⟩
        · exact p.elim
      · exact p.elim
    · exact p.elim
end

def sNil : Ev → Hm → SR := fun env h => .next env h
def sSeq (a b : Ev → Hm → SR) : Ev → Hm → SR := fun env h => (a env h).then b
def sDrop (m : Ev → Hm → R D) : Ev → Hm → SR := fun env h => (m env h).bindS env fun _ h1 => .next env h1
def sRet (m : Ev → Hm → R D) : Ev → Hm → SR := fun env h => (m env h).bindS env fun d h1 => .ret d h1
def sRetN : Ev → Hm → SR := fun _ h => .ret .non h
def sIf (c : Ev → Hm → R Bool) (a b : Ev → Hm → SR) : Ev → Hm → SR := fun env h => (c env h).bindS env fun k h1 => if k = true then a env h1 else b env h1
def sAsg (g : Gt) (m : Ev → Hm → R D) : Ev → Hm → SR := fun env h => (m env h).bindS env fun d h1 => (g d env h1).only
def sBrk : Ev → Hm → SR := fun env h => .brk env h
def sCont : Ev → Hm → SR := fun env h => .cont env h
/-- a, b = x, y of names of one's own -/
def sPar (i j : Nat) (m : Ev → Hm → R (List D)) : Ev → Hm → SR := fun env h => (m env h).bindS env fun ds h1 => match ds with
  | [a, b] => .next ((env.set i (some a)).set j (some b)) h1
  | _ => .bad
def sPar3 (i j l : Nat) (m : Ev → Hm → R (List D)) : Ev → Hm → SR := fun env h => (m env h).bindS env fun ds h1 => match ds with
  | [a, b, c] => .next (((env.set i (some a)).set j (some b)).set l (some c)) h1
  | _ => .bad
def sAug (i : Nat) (f : F2) (m : Ev → Hm → R D) : Ev → Hm → SR := fun env h => match env[i]? with
  | some (some x) => (m env h).bindS env fun y h1 => (f x y h1).bindS env fun z h2 => .next (env.set i (some z)) h2
  | _ => .bad
def sWhile (c : Ev → Hm → R Bool) (b : Ev → Hm → SR) : Nat → Ev → Hm → SR
  | 0, _, _ => .bad
  | n + 1, env, h => (c env h).bindS env fun k h1 => if k = true then (match b env h1 with
      | .next e h2 => sWhile c b n e h2
      | .cont e h2 => sWhile c b n e h2
      | .brk e h2 => .next e h2
      | r => r) else .next env h1
section
variable {X : Cx} {T : List (Addr × Str)} {W : WX} {st : Stmt} {sts sts' : List Stmt} {e c tg : Expr} {me : Ev → Hm → R D} {tc : Ev → Hm → R Bool} {ms ms' : Ev → Hm → SR} {pos : Pos}
theorem ssm_nil : Ssm X T W [] sNil := PSs.of pss_nil fun D σ H ⟨π, env, h, s, p⟩ => p π σ H Step.refl s
theorem ssm_cons (h1 : Sm X T W st ms) (h2 : Ssm X T W sts ms') : Ssm X T W (st :: sts) (sSeq ms ms') := PSs.of (pss_cons h1 h2) fun D σ H ⟨π, env, h, s, p⟩ => ⟨π, env, h, s, PostS.then p⟩
theorem ssm_one (h1 : Sm X T W st ms) : Ssm X T W [st] ms := pss_one h1
theorem sm_pass : Sm X T W (.Pass pos) sNil := PS.of ps_pass fun D σ H ⟨π, env, h, s, p⟩ => p π σ H Step.refl s
theorem sm_break : Sm X T W (.Break pos) sBrk := PS.of ps_break fun D σ H ⟨π, env, h, s, p⟩ => p π σ H Step.refl s
theorem sm_continue : Sm X T W (.Continue pos) sCont := PS.of ps_continue fun D σ H ⟨π, env, h, s, p⟩ => p π σ H Step.refl s
theorem sm_expr (he : Em X T W e me) (hs : swapsWith e none pos.line X.env = pure false := by rfl) : Sm X T W (.Expr e pos) (sDrop me) := PS.of (ps_expr he hs) fun D σ H ⟨π, env, h, s, p⟩ =>
  ⟨π, env, h, s, (PostS.bind s p).mono fun π1 H1 h1 d s1 g1 p1 v dv => p1 π1 σ H1 Step.refl (s.step s1 g1)⟩
theorem sm_ret (he : Em X T W e me) : Sm X T W (.Return (some e) pos) (sRet me) := PS.of (ps_ret he) fun D σ H ⟨π, env, h, s, p⟩ =>
  ⟨π, env, h, s, (PostS.bind s p).mono fun π1 H1 h1 d s1 g1 p1 v dv => p1 π1 H1 v Step.refl g1 dv⟩
theorem sm_retN : Sm X T W (.Return none pos) sRetN := PS.of ps_retN fun D σ H ⟨π, env, h, s, p⟩ => p π H _ Step.refl s.good rfl
theorem sm_if (hc : Tm X T W c tc) (ha : Ssm X T W sts ms) (hb : Ssm X T W sts' ms') : Sm X T W (.If c sts sts' pos) (sIf tc ms ms') := PS.of (ps_if hc ha hb) fun D σ H ⟨π, env, h, s, p⟩ =>
  ⟨π, env, h, s, (PostS.bind s p).mono fun π1 H1 h1 k s1 g1 p1 => by
    cases k with
    | true => exact iteT ⟨π1, env, h1, s.step s1 g1, p1⟩
    | false => exact iteF ⟨π1, env, h1, s.step s1 g1, p1⟩⟩
theorem sm_set (i : Nat) {x : Str} {pos' : Pos} (hN : X.N.Nodup) (he : Em X T W e me) (hi : X.N[i]? = some x := by rfl) (hx : Loc X.env.scope x := by first | exact .inl rfl | exact .inr rfl) (hs : swapsWith e (some (.Name x pos')) pos.line X.env = pure false := by rfl)
    (hf : X.fn x = true ∨ X.env.scope.names.lookup x = some .local := by first | exact .inl rfl | exact .inr rfl | assumption) : Sm X T W (.Assign [.Name x pos'] e pos) (sAsg (gN i) me) := PS.of (ps_set hN hi hx he hs hf) fun D σ H ⟨π, env, h, s, p⟩ =>
  ⟨π, env, h, s, (PostS.bind s p).mono fun π1 H1 h1 d s1 g1 p1 v dv => p1 π1 _ H1 Step.refl ⟨g1, (s.step s1 g1).env.set dv i⟩⟩
theorem sm_asg {g : Gt} (hg : Gm X T W tg g) (he : Em X T W e me) (hs : swapsWithSole [tg] e pos.line X.env = pure false := by rfl) (hw : swappedStores [tg] e X.env = pure none := by rfl) (h1 : (assignEach [tg] X.env).map (·.2) = [assign tg X.env] := by rfl) : Sm X T W (.Assign [tg] e pos) (sAsg g me) :=
  PS.of (ps_asg he hg hs hw h1) fun D σ H ⟨π, env, h, s, p⟩ => ⟨π, env, h, s, (PostS.bind s p).mono fun π1 H1 h1 d s1 g1 p1 v dv => ⟨π1, env, h1, d, s.step s1 g1, dv, by
    generalize g d env h1 = z at p1 ⊢
    cases z with
    | next env' h' => exact p1
    | ret d h => exact (show False from p1).elim
    | brk env h => exact (show False from p1).elim
    | cont env h => exact (show False from p1).elim
    | exn y env h => exact p1
    | bad => exact p1⟩⟩
theorem sm_par (i j : Nat) {x y : Str} {a b : Expr} {ml : Ev → Hm → R (List D)} {px py pt : Pos} {kt k2 pt2} (hc : X.calm = true) (hN : X.N.Nodup) (ha : Am X T W [a, b] ml) (hi : X.N[i]? = some x := by rfl) (hj : X.N[j]? = some y := by rfl) (hij : i ≠ j := by decide)
    (hx : X.env.scope.names.lookup x = some .local := by rfl) (hy : X.env.scope.names.lookup y = some .local := by rfl)
    (hw : swappedStores [.Tuple [.Name x px, .Name y py] kt pt] (.Tuple [a, b] k2 pt2) X.env = pure (some [x, y]) := by rfl)
    (hs : swapsWithSole [.Tuple [.Name x px, .Name y py] kt pt] (.Tuple [a, b] k2 pt2) pos.line X.env = pure false := by rfl) :
    Sm X T W (.Assign [.Tuple [.Name x px, .Name y py] kt pt] (.Tuple [a, b] k2 pt2) pos) (sPar i j ml) := PS.of (ps_par hc hN hi hj hij hx hy ha hw hs) fun D σ H ⟨π, env, h, s, p⟩ =>
  ⟨π, env, h, s, (PostS.bind s p).mono fun π1 H1 h1 ds s1 g1 p1 vs dv => by
    split at p1
    · obtain ⟨v, vs, rfl, d1, w, ws, rfl, d2, e3⟩ := dv
      obtain rfl := (show ws = [] from e3)
      exact ⟨v, w, rfl, p1 π1 _ H1 Step.refl ⟨g1, ((s.step s1 g1).env.set d1 i).set d2 j⟩⟩
    · exact p1.elim⟩
theorem sm_par3 (i j l : Nat) {x y z : Str} {a b c : Expr} {ml : Ev → Hm → R (List D)} {px py pz pt : Pos} {kt k2 pt2} (hc : X.calm = true) (hN : X.N.Nodup) (ha : Am X T W [a, b, c] ml) (hi : X.N[i]? = some x := by rfl) (hj : X.N[j]? = some y := by rfl) (hl : X.N[l]? = some z := by rfl)
    (hij : i ≠ j := by decide) (hil : i ≠ l := by decide) (hjl : j ≠ l := by decide)
    (hx : X.env.scope.names.lookup x = some .local := by rfl) (hy : X.env.scope.names.lookup y = some .local := by rfl) (hz : X.env.scope.names.lookup z = some .local := by rfl)
    (hw : swappedStores [.Tuple [.Name x px, .Name y py, .Name z pz] kt pt] (.Tuple [a, b, c] k2 pt2) X.env = pure (some [x, y, z]) := by rfl)
    (hs : swapsWithSole [.Tuple [.Name x px, .Name y py, .Name z pz] kt pt] (.Tuple [a, b, c] k2 pt2) pos.line X.env = pure false := by rfl) :
    Sm X T W (.Assign [.Tuple [.Name x px, .Name y py, .Name z pz] kt pt] (.Tuple [a, b, c] k2 pt2) pos) (sPar3 i j l ml) := PS.of (ps_par3 hc hN hi hj hl hij hil hjl hx hy hz ha hw hs) fun D σ H ⟨π, env, h, s, p⟩ =>
  ⟨π, env, h, s, (PostS.bind s p).mono fun π1 H1 h1 ds s1 g1 p1 vs dv => by
    split at p1
    · obtain ⟨v, vs, rfl, d1, w, ws, rfl, d2, u, us, rfl, d3, e3⟩ := dv
      obtain rfl := (show us = [] from e3)
      exact ⟨v, w, u, rfl, p1 π1 _ H1 Step.refl ⟨g1, (((s.step s1 g1).env.set d1 i).set d2 j).set d3 l⟩⟩
    · exact p1.elim⟩
theorem sm_aug (i : Nat) {x : Str} {op : Operator} {r : R2} {f : F2} {pos' : Pos} (hN : X.N.Nodup) (hr : OpR X (inplaceOp op) r) (ho : Op2 (gx X T) r f) (he : Em X T W e me) (hi : X.N[i]? = some x := by rfl) (hx : Loc X.env.scope x := by first | exact .inl rfl | exact .inr rfl)
    (hf : X.fn x = true ∨ X.env.scope.names.lookup x = some .local := by first | exact .inl rfl | exact .inr rfl | assumption) : Sm X T W (.AugAssign (.Name x pos') op e pos) (sAug i f me) :=
  PS.of (ps_aug (ti := fun x y H Q => r x y H Q) hN hi hx he (fun pins s σ H x y v u Q I r1 r2 h => hr pins s σ H x y v u Q I r1 r2 h) hf) fun D σ H ⟨π, env, h, s, p⟩ => by
    unfold sAug at p
    split at p
    · rename_i d e0
      obtain ⟨v, h1, h2⟩ := s.env.get i d e0
      refine ⟨v, h1, π, env, h, s, (PostS.bind s p).mono fun π1 H1 h1 y s1 g1 p1 w dw => ?_⟩
      exact ho W π1 σ h1 H1 d y v w _ g1 (h2.step s1 _ _) dw ((PostS.bind (s.step s1 g1) p1).mono fun π2 H2 h2 z s2 g2 p2 u du => p2 π2 _ H2 Step.refl ⟨g2, ((s.step s1 g1).step s2 g2).env.set du i⟩)
    · exact p.elim
theorem sm_while {n : Nat} (hp : PassesOwn (model X.prog X.w) X.A X.env X.xe) (hc : Tm X T W c tc) (hb : Ssm X T W sts ms) : Sm X T W (.While c sts [] pos) (sWhile tc ms n) := PS.of (ps_while hp hc hb) fun D σ H ⟨π, env, h, s, p⟩ => by
  refine ⟨fun m σ' H' => ∃ π' env' h', S (gx X T) π' env' h' σ' H' ∧ PostS (gx X T) W D π' H' (sWhile tc ms m env' h'), ⟨n, π, env, h, s, p⟩, ?_⟩
  rintro m σ1 H1 ⟨π1, env1, h1, s1, p1⟩
  cases m with
  | zero => exact p1.elim
  | succ m =>
    refine ⟨π1, env1, h1, s1, (PostS.bind s1 p1).mono fun π2 H2 h2 k s2 g2 p2 => ?_⟩
    cases k with
    | false => exact iteF (p2 π2 σ1 H2 Step.refl (s1.step s2 g2))
    | true =>
      refine iteT ⟨fun σ' H' => ∃ π' env' h', S (gx X T) π' env' h' σ' H' ∧ PostS (gx X T) W D π' H' (sWhile tc ms m env' h'), fun σ' H' z => ⟨m, Nat.lt_succ_self m, z⟩, π2, env1, h2, s1.step s2 g2, ?_⟩
      rw [if_pos rfl] at p2
      generalize ms env1 h2 = z at p2 ⊢
      cases z with
      | next env' h' => exact fun π3 σ3 H3 s3 x => ⟨π3, env', h', x, PostS.step s3 p2⟩
      | ret d h => exact p2
      | brk env h => exact p2
      | cont env h => exact fun π3 σ3 H3 s3 x => ⟨π3, env, h, x, PostS.step s3 p2⟩
      | exn y env h => exact p2
      | bad => exact p2
end
end MM

namespace MM
open PySem L2

def rIxD : R2 := fun x y H Q => ∃ a v, x = .ref a ∧ DGet H a y (some v) ∧ Q v H
theorem ix_dict {X : Cx} (hu : X.A.units + 1 < cLine) : IxR X rIxD := by
  intro value slice pins s σ H x y v u Q I rx ry h hs
  obtain ⟨a, z, rfl, g, q⟩ := h
  obtain rfl : v = Value.ref a := rx
  have hT := dict_typeIs I g
  unfold PyProof.Rows.subscriptTail
  refine wpAny_bind ?_
  rw [getitemInPython_of_ne hT.not_modules]
  refine wpAny_bind (wpAny_specialOf hT PySem.F.slot_dict_getitem.lookup ?_)
  have fin : wpAny (model X.prog X.w) X.A (subscripted slice false (.ref a) u) (fun r s₃ => wpAny (model X.prog X.w) X.A (letTemporaryGo value (.ref a) r >>= fun _ => pure r) (EP X pins σ Q) X.xe s₃) X.xe s := by
    rw [hs]
    exact wpAny_operating (wpAny_mono (d_getItem (Q := fun r s3 => EP X pins σ Q r s3) hu I g ry fun w' s3 I3 rw' => ⟨z, H, I3, rw', q⟩) (fun r s₃ h₃ => wpAny_bind (wpAny_letTemporaryGo (wpAny_pure h₃))) fun _ _ x => x)
  first
    | exact wpAny_pure (wpAny_bind fin)
    | exact wpAny_bind (wpAny_pure (wpAny_bind fin))
    | exact wpAny_bind fin
def rIxM (K : PySem.W.Frag) : R2 := fun x y H Q => rIxL K x y H Q ∨ rIxT K x y H Q ∨ rIxS x y H Q ∨ rIxD x y H Q
theorem or_ix {X : Cx} (hu : X.A.units + 1 < cLine) : IxR X (rIxM X.K) := ix_list.or (ix_tup.or (ix_str.or (ix_dict hu)))
def fIx : F2 := fun x y h => match x, y with
  | .tup ds, .int i => match atI ds i with
    | some d => .ok d h
    | none => .bad
  | .rol ds, .int i => match atI ds i with
    | some d => .ok d h
    | none => .bad
  | .str z, .int i => if z.length ≤ 16777216 then match atI z.cps.toList i with
      | some c => .ok (.str ⟨#[c]⟩) h
      | none => .bad else .bad
  | .ref r, y => match h[r]? with
    | some (.lst ds) => match y with
      | .int i => match atI ds i with
        | some d => .ok d h
        | none => .bad
      | _ => .bad
    | some (.dic kvs) => match keyD y with
      | some k => match getK kvs k with
        | some d => .ok d h
        | none => .bad
      | none => .bad
    | some (.dicL kvs) => match keyD y with
      | some k => match getK kvs k with
        | some d => .ok d h
        | none => .bad
      | none => .bad
    | _ => .bad
  | _, _ => .bad
section
variable {K : PySem.W.Frag} {π : List Addr} {H : Hp}
theorem DVs.atI {ds : List D} {xs : List V} {i : Int} {d : D} (h : DVs K π H ds xs) (e : L2.atI ds i = some d) : ∃ v, L2.atI xs i = some v ∧ DV K π H d v := by
  unfold L2.atI at e ⊢
  rw [h.len]
  cases q : ixN ds.length i with
  | none => rw [q] at e; cases e
  | some j =>
    rw [q] at e
    exact h.get e
end
theorem o2_ix {G : Gx} : Op2 G (rIxM G.K) fIx := by
  intro W π σ h H d e x y Q g dx ey p
  unfold fIx at p
  split at p
  · obtain ⟨a, xs, rfl, t, q⟩ := dx
    obtain rfl := (show y = _ from ey)
    split at p
    · rename_i e0
      obtain ⟨v, h1, h2⟩ := q.atI e0
      exact .inr (.inl ⟨a, xs, _, v, rfl, rfl, t.sq, h1, post_val g p h2⟩)
    · exact p.elim
  · obtain ⟨a, xs, rfl, t, q⟩ := dx
    obtain rfl := (show y = _ from ey)
    split at p
    · rename_i e0
      obtain ⟨v, h1, h2⟩ := q.atI e0
      exact .inl ⟨a, xs, _, v, rfl, rfl, t.sq, h1, post_val g p h2⟩
    · exact p.elim
  · obtain rfl := (show x = _ from dx)
    obtain rfl := (show y = _ from ey)
    split at p
    · rename_i hl
      split at p
      · rename_i e0
        exact .inr (.inr (.inl ⟨_, _, _, rfl, rfl, szl hl, e0, post_val g p rfl⟩))
      · exact p.elim
    · exact p.elim
  · obtain ⟨a, qa, rfl⟩ := dx
    split at p
    · rename_i e1
      obtain ⟨xs, ha, q⟩ := g.lst e1 qa
      split at p
      · obtain rfl := (show y = _ from ey)
        split at p
        · rename_i e0
          obtain ⟨v, h1, h2⟩ := q.atI e0
          exact .inl ⟨a, xs, _, v, rfl, rfl, SqL.of ha, h1, post_val g p h2⟩
        · exact p.elim
      · exact p.elim
    · rename_i e1
      obtain ⟨xs, ha, q⟩ := g.obj e1 qa
      split at p
      · rename_i k ek
        obtain rfl := keyD_V ek ey
        have z := getK_V (κ := k) q
        split at p
        · rename_i w ew
          rw [ew] at z
          obtain ⟨v, z1, z2⟩ := z
          refine .inr (.inr (.inr ⟨a, v, rfl, ?_, post_val g p z2⟩))
          rw [← z1]
          exact DGet.k ha
        · exact p.elim
      · exact p.elim
    · rename_i e1
      obtain ⟨oo, xs, ha, q⟩ := g.obj e1 qa
      split at p
      · rename_i k ek
        obtain rfl := keyD_V ek ey
        have z := getK_V (κ := k) q
        split at p
        · rename_i w ew
          rw [ew] at z
          obtain ⟨v, z1, z2⟩ := z
          refine .inr (.inr (.inr ⟨a, v, rfl, ?_, post_val g p z2⟩))
          rw [← z1]
          exact Or.inl ⟨xs, k, .inr ⟨oo, ha⟩, rfl, rfl⟩
        · exact p.elim
      · exact p.elim
    · exact p.elim
  · exact p.elim
theorem em_ix {X : Cx} {T : List (Addr × Str)} {W : WX} {a b : Expr} {ma mb : Ev → Hm → R D} {pos : Pos} (hu : X.A.units + 1 < cLine) (ha : Em X T W a ma) (hb : Em X T W b mb) (hs : PlainIx b := by exact fun _ _ => rfl) : Em X T W (.Subscript a b pos) (m2 fIx ma mb) :=
  PE.of (pe_ix (or_ix hu) ha hb hs) fun σ H Q p => chain2 o2_ix p

def cutD (xs : List D) (lo hi : Option Int) : List D := (xs.drop (HT.sIx xs.length 0 lo)).take (HT.sIx xs.length xs.length hi - HT.sIx xs.length 0 lo)
def fSl (x : D) (lo hi : Option Int) (h : Hm) : R D := match x with
  | .tup ds => .ok (.tup (cutD ds lo hi)) h
  | .rol ds => .ok (.ref h.length) (h ++ [.lst (cutD ds lo hi)])
  | .ref r => match h[r]? with
    | some (.lst ds) => .ok (.ref h.length) (h ++ [.lst (cutD ds lo hi)])
    | _ => .bad
  | .str z => if z.length ≤ 16777216 then .ok (.str (cutS z lo hi)) h else .bad
  | _ => .bad
def mNo : Ev → Hm → R (Option Int) := fun _ h => .ok none h
def mSome (m : Ev → Hm → R D) : Ev → Hm → R (Option Int) := fun env h => (m env h).bind fun x h1 => match x with
  | .int i => .ok (some i) h1
  | _ => .bad
def mSl (a : Ev → Hm → R D) (l u : Ev → Hm → R (Option Int)) : Ev → Hm → R D := fun env h => (a env h).bind fun x h1 => (l env h1).bind fun lo h2 => (u env h2).bind fun hi h3 => fSl x lo hi h3
def tO (G : Gx) (W : WX) (m : Ev → Hm → R (Option Int)) : TO := fun σ H Q => ∃ π env h, S G π env h σ H ∧ Post G W π σ H (m env h) fun _ H' _ o => Q o H'
abbrev Om (X : Cx) (T : List (Addr × Str)) (W : WX) (e : Option Expr) (m : Ev → Hm → R (Option Int)) : Prop := PO X e (tO (gx X T) W m)
theorem PO.of {X : Cx} {e : Option Expr} {t t' : TO} (p : PO X e t) (w : ∀ σ H Q, t' σ H Q → t σ H Q) : PO X e t' := ⟨fun pins s σ H Q I h => p.run pins s σ H Q I (w σ H Q h)⟩
theorem cutD_V {K : PySem.W.Frag} {π : List Addr} {H : Hp} {ds : List D} {xs : List V} (h : DVs K π H ds xs) (lo hi : Option Int) : DVs K π H (cutD ds lo hi) (cutV xs lo hi) := by
  unfold cutD cutV
  rw [h.len]
  exact (h.drop _).take _
theorem cut_whole {ds : List D} {lo hi : Option Int} (e : HT.sIx ds.length 0 lo = 0 ∧ HT.sIx ds.length ds.length hi = ds.length) : cutD ds lo hi = ds := by
  unfold cutD
  rw [e.1, e.2, List.drop_zero, Nat.sub_zero, List.take_length]
def rSlM (K : PySem.W.Frag) : V → Option Int → Option Int → Hp → VK → Prop := fun x lo hi H Q => rSlA K x lo hi H Q ∨ rSlL K x lo hi H Q ∨ rSlS x lo hi H Q
theorem or_sl {X : Cx} : SlR X (rSlM X.K) := sl_tupA.or (sl_list.or sl_str)
section
variable {X : Cx} {T : List (Addr × Str)} {W : WX} {e : Expr} {lo hi : Option Expr} {me : Ev → Hm → R D} {ml mh : Ev → Hm → R (Option Int)} {p2 pos : Pos}
theorem om_none : Om X T W none mNo := PO.of po_none fun σ H Q ⟨π, env, h, s, p⟩ => p π H Step.refl s.good
theorem om_some (he : Em X T W e me) : Om X T W (some e) (mSome me) := PO.of (po_some he) fun σ H Q ⟨π, env, h, s, p⟩ => by
  refine ⟨π, env, h, s, p.bind.mono fun π1 H1 h1 d s1 g1 p1 x dx => ?_⟩
  cases d <;> first
    | exact p1.elim
    | (obtain rfl := (show x = _ from dx); exact ⟨_, rfl, p1 π1 H1 Step.refl g1⟩)
theorem em_sl (he : Em X T W e me) (hl : Om X T W lo ml) (hh : Om X T W hi mh) : Em X T W (.Subscript e (.Slice lo hi none p2) pos) (mSl me ml mh) := PE.of (pe_slice or_sl he hl hh) fun σ H Q ⟨π, env, h, s, p⟩ => by
  refine ⟨π, env, h, s, p.bind.mono fun π1 H1 h1 d s1 g1 p1 x dx => ?_⟩
  refine ⟨π1, env, h1, s.step s1 g1, p1.bind.mono fun π2 H2 h2 lo s2 g2 p2 => ?_⟩
  refine ⟨π2, env, h2, (s.step s1 g1).step s2 g2, p2.bind.mono fun π3 H3 h3 hi s3 g3 p3 => ?_⟩
  have dx' := (dx.step s2 _ _).step s3 _ _
  unfold fSl at p3
  split at p3
  · obtain ⟨a, xs, rfl, t, q⟩ := dx'
    refine .inl ⟨a, xs, rfl, t.sq, fun z => ?_, fun z b n => post_tup g3 p3 (cutD_V q lo hi) b n⟩
    rw [q.len] at z
    rw [cut_whole z] at p3
    exact post_val g3 p3 ⟨a, xs, rfl, t, q⟩
  · obtain ⟨a, xs, rfl, t, q⟩ := dx'
    exact .inr (.inl ⟨a, xs, rfl, t.sq, fun b n => post_lst g3 p3 (cutD_V q lo hi) b n⟩)
  · obtain ⟨a, qa, rfl⟩ := dx'
    split at p3
    · rename_i e1
      obtain ⟨xs, ha, q⟩ := g3.lst e1 qa
      exact .inr (.inl ⟨a, xs, rfl, SqL.of ha, fun b n => post_lst g3 p3 (cutD_V q lo hi) b n⟩)
    · exact p3.elim
  · obtain rfl := (show x = _ from dx')
    split at p3
    · rename_i hl
      exact .inr (.inr ⟨_, rfl, szl hl, post_val g3 p3 rfl⟩)
    · exact p3.elim
  · exact p3.elim
theorem am_tup {es : List Expr} {x1} {mr : Ev → Hm → R (List D)} (ha : Am X T W es mr) (hl : es.length ≤ 1000) (hm : ∀ env h ds h', mr env h = .ok ds h' → ds.length = es.length) : Em X T W (.Tuple es x1 pos) (mTup mr) := PE.of (pe_tup ha) fun σ H Q ⟨π, env, h, s, p⟩ => by
  refine ⟨π, env, h, s, ?_⟩
  unfold mTup at p
  cases q : mr env h with
  | ok ds h' =>
    rw [q] at p
    have p' : Post (gx X T) W π σ H (R.ok (D.tup ds) h') (fun π' H' _ z => ∀ v, DV (gx X T).K π' H' z v → Q v H') := p
    intro π1 H1 s1 g1 vs dv
    refine ⟨szl (by rw [dv.len, hm _ _ _ _ q]; omega), fun a n => post_tup (W := W) (σ := σ) g1 ?_ dv a n⟩
    exact fun π2 H2 s2 g2 => p' π2 H2 (s1.trans s2) g2
  | exn x h' => rw [q] at p; exact p
  | bad => rw [q] at p; exact p
theorem am_lst {es : List Expr} {mr : Ev → Hm → R (List D)} (ha : Am X T W es mr) (hl : es.length ≤ 1000) (hm : ∀ env h ds h', mr env h = .ok ds h' → ds.length = es.length) : Em X T W (.List es pos) (mLst mr) := PE.of (pe_lst ha) fun σ H Q ⟨π, env, h, s, p⟩ => by
  refine ⟨π, env, h, s, ?_⟩
  unfold mLst at p
  cases q : mr env h with
  | ok ds h' =>
    rw [q] at p
    have p' : Post (gx X T) W π σ H (R.ok (D.ref h'.length) (h' ++ [O.lst ds])) (fun π' H' _ z => ∀ v, DV (gx X T).K π' H' z v → Q v H') := p
    intro π1 H1 s1 g1 vs dv
    refine ⟨szl (by rw [dv.len, hm _ _ _ _ q]; omega), fun a n => post_lst (W := W) (σ := σ) g1 ?_ dv a n⟩
    exact fun π2 H2 s2 g2 => p' π2 H2 (s1.trans s2) g2
  | exn x h' => rw [q] at p; exact p
  | bad => rw [q] at p; exact p
end
end MM

namespace MM
open PySem L2

abbrev Fc := List D → Hm → R D
def OpC (G : Gx) (r : List V → Hp → VK → Prop) (f : Fc) : Prop := ∀ (W : WX) (π : List Addr) (σ : L2.St) (h : Hm) (H : Hp) (ds : List D) (xs : List V) (Q : VK), Good G π h H → DVs G.K π H ds xs → Post G W π σ H (f ds h) (fun π' H' _ z => ∀ v, DV G.K π' H' z v → Q v H') → r xs H Q
def mCall (f : Fc) (mr : Ev → Hm → R (List D)) : Ev → Hm → R D := fun env h => (mr env h).bind f
section
variable {X : Cx} {T : List (Addr × Str)} {W : WX} {e : Expr} {es : List Expr} {x : Str} {id : String} {p pos : Pos} {r : List V → Hp → VK → Prop} {f : Fc} {mr : Ev → Hm → R (List D)}
theorem tCB_of (ho : OpC (gx X T) r f) {σ : L2.St} {H : Hp} {Q : VK} (q : tE (gx X T) W (mCall f mr) σ H Q) : tCB r (tL (gx X T) W mr) σ H Q := by
  obtain ⟨π, env, h, s, q⟩ := q
  refine ⟨π, env, h, s, q.bind.mono fun π1 H1 h1 ds s1 g1 p1 xs dx => ?_⟩
  exact ho W π1 σ h1 H1 ds xs Q g1 dx p1
theorem em_callB (hc : CallR X (.builtin id) r) (ho : OpC (gx X T) r f) (hg : Gl X x) (hm : X.mg x = none) (ha : Am X T W (e :: es) mr) (hv : bootBuiltins x = some (.builtin id)) (hn : x ≠ "__name__" := by decide) (hdb : (x == ("__debug__" : Str)) = false := by decide)
    (he : starEach (e :: es) X.env = (false, eval e X.env) :: starEach es X.env := by rfl) (hpl : (backTo pos (starEach es X.env)).any (·.1) = false := by rfl) : Em X T W (.Call (.Name x p) (e :: es) [] pos) (mCall f mr) :=
  PE.of (pe_callB hc hg hm hv ha hn hdb he hpl) fun σ H Q q => tCB_of ho q
theorem em_callTy (hc : CallR X (.type id) r) (ho : OpC (gx X T) r f) (hg : Gl X x) (hm : X.mg x = none) (ha : Am X T W (e :: es) mr) (hv : bootBuiltins x = some (.type id)) (hn : x ≠ "__name__" := by decide) (hdb : (x == ("__debug__" : Str)) = false := by decide)
    (he : starEach (e :: es) X.env = (false, eval e X.env) :: starEach es X.env := by rfl) (hpl : (backTo pos (starEach es X.env)).any (·.1) = false := by rfl) : Em X T W (.Call (.Name x p) (e :: es) [] pos) (mCall f mr) :=
  PE.of (pe_callTy hc hg hm hv ha hn hdb he hpl) fun σ H Q q => tCB_of ho q
end
def intsD : List D → Option (List Int)
  | [] => some []
  | .int i :: r => (intsD r).map (i :: ·)
  | _ => none
theorem intsD_eq : ∀ {ds : List D} {ns : List Int}, intsD ds = some ns → ds = ns.map D.int
  | [], ns, e => by cases e; rfl
  | d :: r, ns, e => by
    cases d <;> first
      | cases e
      | (rename_i i
         have e' : (intsD r).map (i :: ·) = some ns := e
         obtain ⟨ms, e1, rfl⟩ := map_some e'
         rw [intsD_eq e1] <;> rfl)
theorem DVs.ints {K : PySem.W.Frag} {π : List Addr} {H : Hp} : ∀ {ns : List Int} {xs : List V}, DVs K π H (ns.map D.int) xs → xs = ns.map V.int
  | [], _, h => h
  | i :: r, _, ⟨v, vs, e, h, q⟩ => by
    rw [e, show v = V.int i from h, DVs.ints q] <;> rfl
theorem DVs.ofInts {K : PySem.W.Frag} {π : List Addr} {H : Hp} : ∀ {ns : List Int}, DVs K π H (ns.map D.int) (ns.map V.int)
  | [] => rfl
  | i :: r => ⟨.int i, _, rfl, rfl, DVs.ofInts⟩
def fAbs : Fc := fun ds h => match ds with
  | [.int i] => .ok (.int (if i < 0 then -i else i)) h
  | _ => .bad
def fMax2 : Fc := fun ds h => match ds with
  | [.int i, .int j] => .ok (.int (if j > i then j else i)) h
  | _ => .bad
def fMin2 : Fc := fun ds h => match ds with
  | [.int i, .int j] => .ok (.int (if j < i then j else i)) h
  | _ => .bad
def fInt : Fc := fun ds h => match ds with
  | [.int i] => .ok (.int i) h
  | [.bl k] => .ok (.int (if k then 1 else 0)) h
  | _ => .bad
def lenD (h : Hm) : D → Option Nat
  | .str x => if x.length ≤ 16777216 then some x.length else none
  | .tup ds => some ds.length
  | .rol ds => some ds.length
  | .ref i => match h[i]? with
    | some (.lst ds) => some ds.length
    | some (.dic kvs) => some kvs.length
    | _ => none
  | _ => none
def fLen : Fc := fun ds h => match ds with
  | [d] => match lenD h d with
    | some n => .ok (.int n) h
    | none => .bad
  | _ => .bad
/-- the items of a list or a tuple -/
def itemsD (h : Hm) : D → Option (List D)
  | .tup ds => some ds
  | .rol ds => some ds
  | .ref i => match h[i]? with
    | some (.lst ds) => some ds
    | _ => none
  | _ => none
def fList : Fc := fun ds h => match ds with
  | [d] => match itemsD h d with
    | some xs => .ok (.ref h.length) (h ++ [.lst xs])
    | none => .bad
  | _ => .bad
def fTuple : Fc := fun ds h => match ds with
  | [d] => match itemsD h d with
    | some xs => .ok (.tup xs) h
    | none => .bad
  | _ => .bad
def fSum : Fc := fun ds h => match ds with
  | [.tup _] => .bad
  | [d] => match (itemsD h d).bind intsD with
    | some xs => .ok (.int xs.sum) h
    | none => .bad
  | _ => .bad
def fStr : Fc := fun ds h => match ds with
  | [.int i] => if i.natAbs.log2 < 1920 then .ok (.str (toString i)) h else .bad
  | [.str x] => .ok (.str x) h
  | _ => .bad
section
variable {G : Gx} {π : List Addr} {h : Hm} {H : Hp}
theorem items_V (g : Good G π h H) {d : D} {x : V} {ds : List D} (dx : DV G.K π H d x) (e : itemsD h d = some ds) : ∃ a xs, x = .ref a ∧ (SqL G.K H a xs ∨ SqT G.K H a xs) ∧ DVs G.K π H ds xs := by
  cases d with
  | tup ds' => obtain ⟨a, xs, rfl, t, q⟩ := dx; cases e; exact ⟨a, xs, rfl, .inr t.sq, q⟩
  | rol ds' => obtain ⟨a, xs, rfl, t, q⟩ := dx; cases e; exact ⟨a, xs, rfl, .inl t.sq, q⟩
  | ref i =>
    obtain ⟨a, qa, rfl⟩ := dx
    have e' : (match h[i]? with
      | some (.lst ds) => some ds
      | _ => none) = some ds := e
    split at e'
    · rename_i e0
      cases e'
      obtain ⟨xs, ha, q⟩ := g.lst e0 qa
      exact ⟨a, xs, rfl, .inl (SqL.of ha), q⟩
    · cases e'
  | _ => cases e
theorem oc_abs : OpC G (fun xs H Q => ∃ i, xs = [.int i] ∧ Q (.int (if i < 0 then -i else i)) H) fAbs := by
  intro W π σ h H ds xs Q g dx p
  unfold fAbs at p
  split at p
  · obtain ⟨v, vs, rfl, d1, e⟩ := dx
    obtain rfl := (show vs = [] from e)
    obtain rfl := (show v = _ from d1)
    exact ⟨_, rfl, post_val g p rfl⟩
  · exact p.elim
theorem oc_max2 : OpC G (fun xs H Q => ∃ i j, xs = [.int i, .int j] ∧ Q (.int (if j > i then j else i)) H) fMax2 := by
  intro W π σ h H ds xs Q g dx p
  unfold fMax2 at p
  split at p
  · obtain ⟨v, vs, rfl, d1, w, ws, rfl, d2, e⟩ := dx
    obtain rfl := (show ws = [] from e)
    obtain rfl := (show v = _ from d1)
    obtain rfl := (show w = _ from d2)
    exact ⟨_, _, rfl, post_val g p rfl⟩
  · exact p.elim
theorem oc_min2 : OpC G (fun xs H Q => ∃ i j, xs = [.int i, .int j] ∧ Q (.int (if j < i then j else i)) H) fMin2 := by
  intro W π σ h H ds xs Q g dx p
  unfold fMin2 at p
  split at p
  · obtain ⟨v, vs, rfl, d1, w, ws, rfl, d2, e⟩ := dx
    obtain rfl := (show ws = [] from e)
    obtain rfl := (show v = _ from d1)
    obtain rfl := (show w = _ from d2)
    exact ⟨_, _, rfl, post_val g p rfl⟩
  · exact p.elim
theorem oc_int : OpC G (fun xs H Q => (∃ i, xs = [.int i] ∧ Q (.int i) H) ∨ ∃ k, xs = [.bl k] ∧ Q (.int (if k then 1 else 0)) H) fInt := by
  intro W π σ h H ds xs Q g dx p
  unfold fInt at p
  split at p
  · obtain ⟨v, vs, rfl, d1, e⟩ := dx
    obtain rfl := (show vs = [] from e)
    obtain rfl := (show v = _ from d1)
    exact .inl ⟨_, rfl, post_val g p rfl⟩
  · obtain ⟨v, vs, rfl, d1, e⟩ := dx
    obtain rfl := (show vs = [] from e)
    obtain rfl := (show v = _ from d1)
    exact .inr ⟨_, rfl, post_val g p rfl⟩
  · exact p.elim
def rLenM (K : PySem.W.Frag) : List V → Hp → VK → Prop := fun xs H Q => (∃ x n, xs = [x] ∧ LenV K x H n ∧ Q (.int n) H) ∨ ∃ a kvs, xs = [V.ref a] ∧ H a = some (.dK kvs) ∧ Q (.int kvs.length) H
theorem cr_len {X : Cx} : CallR X (.builtin "len") (rLenM X.K) := CallR.or call_len call_lenD
theorem oc_len : OpC G (rLenM G.K) fLen := by
  intro W π σ h H ds xs Q g dx p
  unfold fLen at p
  split at p
  · rename_i d
    obtain ⟨v, vs, rfl, d1, e⟩ := dx
    obtain rfl := (show vs = [] from e)
    split at p
    · rename_i n en
      cases d with
      | str x =>
        obtain rfl := (show v = _ from d1)
        have e' : (if x.length ≤ 16777216 then some x.length else none) = some n := en
        by_cases hl : x.length ≤ 16777216
        · rw [if_pos hl] at e'
          cases e'
          exact .inl ⟨_, _, rfl, ⟨szl hl, rfl⟩, post_val g p rfl⟩
        · rw [if_neg hl] at e'
          cases e'
      | tup ds =>
        cases en
        obtain ⟨a, xs, rfl, t, q⟩ := d1
        exact .inl ⟨_, _, rfl, .inr ⟨xs, t.sq, q.len.symm⟩, post_val g p rfl⟩
      | rol ds =>
        cases en
        obtain ⟨a, xs, rfl, t, q⟩ := d1
        exact .inl ⟨_, _, rfl, .inl ⟨xs, t.sq, q.len.symm⟩, post_val g p rfl⟩
      | ref i =>
        obtain ⟨a, qa, rfl⟩ := d1
        have e' : (match h[i]? with
          | some (.lst ds) => some ds.length
          | some (.dic kvs) => some kvs.length
          | _ => none) = some n := en
        split at e'
        · rename_i e0
          cases e'
          obtain ⟨xs, ha, q⟩ := g.lst e0 qa
          exact .inl ⟨_, _, rfl, .inl ⟨xs, SqL.of ha, q.len.symm⟩, post_val g p rfl⟩
        · rename_i e0
          cases e'
          obtain ⟨xs, ha, q⟩ := g.obj e0 qa
          refine .inr ⟨a, xs, rfl, ha, ?_⟩
          rw [q.len]
          exact post_val g p rfl
        · cases e'
      | _ => cases en
    · exact p.elim
  · exact p.elim
theorem oc_list : OpC G (fun xs H Q => ∃ p ys, xs = [.ref p] ∧ (SqL G.K H p ys ∨ SqT G.K H p ys) ∧ ∀ l, H l = none → Q (.ref l) (upd H l (.lst ys))) fList := by
  intro W π σ h H ds xs Q g dx p
  unfold fList at p
  split at p
  · obtain ⟨v, vs, rfl, d1, e⟩ := dx
    obtain rfl := (show vs = [] from e)
    split at p
    · rename_i e0
      obtain ⟨a, ys, rfl, k, q⟩ := items_V g d1 e0
      exact ⟨a, ys, rfl, k, fun l n => post_lst g p q l n⟩
    · exact p.elim
  · exact p.elim
theorem oc_tuple : OpC G (fun xs H Q => ∃ p ys, xs = [.ref p] ∧ ((SqL G.K H p ys ∧ ∀ l, H l = none → Q (.ref l) (upd H l (.tup ys))) ∨ (SqT G.K H p ys ∧ Q (.ref p) H))) fTuple := by
  intro W π σ h H ds xs Q g dx p
  unfold fTuple at p
  split at p
  · rename_i d
    obtain ⟨v, vs, rfl, d1, e⟩ := dx
    obtain rfl := (show vs = [] from e)
    split at p
    · rename_i ys0 e0
      by_cases ht : ∃ ds, d = .tup ds
      · obtain ⟨ds', rfl⟩ := ht
        obtain ⟨a, ys, rfl, t, q⟩ := d1
        cases e0
        exact ⟨a, ys, rfl, .inr ⟨t.sq, post_val g p ⟨a, ys, rfl, t, q⟩⟩⟩
      · have z : ∃ a xs, v = .ref a ∧ SqL G.K H a xs ∧ DVs G.K π H ys0 xs := by
          cases d with
          | tup ds' => exact absurd ⟨_, rfl⟩ ht
          | rol ds' => obtain ⟨a, xs, rfl, t, q⟩ := d1; cases e0; exact ⟨a, xs, rfl, t.sq, q⟩
          | ref i =>
            obtain ⟨a, qa, rfl⟩ := d1
            have e' : (match h[i]? with
              | some (.lst ds) => some ds
              | _ => none) = some ys0 := e0
            split at e'
            · rename_i e0
              cases e'
              obtain ⟨xs, ha, q⟩ := g.lst e0 qa
              exact ⟨a, xs, rfl, SqL.of ha, q⟩
            · cases e'
          | _ => cases e0
        obtain ⟨a, ys, rfl, k, q⟩ := z
        exact ⟨a, ys, rfl, .inl ⟨k, fun l n => post_tup g p q l n⟩⟩
    · exact p.elim
  · exact p.elim
theorem oc_sum : OpC G (rSum G.K) fSum := by
  intro W π σ h H ds xs Q g dx p
  unfold fSum at p
  split at p
  · exact p.elim
  · rename_i d nt
    obtain ⟨v, vs, rfl, d1, e⟩ := dx
    obtain rfl := (show vs = [] from e)
    split at p
    · rename_i ns e0
      cases e1 : itemsD h d with
      | none => rw [e1] at e0; cases e0
      | some ds =>
        rw [e1] at e0
        have e2 := intsD_eq (show intsD ds = some ns from e0)
        subst e2
        cases d with
        | tup ds' => exact (nt ds' rfl).elim
        | rol ds' =>
          obtain ⟨a, xs, rfl, t, q⟩ := d1
          cases e1
          have e3 := q.ints
          subst e3
          exact ⟨a, ns, rfl, t.sq, post_val g p rfl⟩
        | ref i =>
          obtain ⟨a, qa, rfl⟩ := d1
          have e' : (match h[i]? with
            | some (.lst ds) => some ds
            | _ => none) = some (ns.map D.int) := e1
          split at e'
          · rename_i e0
            cases e'
            obtain ⟨xs, ha, q⟩ := g.lst e0 qa
            have e3 := q.ints
            subst e3
            exact ⟨a, ns, rfl, SqL.of ha, post_val g p rfl⟩
          · cases e'
        | _ => cases e1
    · exact p.elim
  · exact p.elim
def rStrM : List V → Hp → VK → Prop := fun xs H Q => (∃ i, xs = [.int i] ∧ i.natAbs.log2 < 1920 ∧ Q (.str (toString i)) H) ∨ ∃ a, xs = [.str a] ∧ Q (.str a) H
theorem oc_str : OpC G rStrM fStr := by
  intro W π σ h H ds xs Q g dx p
  unfold fStr at p
  split at p
  · obtain ⟨v, vs, rfl, d1, e⟩ := dx
    obtain rfl := (show vs = [] from e)
    obtain rfl := (show v = _ from d1)
    split at p
    · rename_i hl
      exact .inl ⟨_, rfl, hl, post_val g p rfl⟩
    · exact p.elim
  · obtain ⟨v, vs, rfl, d1, e⟩ := dx
    obtain rfl := (show vs = [] from e)
    obtain rfl := (show v = _ from d1)
    exact .inr ⟨_, rfl, post_val g p rfl⟩
  · exact p.elim
end

abbrev Fm := D → List D → Hm → R D
def mMeth (tg : Hm → D → Bool) (f : Fm) (mo : Ev → Hm → R D) (mr : Ev → Hm → R (List D)) : Ev → Hm → R D := fun env h => (mo env h).bind fun x h1 => if tg h1 x = true then (mr env h1).bind fun ds h2 => f x ds h2 else .bad
def isL (h : Hm) : D → Bool
  | .rol _ => true
  | .ref i => match h[i]? with
    | some (.lst _) => true
    | _ => false
  | _ => false
def isD (h : Hm) : D → Bool
  | .ref i => match h[i]? with
    | some (.dic _) => true
    | _ => false
  | _ => false
def isS (_ : Hm) : D → Bool
  | .str _ => true
  | _ => false
def OpM (G : Gx) (r : V → List V → Hp → VK → Prop) (f : Fm) : Prop := ∀ (W : WX) (π : List Addr) (σ : L2.St) (h : Hm) (H : Hp) (d : D) (x : V) (ds : List D) (xs : List V) (Q : VK), Good G π h H → DV G.K π H d x → DVs G.K π H ds xs → Post G W π σ H (f d ds h) (fun π' H' _ z => ∀ v, DV G.K π' H' z v → Q v H') → r x xs H Q
def TyM (G : Gx) (tn : String) (tg : Hm → D → Bool) : Prop := ∀ (π : List Addr) (h : Hm) (H : Hp) (d : D) (x : V), Good G π h H → DV G.K π H d x → tg h d = true → tyV G.K tn x H
theorem tyL {G : Gx} : TyM G "list" isL := by
  intro π h H d x g dx e
  cases d with
  | rol ds => obtain ⟨a, xs, rfl, t, q⟩ := dx; exact .inl ⟨rfl, xs, t.sq⟩
  | ref i =>
    obtain ⟨a, qa, rfl⟩ := dx
    have e' : (match h[i]? with
      | some (.lst _) => true
      | _ => false) = true := e
    split at e'
    · rename_i e0
      obtain ⟨xs, ha, q⟩ := g.lst e0 qa
      exact .inl ⟨rfl, xs, SqL.of ha⟩
    · cases e'
  | _ => cases e
theorem tyD {G : Gx} : TyM G "dict" isD := by
  intro π h H d x g dx e
  cases d with
  | ref i =>
    obtain ⟨a, qa, rfl⟩ := dx
    have e' : (match h[i]? with
      | some (.dic _) => true
      | _ => false) = true := e
    split at e'
    · rename_i e0
      obtain ⟨xs, ha, q⟩ := g.obj e0 qa
      exact .inr (.inr (.inl ⟨rfl, .inl ⟨xs, ha⟩⟩))
    · cases e'
  | _ => cases e
theorem tyS {G : Gx} : TyM G "str" isS := by
  intro π h H d x g dx e
  cases d with
  | str i => obtain rfl := (show x = _ from dx); rfl
  | _ => cases e
section
variable {X : Cx} {T : List (Addr × Str)} {W : WX} {o e : Expr} {es : List Expr} {mo : Ev → Hm → R D} {mr : Ev → Hm → R (List D)} {name : Str} {apos cpos : Pos} {tn id : String} {r : V → List V → Hp → VK → Prop} {f : Fm} {tg : Hm → D → Bool}
theorem em_bm (pa : PlainAttrs tn) (slot : Slot tn name id) (hty : typeOf (.builtin id) = pure (.type "method_descriptor")) (hm : MtR X id r) (ht : TyM (gx X T) tn tg) (hf : OpM (gx X T) r f) (ho : Em X T W o mo) (ha : Am X T W (e :: es) mr)
    (hbase : attributeBase o name X.env (eval o X.env) = eval o X.env := by rfl)
    (hfew : ((backTo cpos (starEach (e :: es) X.env)).all (fun x => !x.1) && (backToKw cpos (keywordEach [] X.env)).all (fun x => x.1.isSome)
      && decide ((e :: es).length + ([] : List Keyword).length + (if ([] : List Keyword).isEmpty then 0 else 1) < 30)) = true := by rfl)
    (hline : (apos.endLine == cpos.line) = true := by rfl) (hs : starEach (e :: es) X.env = (false, eval e X.env) :: starEach es X.env := by rfl) (hplain : (backTo cpos (starEach es X.env)).any (·.1) = false := by rfl) :
    Em X T W (.Call (.Attribute o name apos) (e :: es) [] cpos) (mMeth tg f mo mr) := PE.of (pe_bm pa slot hty hm ho ha hbase hfew hline hs hplain) fun σ H Q ⟨π, env, h, s, p⟩ => by
  refine ⟨π, env, h, s, p.bind.mono fun π1 H1 h1 d s1 g1 p1 x dx => ?_⟩
  by_cases q : tg h1 d = true
  · rw [if_pos q] at p1
    refine ⟨ht _ _ _ _ _ g1 dx q, π1, env, h1, s.step s1 g1, p1.bind.mono fun π2 H2 h2 ds s2 g2 p2 xs dxs => ?_⟩
    exact hf W π2 σ h2 H2 d x ds xs Q g2 (dx.step s2 _ _) dxs p2
  · rw [if_neg q] at p1
    exact p1.elim
theorem em_bm0 (pa : PlainAttrs tn) (slot : Slot tn name id) (hty : typeOf (.builtin id) = pure (.type "method_descriptor")) (hm : MtR X id r) (ht : TyM (gx X T) tn tg) (hf : OpM (gx X T) r f) (ho : Em X T W o mo)
    (hbase : attributeBase o name X.env (eval o X.env) = eval o X.env := by rfl) (hline : (apos.endLine == cpos.line) = true := by rfl) : Em X T W (.Call (.Attribute o name apos) [] [] cpos) (mMeth tg f mo mNil) := PE.of (pe_bm0 pa slot hty hm ho hbase hline) fun σ H Q ⟨π, env, h, s, p⟩ => by
  refine ⟨π, env, h, s, p.bind.mono fun π1 H1 h1 d s1 g1 p1 x dx => ?_⟩
  by_cases q : tg h1 d = true
  · rw [if_pos q] at p1
    exact ⟨ht _ _ _ _ _ g1 dx q, hf W π1 σ h1 H1 d x [] [] Q g1 dx rfl p1⟩
  · rw [if_neg q] at p1
    exact p1.elim
end
section
variable {G : Gx} {π : List Addr} {h : Hm} {H : Hp}
/-- an object of ours is written -/
theorem post_put {W : WX} {σ : L2.St} {i : Nat} {a : Addr} {u : HO} {o : O} {d : D} {v : V} {Q : VK} (g : Good G π h H) (m : π[i]? = some a) (nf : ∀ o u, H a ≠ some (.frz o u)) (w : OV G π (upd H a u) a o) (p : Post G W π σ H (.ok d (h.set i o)) fun π' H' _ z => ∀ v, DV G.K π' H' z v → Q v H') (dv : DV G.K π (upd H a u) d v) : Q v (upd H a u) :=
  p π _ (Step.put m nf) (g.put m nf w) v dv
theorem post_putL {W : WX} {σ : L2.St} {i : Nat} {a : Addr} {ds : List D} {ys : List V} {d : D} {v : V} {Q : VK} (g : Good G π h H) (m : π[i]? = some a) (nf : ∀ o u, H a ≠ some (.frz o u)) (p : Post G W π σ H (.ok d (h.set i (.lst ds))) fun π' H' _ z => ∀ v, DV G.K π' H' z v → Q v H') (q : DVs G.K π H ds ys) (dv : DV G.K π H d v) : Q v (upd H a (.lst ys)) :=
  post_put (o := .lst ds) g m nf ⟨ys, upd_same, q.step (Step.put m nf) _ _⟩ p (dv.step (Step.put m nf) _ _)
def fAppend : Fm := fun x ds h => match x, ds with
  | .ref i, [y] => match h[i]? with
    | some (.lst a) => if a.length < 16777216 then .ok .non (h.set i (.lst (a ++ [y]))) else .bad
    | _ => .bad
  | _, _ => .bad
theorem om_append : OpM G rAppend fAppend := by
  intro W π σ h H d x ds xs Q g dx dxs p
  unfold fAppend at p
  split at p
  · obtain ⟨a, qa, rfl⟩ := dx
    obtain ⟨v, vs, rfl, d1, e⟩ := dxs
    obtain rfl := (show vs = [] from e)
    split at p
    · rename_i e0
      split at p
      · rename_i hl
        obtain ⟨ys, ha, q⟩ := g.lst e0 qa
        exact ⟨a, ys, v, rfl, rfl, ha, szl' (by rw [q.len]; exact hl), post_putL g qa (nfz ha fun _ _ z => (by cases z)) p (q.snoc d1) rfl⟩
      · exact p.elim
    · exact p.elim
  · exact p.elim
def fExtend : Fm := fun x ds h => match x, ds with
  | .ref i, [.ref j] => match h[i]?, h[j]? with
    | some (.lst a), some (.lst b) => if a.length + b.length ≤ 16777216 then .ok .non (h.set i (.lst (a ++ b))) else .bad
    | _, _ => .bad
  | _, _ => .bad
theorem om_extend : OpM G rExtend fExtend := by
  intro W π σ h H d x ds xs Q g dx dxs p
  unfold fExtend at p
  split at p
  · obtain ⟨a, qa, rfl⟩ := dx
    obtain ⟨v, vs, rfl, ⟨b, qb, rfl⟩, e⟩ := dxs
    obtain rfl := (show vs = [] from e)
    split at p
    · rename_i e0 e1
      split at p
      · rename_i hl
        obtain ⟨ys, ha, q⟩ := g.lst e0 qa
        obtain ⟨zs, hb, q2⟩ := g.lst e1 qb
        exact ⟨a, b, ys, zs, rfl, rfl, ha, hb, szl (by rw [q.len, q2.len]; exact hl), post_putL g qa (nfz ha fun _ _ z => (by cases z)) p (q.app q2) rfl⟩
      · exact p.elim
    · exact p.elim
  · exact p.elim
def fPop : Fm := fun x ds h => match x, ds with
  | .ref i, [] => match h[i]? with
    | some (.lst a) => match a[a.length - 1]? with
      | some y => .ok y (h.set i (.lst a.dropLast))
      | none => .bad
    | _ => .bad
  | .ref i, [.int k] => match h[i]? with
    | some (.lst a) => match ixN a.length k with
      | some j => match a[j]? with
        | some y => if a.length ≤ 16777216 then .ok y (h.set i (.lst (a.eraseIdx j))) else .bad
        | none => .bad
      | none => .bad
    | _ => .bad
  | _, _ => .bad
theorem DVs.dropLast {K : PySem.W.Frag} {π : List Addr} {H : Hp} {ds : List D} {xs : List V} (h : DVs K π H ds xs) : DVs K π H ds.dropLast xs.dropLast := by
  rw [List.dropLast_eq_take, List.dropLast_eq_take, h.len]
  exact h.take _
theorem om_pop : OpM G (fun x xs H Q => rPop x xs H Q ∨ rPopAt x xs H Q) fPop := by
  intro W π σ h H d x ds xs Q g dx dxs p
  unfold fPop at p
  split at p
  · obtain ⟨a, qa, rfl⟩ := dx
    obtain rfl := (show xs = [] from dxs)
    split at p
    · rename_i e0
      split at p
      · rename_i y e1
        obtain ⟨ys, ha, q⟩ := g.lst e0 qa
        rw [← q.len] at e1
        obtain ⟨v, h1, h2⟩ := q.get e1
        exact .inl ⟨a, ys, v, rfl, rfl, ha, h1, post_putL g qa (nfz ha fun _ _ z => (by cases z)) p q.dropLast h2⟩
      · exact p.elim
    · exact p.elim
  · obtain ⟨a, qa, rfl⟩ := dx
    obtain ⟨v, vs, rfl, d1, e⟩ := dxs
    obtain rfl := (show vs = [] from e)
    obtain rfl := (show v = _ from d1)
    split at p
    · rename_i e0
      split at p
      · rename_i j ej
        split at p
        · rename_i y ey
          split at p
          · rename_i hl
            obtain ⟨ys, ha, q⟩ := g.lst e0 qa
            rw [← q.len] at ej hl
            obtain ⟨z1, z2, z3, z4⟩ := ixN_seq ej
            obtain ⟨v, h1, h2⟩ := q.get ey
            exact .inr ⟨a, ys, _, j, v, rfl, rfl, ha, by omega, by omega, z1, h1, post_putL g qa (nfz ha fun _ _ z => (by cases z)) p (q.erase j) h2⟩
          · exact p.elim
        · exact p.elim
      · exact p.elim
    · exact p.elim
  · exact p.elim
def fClear : Fm := fun x ds h => match x, ds with
  | .ref i, [] => match h[i]? with
    | some (.lst _) => .ok .non (h.set i (.lst []))
    | _ => .bad
  | _, _ => .bad
theorem om_clear : OpM G rClear fClear := by
  intro W π σ h H d x ds xs Q g dx dxs p
  unfold fClear at p
  split at p
  · obtain ⟨a, qa, rfl⟩ := dx
    obtain rfl := (show xs = [] from dxs)
    split at p
    · rename_i e0
      obtain ⟨ys, ha, q⟩ := g.lst e0 qa
      exact ⟨a, ys, rfl, rfl, ha, post_putL (ys := []) g qa (nfz ha fun _ _ z => (by cases z)) p rfl rfl⟩
    · exact p.elim
  · exact p.elim
def fRemove : Fm := fun x ds h => match x, ds with
  | .ref i, [.int k] => match h[i]? with
    | some (.lst a) => match intsD a with
      | some ns => match ns.findIdx? (fun z => decide (z = k)) with
        | some j => .ok .non (h.set i (.lst ((ns.eraseIdx j).map D.int)))
        | none => .bad
      | none => .bad
    | _ => .bad
  | _, _ => .bad
theorem om_remove : OpM G rRemI fRemove := by
  intro W π σ h H d x ds xs Q g dx dxs p
  unfold fRemove at p
  split at p
  · rename_i k
    obtain ⟨a, qa, rfl⟩ := dx
    obtain ⟨v, vs, rfl, d1, e⟩ := dxs
    obtain rfl := (show vs = [] from e)
    obtain rfl := (show v = _ from d1)
    split at p
    · rename_i e0
      split at p
      · rename_i ns ens
        split at p
        · rename_i j ej
          obtain ⟨ys, ha, q⟩ := g.lst e0 qa
          rw [intsD_eq ens] at q
          have e3 := q.ints
          subst e3
          obtain ⟨hj, h1, h2⟩ := List.findIdx?_eq_some_iff_getElem.mp ej
          refine ⟨a, ns, k, j, rfl, rfl, ha, by rw [List.getElem?_eq_getElem hj, of_decide_eq_true h1], fun m hm z => ?_, post_putL g qa (nfz ha fun _ _ z => (by cases z)) p DVs.ofInts rfl⟩
          have := h2 m hm
          rw [List.getElem?_eq_getElem (by omega)] at z
          exact absurd (Option.some.inj z) (by simpa using this)
        · exact p.elim
      · exact p.elim
    · exact p.elim
  · exact p.elim
def fIndex : Fm := fun x ds h => match ds with
  | [y] => match x with
    | .tup _ => .bad
    | x => match itemsD h x with
      | some zs => if flatD y = true ∧ zs.all flatD = true then match zs.findIdx? (fun z => eqF z y) with
          | some j => .ok (.int j) h
          | none => .bad else .bad
      | none => .bad
  | _ => .bad
theorem DVs.getR {K : PySem.W.Frag} {π : List Addr} {H : Hp} {ds : List D} {xs : List V} {i : Nat} {v : V} (h : DVs K π H ds xs) (e : xs[i]? = some v) : ∃ d, ds[i]? = some d ∧ DV K π H d v := by
  have hi : i < ds.length := by rw [← h.len]; exact (List.getElem?_eq_some_iff.mp e).1
  have e1 : ds[i]? = some ds[i] := List.getElem?_eq_getElem hi
  obtain ⟨w, h1, h2⟩ := h.get e1
  rw [e] at h1
  cases h1
  exact ⟨_, e1, h2⟩
theorem om_index : OpM G (rIndex G.K) fIndex := by
  intro W π σ h H d x ds xs Q g dx dxs p
  unfold fIndex at p
  split at p
  · obtain ⟨v, vs, rfl, d1, e⟩ := dxs
    obtain rfl := (show vs = [] from e)
    split at p
    · exact p.elim
    · rename_i dd nt
      split at p
      · rename_i zs ez
        split at p
        · rename_i f
          split at p
          · rename_i j ej
            have z : ∃ a xs, x = .ref a ∧ SqL G.K H a xs ∧ DVs G.K π H zs xs := by
              cases d with
              | tup ds' => exact (nt _ rfl).elim
              | rol ds' => obtain ⟨a, xs, rfl, t, q⟩ := dx; cases ez; exact ⟨a, xs, rfl, t.sq, q⟩
              | ref i =>
                obtain ⟨a, qa, rfl⟩ := dx
                have e' : (match h[i]? with
                  | some (.lst ds) => some ds
                  | _ => none) = some zs := ez
                split at e'
                · rename_i e0
                  cases e'
                  obtain ⟨xs, ha, q⟩ := g.lst e0 qa
                  exact ⟨a, xs, rfl, SqL.of ha, q⟩
                · cases e'
              | _ => cases ez
            obtain ⟨a, ys, rfl, k, q⟩ := z
            obtain ⟨hj, h1, h2⟩ := List.findIdx?_eq_some_iff_getElem.mp ej
            obtain ⟨w, w1, w2⟩ := q.get (List.getElem?_eq_getElem hj)
            have fl := List.all_eq_true.mp f.2
            refine ⟨a, ys, v, j, w, rfl, rfl, k, flatD_V f.1 d1, flatDs_V f.2 q, w1, ?_, fun m z' hm hz' => ?_, post_val g p rfl⟩
            · rw [eqF_V (fl _ (List.getElem_mem hj)) f.1 w2 d1]
              exact h1
            · obtain ⟨d', hd1, hd2⟩ := q.getR hz'
              rw [eqF_V (fl _ (List.mem_of_getElem? hd1)) f.1 hd2 d1]
              have := h2 m hm
              rw [List.getElem?_eq_getElem (by omega)] at hd1
              cases hd1
              simpa using this
          · exact p.elim
        · exact p.elim
      · exact p.elim
  · exact p.elim
end
section
variable {X : Cx} {T : List (Addr × Str)} {W : WX} {o e e2 : Expr} {mo me me2 : Ev → Hm → R D} {mr : Ev → Hm → R (List D)} {apos cpos : Pos}
theorem mt_popM {X : Cx} : MtR X "list.pop" (fun x xs H Q => rPop x xs H Q ∨ rPopAt x xs H Q) := MtR.or mt_pop mt_popAt
/-- d.get(k, x) -/
def mGet (mo a b : Ev → Hm → R D) : Ev → Hm → R D := fun env h => (mo env h).bind fun x h1 => if isD h1 x = true then (a env h1).bind fun k h2 => (b env h2).bind fun y h3 => match x, keyD k with
  | .ref i, some k => match h3[i]? with
    | some (.dic kvs) => .ok ((getK kvs k).getD y) h3
    | _ => .bad
  | _, _ => .bad else .bad
theorem em_get2 (hu : X.A.units + 1 < cLine) (ho : Em X T W o mo) (h1 : Em X T W e me) (h2 : Em X T W e2 me2) (m : M2 X o "get" apos e e2 cpos) : Em X T W (.Call (.Attribute o "get" apos) [e, e2] [] cpos) (mGet mo me me2) := PE.of (pe_dget2 hu ho h1 h2 m) fun σ H Q ⟨π, env, h, s, p⟩ => by
  refine ⟨π, env, h, s, p.bind.mono fun π1 H1 h1 d s1 g1 p1 x dx => ?_⟩
  by_cases q : isD h1 d = true
  · rw [if_pos q] at p1
    cases d with
    | ref i =>
      obtain ⟨a, qa, rfl⟩ := dx
      refine ⟨a, rfl, ?_, π1, env, h1, s.step s1 g1, p1.bind.mono fun π2 H2 h2 k s2 g2 p2 y dy => ⟨π2, env, h2, (s.step s1 g1).step s2 g2, p2.bind.mono fun π3 H3 h3 z s3 g3 p3 w dw => ?_⟩⟩
      · have e' : (match h1[i]? with
          | some (.dic _) => true
          | _ => false) = true := q
        split at e'
        · rename_i e0
          obtain ⟨xs, ha, q⟩ := g1.obj e0 qa
          exact .inl ⟨xs, .inl ha⟩
        · cases e'
      · split at p3
        · rename_i i' kk ex ek
          cases ex
          split at p3
          · rename_i kvs e0
            obtain ⟨xs, ha, q⟩ := g3.obj e0 (s3.get (s2.get qa))
            obtain rfl := keyD_V ek dy
            have z := getK_V (κ := kk) q
            refine ⟨_, DGet.k ha, ?_⟩
            cases q' : getK kvs kk with
            | none =>
              rw [q'] at z p3
              rw [show valV xs kk = none from z]
              exact post_val g3 p3 dw
            | some w =>
              rw [q'] at z p3
              obtain ⟨v, z1, z2⟩ := z
              rw [z1]
              exact post_val g3 p3 z2
          · exact p3.elim
        · exact p3.elim
    | _ => cases q
  · rw [if_neg q] at p1
    exact p1.elim
end
end MM

namespace MM
open PySem L2

/-- the class named c, and its fields f of fs that no class of it holds -/
def FOk (X : Cx) (cs : List Str) (f : Str) : Prop := ∀ c ∈ cs, ∀ C, X.mg c = some (.ref C) → Cls X.K C ∧ NoAttr X.K C f
def mFld (cs : List Str) (f : Str) (m : Ev → Hm → R D) : Ev → Hm → R D := fun env h => (m env h).bind fun x h1 => match x with
  | .ref i => match h1[i]? with
    | some (.ins c fs) => if c ∈ cs then match fs.lookup f with
        | some d => .ok d h1
        | none => .bad else .bad
    | _ => .bad
  | _ => .bad
def putD (f : Str) (v : D) : List (Str × D) → List (Str × D)
  | [] => [(f, v)]
  | (g, x) :: r => if g = f then (g, v) :: r else (g, x) :: putD f v r
section
variable {K : PySem.W.Frag} {π : List Addr} {H : Hp}
theorem DPs.lookup {f : Str} : ∀ {fs : List (Str × D)} {xs : List (Str × V)} {d : D}, DPs K π H fs xs → fs.lookup f = some d → ∃ v, xs.lookup f = some v ∧ DV K π H d v
  | p :: ps, _, d, ⟨v, vs, e, h, q⟩, l => by
    obtain ⟨k, y⟩ := p
    rw [e]
    by_cases hk : f = k
    · have hb : (f == k) = true := beq_iff_eq.mpr hk
      simp only [List.lookup, hb] at l ⊢
      cases l
      exact ⟨v, rfl, h⟩
    · have hb : (f == k) = false := beq_eq_false_iff_ne.mpr hk
      simp only [List.lookup, hb] at l ⊢
      exact DPs.lookup q l
theorem DPs.putF {f : Str} {d : D} {v : V} (dv : DV K π H d v) : ∀ {fs : List (Str × D)} {xs : List (Str × V)}, DPs K π H fs xs → DPs K π H (putD f d fs) (putF f v xs)
  | [], _, h => by rw [show _ = [] from h]; exact ⟨v, [], rfl, dv, rfl⟩
  | p :: ps, _, ⟨w, vs, e, h, q⟩ => by
    obtain ⟨k, y⟩ := p
    rw [e]
    unfold putD L2.putF
    by_cases hk : k = f
    · rw [if_pos hk, if_pos hk]
      exact ⟨v, vs, rfl, dv, q⟩
    · rw [if_neg hk, if_neg hk]
      exact ⟨w, _, rfl, h, DPs.putF dv q⟩
def putDK (kvs : List (Key × D)) (k : Key) (v : D) : List (Key × D) :=
  if (kvs.any fun kv => decide (kv.1 = k)) = true then kvs.map (fun kv => if kv.1 = k then (kv.1, v) else kv) else kvs ++ [(k, v)]
theorem DPs.anyK {k : Key} : ∀ {fs : List (Key × D)} {xs : List (Key × V)}, DPs K π H fs xs → (xs.any fun kv => decide (kv.1 = k)) = (fs.any fun kv => decide (kv.1 = k))
  | [], _, h => by rw [show _ = [] from h] <;> rfl
  | p :: ps, _, ⟨w, vs, e, h, q⟩ => by rw [e, List.any_cons, List.any_cons, DPs.anyK q]
theorem DPs.mapK {k : Key} {d : D} {v : V} (dv : DV K π H d v) : ∀ {fs : List (Key × D)} {xs : List (Key × V)}, DPs K π H fs xs → DPs K π H (fs.map fun kv => if kv.1 = k then (kv.1, d) else kv) (xs.map fun kv => if kv.1 = k then (kv.1, v) else kv)
  | [], _, h => by rw [show _ = [] from h]; rfl
  | p :: ps, _, ⟨w, vs, e, h, q⟩ => by
    rw [e, List.map_cons, List.map_cons]
    by_cases hk : p.1 = k
    · rw [if_pos hk, if_pos hk]; exact ⟨v, _, rfl, dv, DPs.mapK dv q⟩
    · rw [if_neg hk, if_neg hk]; exact ⟨w, _, rfl, h, DPs.mapK dv q⟩
theorem DPs.app {κ : Type} : ∀ {fs gs : List (κ × D)} {xs ys : List (κ × V)}, DPs K π H fs xs → DPs K π H gs ys → DPs K π H (fs ++ gs) (xs ++ ys)
  | [], _, _, _, h, q => by rw [show _ = [] from h]; exact q
  | p :: ps, _, _, _, ⟨w, vs, e, h, q⟩, r => ⟨w, vs ++ _, by rw [e] <;> rfl, h, DPs.app q r⟩
theorem DPs.putK {k : Key} {d : D} {v : V} (dv : DV K π H d v) {fs : List (Key × D)} {xs : List (Key × V)} (h : DPs K π H fs xs) : DPs K π H (putDK fs k d) (putK xs k v) := by
  unfold putDK L2.putK
  rw [h.anyK]
  by_cases hk : (fs.any fun kv => decide (kv.1 = k)) = true
  · rw [if_pos hk, if_pos hk]; exact h.mapK dv
  · rw [if_neg hk, if_neg hk]; exact h.app ⟨v, [], rfl, dv, rfl⟩
end
section
variable {X : Cx} {T : List (Addr × Str)} {W : WX} {o e : Expr} {mo me : Ev → Hm → R D} {f : Str} {cs : List Str} {pos pos' tpos : Pos}
theorem em_fld (hf : FOk X cs f) (he : Em X T W e me) (hb : attributeBase e f X.env (eval e X.env) = eval e X.env := by rfl) : Em X T W (.Attribute e f pos) (mFld cs f me) := PE.of (pe_fld he hb) fun σ H Q ⟨π, env, h, s, p⟩ => by
  refine ⟨π, env, h, s, p.bind.mono fun π1 H1 h1 d s1 g1 p1 x dx => ?_⟩
  split at p1
  · obtain ⟨a, qa, rfl⟩ := dx
    split at p1
    · rename_i c fs e0
      split at p1
      · rename_i hc
        split at p1
        · rename_i d e1
          obtain ⟨C, dx, xs, m1, ha, q⟩ := g1.obj e0 qa
          obtain ⟨c1, c2⟩ := hf c hc C m1
          obtain ⟨v, l, dv⟩ := q.lookup e1
          exact ⟨a, C, dx, xs, v, rfl, ha, c1, c2, l, post_val g1 p1 dv⟩
        · exact p1.elim
      · exact p1.elim
    · exact p1.elim
  · exact p1.elim
/-- an instance is written -/
def setF (cs : List Str) (f : Str) (x y : D) (h : Hm) : Option Hm := match x with
  | .ref i => match h[i]? with
    | some (.ins c fs) => if c ∈ cs ∧ fs.length < 1000 then some (h.set i (.ins c (putD f y fs))) else none
    | _ => none
  | _ => none
def sFldM (cs : List Str) (f : Str) (mo me : Ev → Hm → R D) : Ev → Hm → SR := fun env h => (me env h).bindS env fun y h1 => (mo env h1).bindS env fun x h2 => match setF cs f x y h2 with
  | some h3 => .next env h3
  | none => .bad
theorem setF_ok {G : Gx} {π : List Addr} {h h' : Hm} {H : Hp} {x y : D} {v w : V} (g : Good G π h H) (dx : DV G.K π H x v) (dy : DV G.K π H y w) (e : setF cs f x y h = some h') :
    ∃ c ∈ cs, ∃ a C dx fs, G.mg c = some (.ref C) ∧ v = .ref a ∧ H a = some (.ins C dx fs) ∧ fs.length < 1000 ∧ Step π H π (upd H a (.ins C dx (putF f w fs))) ∧ Good G π h' (upd H a (.ins C dx (putF f w fs))) := by
  unfold setF at e
  split at e
  · rename_i i
    obtain ⟨a, qa, rfl⟩ := dx
    split at e
    · rename_i c fs e0
      split at e
      · rename_i hc
        cases e
        obtain ⟨C, dx, xs, m1, ha, q⟩ := g.obj e0 qa
        exact ⟨c, hc.1, a, C, dx, xs, m1, rfl, ha, by rw [q.len]; exact hc.2, Step.put qa (nfz ha fun _ _ z => (by cases z)), g.put (o := .ins c (putD f y fs)) qa (nfz ha fun _ _ z => (by cases z)) ⟨C, dx, _, m1, upd_same, (q.putF dy).step (Step.put qa (nfz ha fun _ _ z => (by cases z))) _ _⟩⟩
      · cases e
    · cases e
  · cases e
theorem sm_fld (hf : FOk X cs f) (ho : Em X T W o mo) (he : Em X T W e me) (hs : swapsWith e (some (.Attribute o f pos')) pos.line X.env = pure false := by rfl) : Sm X T W (.Assign [.Attribute o f pos'] e pos) (sFldM cs f mo me) := PS.of (ps_fld ho he hs) fun D σ H ⟨π, env, h, s, p⟩ =>
  ⟨π, env, h, s, (PostS.bind s p).mono fun π1 H1 h1 y s1 g1 p1 w dw => ⟨π1, env, h1, s.step s1 g1, (PostS.bind (s.step s1 g1) p1).mono fun π2 H2 h2 x s2 g2 p2 v dv => by
    split at p2
    · rename_i h3 e3
      obtain ⟨c, hc, a, C, dx, fs, m1, rfl, ha, hl, st, g3⟩ := setF_ok g2 dv (dw.step s2 _ _) e3
      obtain ⟨c1, c2⟩ := hf c hc C m1
      exact ⟨a, C, dx, fs, rfl, ha, c1, c2, hl, p2 π2 σ _ st (((s.step s1 g1).step s2 g2).step st g3)⟩
    · exact p2.elim⟩⟩
/-- o.f op= e -/
def sFldA (cs : List Str) (f : Str) (fo : F2) (mo me : Ev → Hm → R D) : Ev → Hm → SR := fun env h => (mo env h).bindS env fun x h1 => match x with
  | .ref i => match h1[i]? with
    | some (.ins c fs) => if c ∈ cs then match fs.lookup f with
        | some v => (me env h1).bindS env fun y h2 => (fo v y h2).bindS env fun z h3 => match h3[i]? with
            | some (.ins c' fs') => if c' = c ∧ fs'.length < 1000 then .next env (h3.set i (.ins c (putD f z fs'))) else .bad
            | _ => .bad
        | none => .bad else .bad
    | _ => .bad
  | _ => .bad
theorem sm_flda {op : Operator} {r : R2} {fo : F2} (hf : FOk X cs f) (hr : OpR X (inplaceOp op) r) (hop : Op2 (gx X T) r fo) (ho : Em X T W o mo) (he : Em X T W e me) : Sm X T W (.AugAssign (.Attribute o f tpos) op e pos) (sFldA cs f fo mo me) :=
  PS.of (ps_fldaug (rd := r) ho he (fun pins s σ H x y u v Q I r1 r2 h => hr pins s σ H x y u v Q I r1 r2 h)) fun D σ H ⟨π, env, h, s, p⟩ =>
  ⟨π, env, h, s, (PostS.bind s p).mono fun π1 H1 h1 x s1 g1 p1 w dw => by
    split at p1
    · rename_i i
      obtain ⟨a, qa, rfl⟩ := dw
      split at p1
      · rename_i c fs e0
        split at p1
        · rename_i hc
          split at p1
          · rename_i d e1
            obtain ⟨C, dx, xs, m1, ha, q⟩ := g1.obj e0 qa
            obtain ⟨c1, c2⟩ := hf c hc C m1
            obtain ⟨v, l, dv⟩ := q.lookup e1
            refine ⟨a, C, dx, xs, v, rfl, ha, c1, c2, l, π1, env, h1, s.step s1 g1, (PostS.bind (s.step s1 g1) p1).mono fun π2 H2 h2 y s2 g2 p2 u du => ?_⟩
            refine hop W π2 σ h2 H2 d y v u _ g2 (dv.step s2 _ _) du ((PostS.bind ((s.step s1 g1).step s2 g2) p2).mono fun π3 H3 h3 z s3 g3 p3 t dt => ?_)
            split at p3
            · rename_i c' fs' e3
              split at p3
              · rename_i hc'
                obtain ⟨rfl, hl⟩ := hc'
                have qa3 := s3.get (s2.get qa)
                obtain ⟨C', dx', xs', m1', ha', q'⟩ := g3.obj e3 qa3
                rw [m1] at m1'
                cases m1'
                refine ⟨dx', xs', ha', by rw [q'.len]; exact hl, p3 π3 σ _ (Step.put qa3 (nfz ha' fun _ _ z => (by cases z))) ((((s.step s1 g1).step s2 g2).step s3 g3).step (Step.put qa3 (nfz ha' fun _ _ z => (by cases z))) (g3.put (o := .ins c' (putD f z fs')) qa3 (nfz ha' fun _ _ z => (by cases z)) ⟨C, dx', _, m1, upd_same, (q'.putF dt).step (Step.put qa3 (nfz ha' fun _ _ z => (by cases z))) _ _⟩))⟩
              · exact p3.elim
            · exact p3.elim
          · exact p1.elim
        · exact p1.elim
      · exact p1.elim
    · exact p1.elim⟩
end

def fSet (o i v : D) (h : Hm) : Option Hm := match o with
  | .ref r => match h[r]? with
    | some (.lst ds) => match i with
      | .int k => match ixN ds.length k with
        | some j => some (h.set r (.lst (ds.set j v)))
        | none => none
      | _ => none
    | some (.dic kvs) => match keyD i with
      | some k => if kvs.length < 16777216 then some (h.set r (.dic (putDK kvs k v))) else none
      | none => none
    | _ => none
  | _ => none
def OpS (G : Gx) (r : TSet) (f : D → D → D → Hm → Option Hm) : Prop := ∀ (π : List Addr) (h h' : Hm) (H : Hp) (o i d : D) (x y v : V) (Q : Hp → Prop), Good G π h H → DV G.K π H o x → DV G.K π H i y → DV G.K π H d v → f o i d h = some h' → (∀ H', Step π H π H' → Good G π h' H' → Q H') → r x y v H Q
def rSetM : TSet := fun o i v H Q => rSetL o i v H Q ∨ rSetD o i v H Q
theorem set_m {X : Cx} (hu : X.A.units + 1 < cLine) : PSet X rSetM := by
  intro pins s σ H o i v ov iv u Q I ro ri rv h
  rcases h with h | h
  · exact set_list pins s σ H o i v ov iv u Q I ro ri rv h
  · exact set_dict hu pins s σ H o i v ov iv u Q I ro ri rv h
theorem os_set {G : Gx} : OpS G rSetM fSet := by
  intro π h h' H o i d x y v Q g dx dy dv e q
  unfold fSet at e
  split at e
  · obtain ⟨a, qa, rfl⟩ := dx
    split at e
    · rename_i ds e0
      obtain ⟨xs, ha, k⟩ := g.lst e0 qa
      split at e
      · obtain rfl := (show y = _ from dy)
        split at e
        · rename_i j ej
          cases e
          refine .inl ⟨a, xs, _, j, rfl, rfl, ha, by rw [k.len]; exact ej, q _ (Step.put qa (nfz ha fun _ _ z => (by cases z))) (g.put (o := .lst (ds.set j d)) qa (nfz ha fun _ _ z => (by cases z)) ⟨_, upd_same, (k.set j dv).step (Step.put qa (nfz ha fun _ _ z => (by cases z))) _ _⟩)⟩
        · cases e
      · cases e
    · rename_i kvs e0
      obtain ⟨xs, ha, k⟩ := g.obj e0 qa
      split at e
      · rename_i κ ek
        obtain rfl := keyD_V ek dy
        split at e
        · rename_i hl
          cases e
          exact .inr ⟨a, _, rfl, DPut.k ha (szl' (by rw [k.len]; exact hl)), q _ (Step.put qa (nfz ha fun _ _ z => (by cases z))) (g.put (o := .dic (putDK kvs κ d)) qa (nfz ha fun _ _ z => (by cases z)) ⟨_, upd_same, (k.putK dv).step (Step.put qa (nfz ha fun _ _ z => (by cases z))) _ _⟩)⟩
        · cases e
      · cases e
    · cases e
  · cases e
def gSubM (mo mi : Ev → Hm → R D) : Gt := fun d env h => (mo env h).bindS env fun x h1 => (mi env h1).bindS env fun y h2 => match fSet x y d h2 with
  | some h3 => .next env h3
  | none => .bad
/-- xs[a:c] = ys of another list -/
def gSlM (mo : Ev → Hm → R D) (ml mh : Ev → Hm → R (Option Int)) : Gt := fun d env h => (mo env h).bindS env fun x h1 => (ml env h1).bindS env fun lo h2 => (mh env h2).bindS env fun hi h3 => match x, d, lo, hi with
  | .ref r, .ref t, some a, some c => match h3[r]?, h3[t]? with
    | some (.lst xs), some (.lst ys) => if r ≠ t ∧ 0 ≤ a ∧ a ≤ c ∧ c ≤ xs.length ∧ xs.length + ys.length ≤ 16777216 then .next env (h3.set r (.lst (xs.take a.toNat ++ ys ++ xs.drop c.toNat))) else .bad
    | _, _ => .bad
  | _, _, _, _ => .bad
/-- o.f as a target -/
def gFldM (cs : List Str) (f : Str) (mo : Ev → Hm → R D) : Gt := fun d env h => (mo env h).bindS env fun x h1 => match setF cs f x d h1 with
  | some h2 => .next env h2
  | none => .bad
section
variable {X : Cx} {T : List (Addr × Str)} {W : WX} {o i e : Expr} {mo mi me : Ev → Hm → R D} {f : Str} {cs : List Str} {pos p2 tpos : Pos}
theorem gm_sub (hu : X.A.units + 1 < cLine) (ho : Em X T W o mo) (hi : Em X T W i mi) (ha : ∀ v, assign (.Subscript o i pos) X.env v = (do
      let ov ← holding [v] (eval o X.env)
      let iv ← holding [v, ov] (eval i X.env)
      standAt pos
      holding [v, ov, iv] (setItem ov iv v)
      release [v, ov, iv] []) := by intro _; rfl) : Gm X T W (.Subscript o i pos) (gSubM mo mi) := PG.of (pg_sub ho hi (set_m hu) ha) fun v σ H Q ⟨π, env, h, d, s, dv, p⟩ => by
  refine ⟨π, env, h, s, (PostS.bind s p).mono fun π1 H1 h1 x s1 g1 p1 u du => ⟨π1, env, h1, s.step s1 g1, (PostS.bind (s.step s1 g1) p1).mono fun π2 H2 h2 y s2 g2 p2 w dw => ?_⟩⟩
  split at p2
  · rename_i h3 e3
    exact os_set π2 h2 h3 H2 x y d u w v _ g2 (du.step s2 _ _) dw ((dv.step s1 _ _).step s2 _ _) e3 fun H' st g' => p2 π2 σ H' st (((s.step s1 g1).step s2 g2).step st g')
  · exact p2.elim
def gFld (K : PySem.W.Frag) (to : TE) (f : Str) : TG := fun y σ H Q => to σ H fun x H2 => ∃ a C dx fs, x = .ref a ∧ H2 a = some (.ins C dx fs) ∧ Cls K C ∧ NoAttr K C f ∧ fs.length < 1000 ∧ Q σ (upd H2 a (.ins C dx (putF f y fs)))
theorem pg_fld {to : TE} (ho : PE X o to) : PG X (.Attribute o f pos) (gFld X.K to f) := by
  refine ⟨fun pins s σ H v u Q I r h => ?_⟩
  rw [arm_assign_Attribute]
  refine wpAny_bind (wpAny_holding (thn (ho.run pins s σ H _ I h) fun ov s1 ⟨x, H1, I1, r1, a, C, dx, fs, ex, ea, c, n, l, q1⟩ => ?_))
  subst ex
  obtain rfl : ov = Value.ref a := r1
  refine wpAny_bind (wpAny_standAt (wpAny_bind (wpAny_holding (setattr_ok I1 ea c n l r fun s3 I3 => ?_))))
  exact wpAny_release ⟨σ, _, I3, q1⟩
theorem gm_fld (hf : FOk X cs f) (ho : Em X T W o mo) : Gm X T W (.Attribute o f pos) (gFldM cs f mo) := PG.of (pg_fld ho) fun v σ H Q ⟨π, env, h, d, s, dv, p⟩ => by
  refine ⟨π, env, h, s, (PostS.bind s p).mono fun π1 H1 h1 x s1 g1 p1 u du => ?_⟩
  split at p1
  · rename_i h3 e3
    obtain ⟨c, hc, a, C, dx, fs, m1, rfl, ha, hl, st, g3⟩ := setF_ok g1 du (dv.step s1 _ _) e3
    obtain ⟨c1, c2⟩ := hf c hc C m1
    exact ⟨a, C, dx, fs, rfl, ha, c1, c2, hl, p1 π1 σ _ st ((s.step s1 g1).step st g3)⟩
  · exact p1.elim
def gSl (to : TE) (tl th : TO) : TG := fun v σ H Q => to σ H fun x H1 => tl σ H1 fun lo H2 => th σ H2 fun hi H3 => ∃ l b xs ys a c, x = .ref l ∧ v = .ref b ∧ lo = some a ∧ hi = some c ∧ H3 l = some (.lst xs) ∧ H3 b = some (.lst ys) ∧ l ≠ b ∧ 0 ≤ a ∧ a ≤ c ∧ c ≤ xs.length ∧ xs.length + ys.length ≤ sizeLine ∧ Q σ (upd H3 l (.lst (xs.take a.toNat ++ ys ++ xs.drop c.toNat)))
theorem part_int {u : Value} {a : Int} (p : IsPart u (some a)) : RelV (.int a) u := by
  cases p
  exact ⟨_, rfl⟩
theorem pg_sl {to : TE} {tl th : TO} {lo hi : Option Expr} (ho : PE X o to) (hl : PO X lo tl) (hh : PO X hi th) : PG X (.Subscript o (.Slice lo hi none p2) pos) (gSl to tl th) := by
  refine ⟨fun pins s σ H v u Q I r h => ?_⟩
  rw [arm_assign_Subscript]
  refine wpAny_bind (wpAny_holding (thn (ho.run pins s σ H _ I h) fun ov s1 ⟨x, H1, I1, r1, q1⟩ => ?_))
  refine wpAny_bind (wpAny_holding (wpAny_Slice (thn (hl.run pins s1 σ H1 _ I1 q1) fun vl s2 ⟨l, H2, I2, pl, q2⟩ => thn (hh.run pins s2 σ H2 _ I2 q2) fun vu s3 ⟨u2, H3, I3, pu, q3⟩ => ?_)))
  rw [evalPart_none]
  refine wpAny_pure ?_
  have I4 : Inv X pins σ H3 { s3 with heap := s3.heap.push { cls := .type "slice", data := .fields #[vl, vu, .none] } } := I3.kept (t' := s3.toks) fun b ob q => Heap.get?_push_of_some _ q
  obtain ⟨l, b, xs, ys, a, c, rfl, rfl, rfl, rfl, hL, hB, ne, h0, h1, h2, hz, q⟩ := q3
  obtain rfl : ov = Value.ref l := r1
  obtain rfl : u = Value.ref b := r
  refine wpAny_bind (wpAny_standAt (wpAny_bind (wpAny_holding (set_slice I4 hL hB ne (Heap.IsSliceOf.new ..) (part_int pl) (part_int pu) h0 h1 h2 hz fun s' I' => ?_))))
  exact wpAny_release ⟨σ, _, I', q⟩
theorem gm_sl {ml mh : Ev → Hm → R (Option Int)} {lo hi : Option Expr} (ho : Em X T W o mo) (hl : Om X T W lo ml) (hh : Om X T W hi mh) : Gm X T W (.Subscript o (.Slice lo hi none p2) pos) (gSlM mo ml mh) := PG.of (pg_sl ho hl hh) fun v σ H Q ⟨π, env, h, d, s, dv, p⟩ => by
  refine ⟨π, env, h, s, (PostS.bind s p).mono fun π1 H1 h1 x s1 g1 p1 u du => ⟨π1, env, h1, s.step s1 g1, (PostS.bind (s.step s1 g1) p1).mono fun π2 H2 h2 lo s2 g2 p2 => ⟨π2, env, h2, (s.step s1 g1).step s2 g2, (PostS.bind ((s.step s1 g1).step s2 g2) p2).mono fun π3 H3 h3 hi s3 g3 p3 => ?_⟩⟩⟩
  have du' := (du.step s2 _ _).step s3 _ _
  have dv' := ((dv.step s1 _ _).step s2 _ _).step s3 _ _
  split at p3
  · rename_i r t a c
    obtain ⟨l, ql, rfl⟩ := du'
    obtain ⟨b, qb, rfl⟩ := dv'
    split at p3
    · rename_i xs ys e1 e2
      split at p3
      · rename_i hc
        obtain ⟨ws, ha, k1⟩ := g3.lst e1 ql
        obtain ⟨zs, hb, k2⟩ := g3.lst e2 qb
        refine ⟨l, b, ws, zs, a, c, rfl, rfl, rfl, rfl, ha, hb, fun z => hc.1 ?_, hc.2.1, hc.2.2.1, by rw [k1.len]; exact hc.2.2.2.1, szl (by rw [k1.len, k2.len]; exact hc.2.2.2.2), p3 π3 σ _ (Step.put ql (nfz ha fun _ _ z => (by cases z))) ((((s.step s1 g1).step s2 g2).step s3 g3).step (Step.put ql (nfz ha fun _ _ z => (by cases z))) (g3.put (o := .lst _) ql (nfz ha fun _ _ z => (by cases z)) ⟨_, upd_same, (((k1.take _).app k2).app (k1.drop _)).step (Step.put ql (nfz ha fun _ _ z => (by cases z))) _ _⟩))⟩
        rw [← z] at qb
        exact nodup_ix' g3.nd ql qb
      · exact p3.elim
    · exact p3.elim
  · exact p3.elim
end
end MM

namespace MM
open PySem L2

abbrev Itr := List D × List (Nat × O)
def gdOk (gs : List (Nat × O)) (h : Hm) : Bool := gs.all fun p => decide (h[p.1]? = some p.2)
structure WalkD (G : Gx) (π0 : List Addr) (H0 : Hp) (J : It) (it : Itr) : Prop where
  go : ∀ i π h H, Step π0 H0 π H → Good G π h H → gdOk it.2 h = true → i < it.1.length → J.go i H
  stop : ∀ i π h H, Step π0 H0 π H → Good G π h H → gdOk it.2 h = true → i = it.1.length → J.stop i H
  yld : ∀ i π h H x H', Step π0 H0 π H → Good G π h H → gdOk it.2 h = true → i < it.1.length → J.yld i H x H' → Step π H π H' ∧ Good G π h H' ∧ ∃ d, it.1[i]? = some d ∧ DV G.K π H' d x
def tI (G : Gx) (W : WX) (m : Ev → Hm → R Itr) : TI := fun σ H Rr => ∃ π env h, S G π env h σ H ∧ Post G W π σ H (m env h) fun π' H' _ it => ∀ J, WalkD G π' H' J it → Rr J H'
abbrev Im (X : Cx) (T : List (Addr × Str)) (W : WX) (tg e : Expr) (m : Ev → Hm → R Itr) : Prop := PI X tg e (tI (gx X T) W m)
theorem PI.of {X : Cx} {tg e : Expr} {t t' : TI} (p : PI X tg e t) (w : ∀ σ H Q, t' σ H Q → t σ H Q) : PI X tg e t' := ⟨fun pins s σ H Q I h => p.run pins s σ H Q I (w σ H Q h)⟩
section
variable {G : Gx} {π0 : List Addr} {H0 : Hp} {a b : Addr} {i r : Nat} {ds es : List D} {xs : List V}
theorem gd1 {gs : List (Nat × O)} {h : Hm} {p : Nat × O} (e : gdOk gs h = true) (m : p ∈ gs) : h[p.1]? = some p.2 := of_decide_eq_true (List.all_eq_true.mp e p m)
theorem walk_lst (q : π0[r]? = some a) : WalkD G π0 H0 (Itl G.K a) (ds, [(r, .lst ds)]) := by
  refine ⟨fun i π h H s g e hi => ?_, fun i π h H s g e hi => ?_, fun i π h H x H' s g e hi y => ?_⟩
  · obtain ⟨xs, ha, k⟩ := g.lst (gd1 e List.mem_cons_self) (s.get q)
    obtain ⟨v, h1, _⟩ := k.get (List.getElem?_eq_getElem hi)
    exact ⟨xs, v, SqL.of ha, h1⟩
  · obtain ⟨xs, ha, k⟩ := g.lst (gd1 e List.mem_cons_self) (s.get q)
    exact ⟨xs, SqL.of ha, by rw [k.len, hi]; exact Nat.le_refl _⟩
  · obtain ⟨xs, ha, k⟩ := g.lst (gd1 e List.mem_cons_self) (s.get q)
    obtain ⟨rfl, y⟩ := y
    obtain ⟨d, h1, h2⟩ := k.getR (y xs (SqL.of ha))
    exact ⟨Step.refl, g, d, h1, h2⟩
theorem walk_rol (t : LstAt G.K π0 H0 a xs) (k : DVs G.K π0 H0 ds xs) : WalkD G π0 H0 (Itl G.K a) (ds, []) := by
  refine ⟨fun i π h H s g e hi => ?_, fun i π h H s g e hi => ?_, fun i π h H x H' s g e hi y => ?_⟩
  · obtain ⟨v, h1, _⟩ := k.get (List.getElem?_eq_getElem hi)
    exact ⟨xs, v, (t.step s).sq, h1⟩
  · exact ⟨xs, (t.step s).sq, by rw [k.len, hi]; exact Nat.le_refl _⟩
  · obtain ⟨rfl, y⟩ := y
    obtain ⟨d, h1, h2⟩ := k.getR (y xs (t.step s).sq)
    exact ⟨Step.refl, g, d, h1, h2.step s _ _⟩
theorem walk_tp (t : TupAt G.K π0 H0 a xs) (k : DVs G.K π0 H0 ds xs) : WalkD G π0 H0 (Itt G.K a) (ds, []) := by
  refine ⟨fun i π h H s g e hi => ?_, fun i π h H s g e hi => ?_, fun i π h H x H' s g e hi y => ?_⟩
  · obtain ⟨v, h1, _⟩ := k.get (List.getElem?_eq_getElem hi)
    exact ⟨xs, v, (t.step s).sq, h1⟩
  · exact ⟨xs, (t.step s).sq, by rw [k.len, hi]; exact Nat.le_refl _⟩
  · obtain ⟨rfl, y⟩ := y
    obtain ⟨d, h1, h2⟩ := k.getR (y xs (t.step s).sq)
    exact ⟨Step.refl, g, d, h1, h2.step s _ _⟩
theorem get_map_range {f : Nat → D} {n i : Nat} (hi : i < n) : ((List.range n).map f)[i]? = some (f i) := by simp [hi]
/-- lo, lo + c, .. -/
def rngD (lo c : Int) (n : Nat) : List D := (List.range n).map fun i : Nat => D.int (lo + (i : Int) * c)
def rng1 (lo : Int) (n : Nat) : List D := (List.range n).map fun i : Nat => D.int (lo + (i : Int))
theorem walk_rg {lo : Int} {n : Nat} : WalkD G π0 H0 (L2.Itr lo n) (rng1 lo n, []) := by
  refine ⟨fun i π h H s g e hi => ?_, fun i π h H s g e hi => ?_, fun i π h H x H' s g e hi y => ?_⟩
  · have hi' : i < n := by simpa [rng1] using hi
    exact hi'
  · have : n ≤ i := by simp [rng1] at hi; omega
    exact this
  · obtain ⟨rfl, y⟩ := y
    have hi' : i < n := by simpa [rng1] using hi
    exact ⟨Step.refl, g, _, get_map_range hi', y⟩
theorem walk_rgc {lo c : Int} {n : Nat} : WalkD G π0 H0 (Itc lo c n) (rngD lo c n, []) := by
  refine ⟨fun i π h H s g e hi => ?_, fun i π h H s g e hi => ?_, fun i π h H x H' s g e hi y => ?_⟩
  · have hi' : i < n := by simpa [rngD] using hi
    exact hi'
  · have : n ≤ i := by simp [rngD] at hi; omega
    exact this
  · obtain ⟨rfl, y⟩ := y
    have hi' : i < n := by simpa [rngD] using hi
    exact ⟨Step.refl, g, _, get_map_range hi', y⟩
/-- reversed(list): the length is the one at the start -/
theorem walk_rv (q : π0[r]? = some a) {n : Nat} (hn : n = ds.length) : WalkD G π0 H0 (Itv G.K a n) (ds.reverse, [(r, .lst ds)]) := by
  subst hn
  refine ⟨fun i π h H s g e hi => ?_, fun i π h H s g e hi => ?_, fun i π h H x H' s g e hi y => ?_⟩
  · rw [List.length_reverse] at hi
    obtain ⟨xs, ha, k⟩ := g.lst (gd1 e List.mem_cons_self) (s.get q)
    obtain ⟨v, h1, _⟩ := k.get (List.getElem?_eq_getElem (show ds.length - 1 - i < ds.length by omega))
    exact ⟨hi, xs, v, SqL.of ha, h1⟩
  · rw [List.length_reverse] at hi
    exact Nat.le_of_eq hi.symm
  · rw [List.length_reverse] at hi
    obtain ⟨xs, ha, k⟩ := g.lst (gd1 e List.mem_cons_self) (s.get q)
    obtain ⟨rfl, y⟩ := y
    obtain ⟨d, h1, h2⟩ := k.getR (y xs (SqL.of ha))
    exact ⟨Step.refl, g, d, by rw [List.getElem?_reverse hi]; exact h1, h2⟩
theorem walk_rvK (t : LstAt G.K π0 H0 a xs) (k : DVs G.K π0 H0 ds xs) : WalkD G π0 H0 (Itv G.K a xs.length) (ds.reverse, []) := by
  refine ⟨fun i π h H s g e hi => ?_, fun i π h H s g e hi => ?_, fun i π h H x H' s g e hi y => ?_⟩
  · rw [List.length_reverse] at hi
    obtain ⟨v, h1, _⟩ := k.get (List.getElem?_eq_getElem (show xs.length - 1 - i < ds.length by rw [k.len]; omega))
    exact ⟨by rw [k.len]; exact hi, xs, v, (t.step s).sq, h1⟩
  · rw [List.length_reverse] at hi
    show xs.length ≤ i
    rw [k.len]
    omega
  · rw [List.length_reverse] at hi
    obtain ⟨rfl, y⟩ := y
    obtain ⟨d, h1, h2⟩ := k.getR (y xs (t.step s).sq)
    rw [k.len] at h1
    exact ⟨Step.refl, g, d, by rw [List.getElem?_reverse hi]; exact h1, h2.step s _ _⟩
theorem walk_rvT (t : TupAt G.K π0 H0 a xs) (k : DVs G.K π0 H0 ds xs) : WalkD G π0 H0 (RT.ItvT G.K a xs.length) (ds.reverse, []) := by
  refine ⟨fun i π h H s g e hi => ?_, fun i π h H s g e hi => ?_, fun i π h H x H' s g e hi y => ?_⟩
  · rw [List.length_reverse] at hi
    obtain ⟨v, h1, _⟩ := k.get (List.getElem?_eq_getElem (show xs.length - 1 - i < ds.length by rw [k.len]; omega))
    exact ⟨by rw [k.len]; exact hi, xs, v, (t.step s).sq, h1⟩
  · rw [List.length_reverse] at hi
    show xs.length ≤ i
    rw [k.len]
    omega
  · rw [List.length_reverse] at hi
    obtain ⟨rfl, y⟩ := y
    obtain ⟨d, h1, h2⟩ := k.getR (y xs (t.step s).sq)
    rw [k.len] at h1
    exact ⟨Step.refl, g, d, by rw [List.getElem?_reverse hi]; exact h1, h2.step s _ _⟩
def enumD (n : Nat) : List D → List D
  | [] => []
  | d :: ds => .tup [.int n, d] :: enumD (n + 1) ds
theorem enumD_len : ∀ (ds : List D) (n : Nat), (enumD n ds).length = ds.length
  | [], _ => rfl
  | d :: ds, n => by unfold enumD; rw [List.length_cons, List.length_cons, enumD_len ds]
theorem enumD_get : ∀ (ds : List D) (n i : Nat) (d : D), ds[i]? = some d → (enumD n ds)[i]? = some (.tup [.int ((n + i : Nat) : Int), d])
  | d :: ds, n, 0, d', e => by cases e; rfl
  | d :: ds, n, i + 1, d', e => by
    have := enumD_get ds (n + 1) i d' e
    unfold enumD
    rw [List.getElem?_cons_succ, this, show n + 1 + i = n + (i + 1) by omega]
/-- a new pair -/
theorem new_pair {π : List Addr} {h : Hm} {H : Hp} (g : Good G π h H) {P : Addr} (n : H P = none) {x y : V} {d e : D} (dx : DV G.K π H d x) (ey : DV G.K π H e y) : Step π H π (upd H P (.tup [x, y])) ∧ Good G π h (upd H P (.tup [x, y])) ∧ DV G.K π (upd H P (.tup [x, y])) (.tup [d, e]) (.ref P) := by
  have s := Step.other (o := .tup [x, y]) g n
  exact ⟨s, g.other n, P, [x, y], rfl, .inl ⟨upd_same, g.free n⟩, .two (dx.step s _ _) (ey.step s _ _)⟩
theorem walk_en (q : π0[r]? = some a) : WalkD G π0 H0 (Ite G.K a) (enumD 0 ds, [(r, .lst ds)]) := by
  refine ⟨fun i π h H s g e hi => ?_, fun i π h H s g e hi => ?_, fun i π h H x H' s g e hi y => ?_⟩
  · rw [enumD_len] at hi
    obtain ⟨xs, ha, k⟩ := g.lst (gd1 e List.mem_cons_self) (s.get q)
    obtain ⟨v, h1, _⟩ := k.get (List.getElem?_eq_getElem hi)
    exact ⟨xs, v, SqL.of ha, h1⟩
  · rw [enumD_len] at hi
    obtain ⟨xs, ha, k⟩ := g.lst (gd1 e List.mem_cons_self) (s.get q)
    exact ⟨xs, SqL.of ha, by rw [k.len, hi]; exact Nat.le_refl _⟩
  · obtain ⟨xs, ha, k⟩ := g.lst (gd1 e List.mem_cons_self) (s.get q)
    obtain ⟨P, z, rfl, hn, rfl, y⟩ := y
    obtain ⟨d, h1, h2⟩ := k.getR (y xs (SqL.of ha))
    obtain ⟨p1, p2, p3⟩ := new_pair (d := .int (i : Nat)) (x := .int (i : Nat)) g hn rfl h2
    refine ⟨p1, p2, _, enumD_get ds 0 i d h1, ?_⟩
    rw [Nat.zero_add]
    exact p3
theorem walk_enK (t : LstAt G.K π0 H0 a xs) (k : DVs G.K π0 H0 ds xs) : WalkD G π0 H0 (Ite G.K a) (enumD 0 ds, []) := by
  refine ⟨fun i π h H s g e hi => ?_, fun i π h H s g e hi => ?_, fun i π h H x H' s g e hi y => ?_⟩
  · rw [enumD_len] at hi
    obtain ⟨v, h1, _⟩ := k.get (List.getElem?_eq_getElem hi)
    exact ⟨xs, v, (t.step s).sq, h1⟩
  · rw [enumD_len] at hi
    exact ⟨xs, (t.step s).sq, by rw [k.len, hi]; exact Nat.le_refl _⟩
  · obtain ⟨P, z, rfl, hn, rfl, y⟩ := y
    obtain ⟨d, h1, h2⟩ := k.getR (y xs (t.step s).sq)
    obtain ⟨p1, p2, p3⟩ := new_pair (d := .int (i : Nat)) (x := .int (i : Nat)) g hn rfl (h2.step s _ _)
    refine ⟨p1, p2, _, enumD_get ds 0 i d h1, ?_⟩
    rw [Nat.zero_add]
    exact p3
def zipD (ds es : List D) : List D := (ds.zip es).map fun p => .tup [p.1, p.2]
theorem zipD_get {i : Nat} {d e : D} (h1 : ds[i]? = some d) (h2 : es[i]? = some e) : (zipD ds es)[i]? = some (.tup [d, e]) := by
  unfold zipD
  rw [List.getElem?_map, show (ds.zip es)[i]? = some (d, e) from List.getElem?_zip_eq_some.mpr ⟨h1, h2⟩] <;> rfl
theorem zipD_len : (zipD ds es).length = min ds.length es.length := by unfold zipD; rw [List.length_map, List.length_zip]
/-- the items of a list or a tuple, at every later heap -/
def SeqA (G : Gx) (π0 : List Addr) (H0 : Hp) (tup : Bool) (a : Addr) (ds : List D) (gs : List (Nat × O)) : Prop :=
  ∀ π h H, Step π0 H0 π H → Good G π h H → gdOk gs h = true → ∃ xs, (if tup = true then SqT G.K H a xs else SqL G.K H a xs) ∧ DVs G.K π H ds xs
theorem seqA_lst (q : π0[r]? = some a) : SeqA G π0 H0 false a ds [(r, .lst ds)] := fun π h H s g e => by
  obtain ⟨xs, ha, k⟩ := g.lst (gd1 e List.mem_cons_self) (s.get q)
  exact ⟨xs, SqL.of ha, k⟩
theorem seqA_rol (t : LstAt G.K π0 H0 a xs) (k : DVs G.K π0 H0 ds xs) : SeqA G π0 H0 false a ds [] := fun π h H s g e => ⟨xs, (t.step s).sq, k.step s _ _⟩
theorem seqA_tup (t : TupAt G.K π0 H0 a xs) (k : DVs G.K π0 H0 ds xs) : SeqA G π0 H0 true a ds [] := fun π h H s g e => ⟨xs, (t.step s).sq, k.step s _ _⟩
theorem gdOk_app {g1 g2 : List (Nat × O)} {h : Hm} (e : gdOk (g1 ++ g2) h = true) : gdOk g1 h = true ∧ gdOk g2 h = true := by
  unfold gdOk at e ⊢
  rw [List.all_append, Bool.and_eq_true] at e
  exact e
theorem walk_zp {g1 g2 : List (Nat × O)} (w1 : SeqA G π0 H0 false a ds g1) (w2 : SeqA G π0 H0 false b es g2) : WalkD G π0 H0 (Itz G.K a b) (zipD ds es, g1 ++ g2) := by
  refine ⟨fun i π h H s g e hi => ?_, fun i π h H s g e hi => ?_, fun i π h H x H' s g e hi y => ?_⟩
  · obtain ⟨xs, ha, k⟩ := w1 π h H s g (gdOk_app e).1
    obtain ⟨ys, hb, k2⟩ := w2 π h H s g (gdOk_app e).2
    rw [zipD_len] at hi
    obtain ⟨v, h1, _⟩ := k.get (List.getElem?_eq_getElem (show i < ds.length by omega))
    obtain ⟨u, h2, _⟩ := k2.get (List.getElem?_eq_getElem (show i < es.length by omega))
    exact ⟨xs, ys, v, u, ha, hb, h1, h2⟩
  · obtain ⟨xs, ha, k⟩ := w1 π h H s g (gdOk_app e).1
    obtain ⟨ys, hb, k2⟩ := w2 π h H s g (gdOk_app e).2
    rw [zipD_len] at hi
    exact ⟨xs, ys, ha, hb, by rw [k.len, k2.len]; omega⟩
  · obtain ⟨xs, ha, k⟩ := w1 π h H s g (gdOk_app e).1
    obtain ⟨ys, hb, k2⟩ := w2 π h H s g (gdOk_app e).2
    obtain ⟨P, u, w, rfl, hn, rfl, y1, y2⟩ := y
    obtain ⟨d, h1, h2⟩ := k.getR (y1 xs ha)
    obtain ⟨d', h1', h2'⟩ := k2.getR (y2 ys hb)
    obtain ⟨p1, p2, p3⟩ := new_pair g hn h2 h2'
    exact ⟨p1, p2, _, zipD_get h1 h1', p3⟩
theorem walk_zpT {g1 g2 : List (Nat × O)} (w1 : SeqA G π0 H0 true a ds g1) (w2 : SeqA G π0 H0 true b es g2) : WalkD G π0 H0 (RZ.ItzT G.K a b) (zipD ds es, g1 ++ g2) := by
  refine ⟨fun i π h H s g e hi => ?_, fun i π h H s g e hi => ?_, fun i π h H x H' s g e hi y => ?_⟩
  · obtain ⟨xs, ha, k⟩ := w1 π h H s g (gdOk_app e).1
    obtain ⟨ys, hb, k2⟩ := w2 π h H s g (gdOk_app e).2
    rw [zipD_len] at hi
    obtain ⟨v, h1, _⟩ := k.get (List.getElem?_eq_getElem (show i < ds.length by omega))
    obtain ⟨u, h2, _⟩ := k2.get (List.getElem?_eq_getElem (show i < es.length by omega))
    exact ⟨xs, ys, v, u, ha, hb, h1, h2⟩
  · obtain ⟨xs, ha, k⟩ := w1 π h H s g (gdOk_app e).1
    obtain ⟨ys, hb, k2⟩ := w2 π h H s g (gdOk_app e).2
    rw [zipD_len] at hi
    exact ⟨xs, ys, ha, hb, by rw [k.len, k2.len]; omega⟩
  · obtain ⟨xs, ha, k⟩ := w1 π h H s g (gdOk_app e).1
    obtain ⟨ys, hb, k2⟩ := w2 π h H s g (gdOk_app e).2
    obtain ⟨P, u, w, rfl, hn, rfl, y1, y2⟩ := y
    obtain ⟨d, h1, h2⟩ := k.getR (y1 xs ha)
    obtain ⟨d', h1', h2'⟩ := k2.getR (y2 ys hb)
    obtain ⟨p1, p2, p3⟩ := new_pair g hn h2 h2'
    exact ⟨p1, p2, _, zipD_get h1 h1', p3⟩
end

/-- of a list, of a tuple -/
def itL (h : Hm) : D → Option Itr
  | .rol ds => some (ds, [])
  | .ref r => match h[r]? with
    | some (.lst ds) => some (ds, [(r, .lst ds)])
    | _ => none
  | _ => none
def itT : D → Option Itr
  | .tup ds => some (ds, [])
  | _ => none
def oR {α : Type} (o : Option α) (h : Hm) : R α := match o with
  | some a => .ok a h
  | none => .bad
def mItL (m : Ev → Hm → R D) : Ev → Hm → R Itr := fun env h => (m env h).bind fun x h1 => oR (itL h1 x) h1
def mItT (m : Ev → Hm → R D) : Ev → Hm → R Itr := fun env h => (m env h).bind fun x h1 => oR (itT x) h1
def sm62 (i : Int) : Bool := decide (-(2 ^ 62) ≤ i ∧ i < 2 ^ 62)
def mRg1 (m : Ev → Hm → R (List D)) : Ev → Hm → R Itr := fun env h => (m env h).bind fun ds h1 => match ds with
  | [.int j] => if sm62 j = true then .ok (rng1 0 j.toNat, []) h1 else .bad
  | _ => .bad
def mRg2 (m : Ev → Hm → R (List D)) : Ev → Hm → R Itr := fun env h => (m env h).bind fun ds h1 => match ds with
  | [.int i, .int j] => if sm62 i = true ∧ sm62 j = true then .ok (rng1 i (j - i).toNat, []) h1 else .bad
  | _ => .bad
/-- range(i, j, -1) -/
def mRg3 (m : Ev → Hm → R (List D)) : Ev → Hm → R Itr := fun env h => (m env h).bind fun ds h1 => match ds with
  | [.int i, .int j, .int c] => if sm62 i = true ∧ sm62 j = true ∧ c = -1 then .ok (rngD i (-1) (i - j).toNat, []) h1 else .bad
  | _ => .bad
/-- reversed(range(j)) -/
def mRvR (m : Ev → Hm → R (List D)) : Ev → Hm → R Itr := fun env h => (m env h).bind fun ds h1 => match ds with
  | [.int j] => if sm62 j = true then .ok (rngD (0 + (((j - 0).toNat : Nat) : Int) - 1) (-1) (j - 0).toNat, []) h1 else .bad
  | _ => .bad
def itRev (h : Hm) : D → Option Itr
  | .rol ds => some (ds.reverse, [])
  | .tup ds => some (ds.reverse, [])
  | .ref r => match h[r]? with
    | some (.lst ds) => some (ds.reverse, [(r, .lst ds)])
    | _ => none
  | _ => none
def mRev (m : Ev → Hm → R D) : Ev → Hm → R Itr := fun env h => (m env h).bind fun x h1 => oR (itRev h1 x) h1
def mEnum (m : Ev → Hm → R (List D)) : Ev → Hm → R Itr := fun env h => (m env h).bind fun ds h1 => match ds with
  | [x] => match itL h1 x with
    | some it => .ok (enumD 0 it.1, it.2) h1
    | none => .bad
  | _ => .bad
def mZip (m : Ev → Hm → R (List D)) : Ev → Hm → R Itr := fun env h => (m env h).bind fun ds h1 => match ds with
  | [x, y] => match itL h1 x, itL h1 y with
    | some a, some b => .ok (zipD a.1 b.1, a.2 ++ b.2) h1
    | _, _ => match itT x, itT y with
      | some a, some b => .ok (zipD a.1 b.1, a.2 ++ b.2) h1
      | _, _ => .bad
  | _ => .bad
section
variable {G : Gx} {π : List Addr} {h : Hm} {H : Hp}
theorem itL_ok (g : Good G π h H) {d : D} {x : V} {it : Itr} (dx : DV G.K π H d x) (e : itL h d = some it) : ∃ a, x = .ref a ∧ (∃ xs, SqL G.K H a xs) ∧ WalkD G π H (Itl G.K a) it ∧ SeqA G π H false a it.1 it.2 ∧ WalkD G π H (Ite G.K a) (enumD 0 it.1, it.2) := by
  cases d with
  | rol ds =>
    cases e
    obtain ⟨a, xs, rfl, t, q⟩ := dx
    exact ⟨a, rfl, ⟨xs, t.sq⟩, walk_rol t q, seqA_rol t q, walk_enK t q⟩
  | ref r =>
    obtain ⟨a, qa, rfl⟩ := dx
    have e' : (match h[r]? with
      | some (.lst ds) => some (ds, [(r, O.lst ds)])
      | _ => none) = some it := e
    split at e'
    · rename_i e0
      cases e'
      obtain ⟨xs, ha, q⟩ := g.lst e0 qa
      exact ⟨a, rfl, ⟨xs, SqL.of ha⟩, walk_lst qa, seqA_lst qa, walk_en qa⟩
    · cases e'
  | _ => cases e
theorem itT_ok {d : D} {x : V} {it : Itr} (dx : DV G.K π H d x) (e : itT d = some it) : ∃ a, x = .ref a ∧ (∃ xs, SqT G.K H a xs) ∧ WalkD G π H (Itt G.K a) it ∧ SeqA G π H true a it.1 it.2 := by
  cases d with
  | tup ds =>
    cases e
    obtain ⟨a, xs, rfl, t, q⟩ := dx
    exact ⟨a, rfl, ⟨xs, t.sq⟩, walk_tp t q, seqA_tup t q⟩
  | _ => cases e
end
theorem sm62_ok {i : Int} (h : sm62 i = true) : -(2 ^ 62) ≤ i ∧ i < 2 ^ 62 := of_decide_eq_true h
section
variable {X : Cx} {T : List (Addr × Str)} {W : WX} {tg e e2 e3 : Expr} {es : List Expr} {me me2 : Ev → Hm → R D} {mr : Ev → Hm → R (List D)} {p p' pos pos' tpos : Pos} {kk : Nat} {elts : List Expr}
theorem im_list (he : Em X T W e me) : Im X T W tg e (mItL me) := PI.of (pi_list he) fun σ H Q ⟨π, env, h, s, p⟩ => by
  refine ⟨π, env, h, s, p.bind.mono fun π1 H1 h1 d s1 g1 p1 x dx => ?_⟩
  cases q : itL h1 d with
  | none => rw [q] at p1; exact p1.elim
  | some it =>
    rw [q] at p1
    obtain ⟨a, e1, e2, w, _⟩ := itL_ok g1 dx q
    exact ⟨a, e1, e2, p1 π1 H1 Step.refl g1 _ w⟩
theorem im_tup (he : Em X T W e me) : Im X T W tg e (mItT me) := PI.of (pi_tup he) fun σ H Q ⟨π, env, h, s, p⟩ => by
  refine ⟨π, env, h, s, p.bind.mono fun π1 H1 h1 d s1 g1 p1 x dx => ?_⟩
  cases q : itT d with
  | none => rw [q] at p1; exact p1.elim
  | some it =>
    rw [q] at p1
    obtain ⟨a, e1, e2, w, _⟩ := itT_ok (G := gx X T) dx q
    exact ⟨a, e1, e2, p1 π1 H1 Step.refl g1 _ w⟩
theorem im_range1 (hg : Gl X "range") (hm : X.mg "range" = none) (ha : Am X T W [e] mr) (hs : starEach [e] X.env = [(false, eval e X.env)] := by rfl) : Im X T W tg (.Call (.Name "range" p) [e] [] pos) (mRg1 mr) := PI.of (pi_range1 hg hm ha hs) fun σ H Q ⟨π, env, h, s, p⟩ => by
  refine ⟨π, env, h, s, p.bind.mono fun π1 H1 h1 ds s1 g1 p1 vs dv => ?_⟩
  split at p1
  · obtain ⟨v, vs, rfl, d1, e⟩ := dv
    obtain rfl := (show vs = [] from e)
    obtain rfl := (show v = _ from d1)
    split at p1
    · rename_i hc
      exact ⟨_, rfl, (sm62_ok hc).1, (sm62_ok hc).2, p1 π1 H1 Step.refl g1 _ walk_rg⟩
    · exact p1.elim
  · exact p1.elim
theorem im_range2 (hg : Gl X "range") (hm : X.mg "range" = none) (ha : Am X T W [e, e2] mr) (hs : starEach [e, e2] X.env = [(false, eval e X.env), (false, eval e2 X.env)] := by rfl) (hs2 : starEach [e2] X.env = [(false, eval e2 X.env)] := by rfl) : Im X T W tg (.Call (.Name "range" p) [e, e2] [] pos) (mRg2 mr) := PI.of (pi_range2 hg hm ha hs hs2) fun σ H Q ⟨π, env, h, s, p⟩ => by
  refine ⟨π, env, h, s, p.bind.mono fun π1 H1 h1 ds s1 g1 p1 vs dv => ?_⟩
  split at p1
  · obtain ⟨v, vs, rfl, d1, w, ws, rfl, d2, e⟩ := dv
    obtain rfl := (show ws = [] from e)
    obtain rfl := (show v = _ from d1)
    obtain rfl := (show w = _ from d2)
    split at p1
    · rename_i hc
      exact ⟨_, _, rfl, ⟨(sm62_ok hc.1).1, (sm62_ok hc.1).2, (sm62_ok hc.2).1, (sm62_ok hc.2).2⟩, p1 π1 H1 Step.refl g1 _ walk_rg⟩
    · exact p1.elim
  · exact p1.elim
theorem im_reversed (hg : Gl X "reversed") (hm : X.mg "reversed" = none) (he : Em X T W e me) (hs : starEach [e] X.env = (false, eval e X.env) :: starEach [] X.env := by rfl) : Im X T W tg (.Call (.Name "reversed" p) [e] [] pos) (mRev me) := PI.of (RT.pi_revA hg hm he hs) fun σ H Q ⟨π, env, h, s, p⟩ => by
  refine ⟨π, env, h, s, p.bind.mono fun π1 H1 h1 d s1 g1 p1 x dx => ?_⟩
  cases q : itRev h1 d with
  | none => rw [q] at p1; exact p1.elim
  | some it =>
    rw [q] at p1
    cases d with
    | rol ds =>
      cases q
      obtain ⟨a, xs, rfl, t, q⟩ := dx
      exact ⟨a, xs, rfl, .inl ⟨t.sq, p1 π1 H1 Step.refl g1 _ (walk_rvK t q)⟩⟩
    | tup ds =>
      cases q
      obtain ⟨a, xs, rfl, t, q⟩ := dx
      exact ⟨a, xs, rfl, .inr ⟨t.sq, p1 π1 H1 Step.refl g1 _ (walk_rvT t q)⟩⟩
    | ref r =>
      obtain ⟨a, qa, rfl⟩ := dx
      have e' : (match h1[r]? with
        | some (.lst ds) => some (ds.reverse, [(r, O.lst ds)])
        | _ => none) = some it := q
      split at e'
      · rename_i e0
        cases e'
        obtain ⟨xs, ha, q⟩ := g1.lst e0 qa
        exact ⟨a, xs, rfl, .inl ⟨SqL.of ha, p1 π1 H1 Step.refl g1 _ (walk_rv qa q.len)⟩⟩
      · cases e'
    | _ => cases q
theorem im_enum (hg : Gl X "enumerate") (hm : X.mg "enumerate" = none) (ha : Am X T W [e] mr) (hs : starEach [e] X.env = [(false, eval e X.env)] := by rfl) : Im X T W (.Tuple elts kk tpos) (.Call (.Name "enumerate" p) [e] [] pos) (mEnum mr) := PI.of (pi_enum hg hm ha hs) fun σ H Q ⟨π, env, h, s, p⟩ => by
  refine ⟨π, env, h, s, p.bind.mono fun π1 H1 h1 ds s1 g1 p1 vs dv => ?_⟩
  split at p1
  · obtain ⟨v, vs, rfl, d1, e⟩ := dv
    obtain rfl := (show vs = [] from e)
    split at p1
    · rename_i it ei
      obtain ⟨a, e1, ⟨xs, e2⟩, w, w2, w3⟩ := itL_ok g1 d1 ei
      subst e1
      exact ⟨a, xs, rfl, e2, p1 π1 H1 Step.refl g1 _ w3⟩
    · exact p1.elim
  · exact p1.elim
theorem im_zip (hg : Gl X "zip") (hm : X.mg "zip" = none) (ha : Am X T W [e, e2] mr) (hs : starEach [e, e2] X.env = (false, eval e X.env) :: starEach [e2] X.env := by rfl) (hpl : (backTo pos (starEach [e2] X.env)).any (·.1) = false := by rfl) : Im X T W (.Tuple elts kk tpos) (.Call (.Name "zip" p) [e, e2] [] pos) (mZip mr) := PI.of (RZ.pi_zipA hg hm ha hs hpl) fun σ H Q ⟨π, env, h, s, p⟩ => by
  refine ⟨π, env, h, s, p.bind.mono fun π1 H1 h1 ds s1 g1 p1 vs dv => ?_⟩
  split at p1
  · rename_i x y
    obtain ⟨v, vs, rfl, d1, w, ws, rfl, d2, e⟩ := dv
    obtain rfl := (show ws = [] from e)
    split at p1
    · rename_i ia ib ea eb
      obtain ⟨a, e1, ⟨xs, e2⟩, _, w2, _⟩ := itL_ok g1 d1 ea
      obtain ⟨b, e1', ⟨ys, e2'⟩, _, w2', _⟩ := itL_ok g1 d2 eb
      subst e1 e1'
      exact ⟨a, b, xs, ys, rfl, .inl ⟨e2, e2', p1 π1 H1 Step.refl g1 _ (walk_zp w2 w2')⟩⟩
    · split at p1
      · rename_i ia ib ea eb
        obtain ⟨a, e1, ⟨xs, e2⟩, _, w2⟩ := itT_ok (G := gx X T) d1 ea
        obtain ⟨b, e1', ⟨ys, e2'⟩, _, w2'⟩ := itT_ok (G := gx X T) d2 eb
        subst e1 e1'
        exact ⟨a, b, xs, ys, rfl, .inr ⟨e2, e2', p1 π1 H1 Step.refl g1 _ (walk_zpT w2 w2')⟩⟩
      · exact p1.elim
  · exact p1.elim
end

def forL (gs : List (Nat × O)) (g : Gt) (b : Ev → Hm → SR) : List D → Ev → Hm → SR
  | [], env, h => if gdOk gs h = true then .next env h else .bad
  | d :: ds, env, h => if gdOk gs h = true then (match (g d env h).only with
      | .next e1 h1 => (match b e1 h1 with
        | .next e2 h2 => forL gs g b ds e2 h2
        | .cont e2 h2 => forL gs g b ds e2 h2
        | .brk e2 h2 => .next e2 h2
        | r => r)
      | r => r) else .bad
def sFor (m : Ev → Hm → R Itr) (g : Gt) (b : Ev → Hm → SR) : Ev → Hm → SR := fun env h => (m env h).bindS env fun it h1 => forL it.2 g b it.1 env h1
section
variable {X : Cx} {T : List (Addr × Str)} {W : WX} {tg iter : Expr} {body : List Stmt} {m : Ev → Hm → R Itr} {g : Gt} {b : Ev → Hm → SR} {pos : Pos}
theorem sm_for (hp : PassesOwn (model X.prog X.w) X.A X.env X.xe) (hc : X.calm = true) (hi : Im X T W tg iter m) (hg : Gm X T W tg g) (hb : Ssm X T W body b) (hs : ∀ x, foldedSetIterable iter X.env x = pure x := by intro _; rfl) : Sm X T W (.For tg iter body [] pos) (sFor m g b) :=
  PS.of (ps_for hp hc hi hg hb hs) fun D σ H ⟨π, env, h, s, p⟩ => ⟨π, env, h, s, (PostS.bind s p).mono fun π1 H1 h1 it s1 g1 p1 J w => by
    refine ⟨fun i n σ' H' => i + n = it.1.length ∧ ∃ π' env' h', Step π1 H1 π' H' ∧ S (gx X T) π' env' h' σ' H' ∧ PostS (gx X T) W D π' H' (forL it.2 g b (it.1.drop i) env' h'), ⟨it.1.length, by simp, π1, env, h1, Step.refl, s.step s1 g1, by rw [List.drop_zero]; exact p1⟩, ?_⟩
    rintro i n σ2 H2 ⟨hin, π2, e2, h2, s2, x2, p2⟩
    by_cases hi : i < it.1.length
    · rw [List.drop_eq_getElem_cons hi] at p2
      unfold forL at p2
      by_cases hk : gdOk it.2 h2 = true
      · rw [if_pos hk] at p2
        refine .inr ⟨w.go i π2 h2 H2 s2 x2.good hk hi, fun σ' H' => (i + 1) + (n - 1) = it.1.length ∧ ∃ π' env' h', Step π1 H1 π' H' ∧ S (gx X T) π' env' h' σ' H' ∧ PostS (gx X T) W D π' H' (forL it.2 g b (it.1.drop (i + 1)) env' h'), fun σ' H' z => ⟨n - 1, by omega, z⟩, fun x H' y => ?_⟩
        obtain ⟨s3, g3, d, ed, dv⟩ := w.yld i π2 h2 H2 x H' s2 x2.good hk hi y
        rw [List.getElem?_eq_getElem hi] at ed
        cases ed
        have p3 := PostS.step s3 p2
        refine ⟨π2, e2, h2, _, x2.step s3 g3, dv, ?_⟩
        generalize g (it.1[i]) e2 h2 = z at p3 ⊢
        cases z with
        | next e4 h4 =>
          intro π4 σ4 H4 s4 x4
          refine ⟨π4, e4, h4, x4, ?_⟩
          have p4 := PostS.step s4 p3
          unfold SR.only at p4
          simp only at p4
          generalize b e4 h4 = z at p4 ⊢
          cases z with
          | next e5 h5 => exact fun π5 σ5 H5 s5 x5 => ⟨by omega, π5, e5, h5, ((s2.trans s3).trans s4).trans s5, x5, PostS.step s5 p4⟩
          | cont e5 h5 => exact fun π5 σ5 H5 s5 x5 => ⟨by omega, π5, e5, h5, ((s2.trans s3).trans s4).trans s5, x5, PostS.step s5 p4⟩
          | brk e5 h5 => exact p4
          | ret d h => exact p4
          | exn y e h => exact p4
          | bad => exact p4
        | ret d h => exact (show False from p3).elim
        | brk env h => exact (show False from p3).elim
        | cont env h => exact (show False from p3).elim
        | exn y env h => exact p3
        | bad => exact p3
      · rw [if_neg hk] at p2
        exact p2.elim
    · have hi' : i = it.1.length := by omega
      rw [List.drop_of_length_le (by omega)] at p2
      unfold forL at p2
      by_cases hk : gdOk it.2 h2 = true
      · rw [if_pos hk] at p2
        exact .inl ⟨w.stop i π2 h2 H2 s2 x2.good hk hi', p2 π2 σ2 H2 Step.refl x2⟩
      · rw [if_neg hk] at p2
        exact p2.elim⟩
end
end MM

namespace MM
open PySem L2

/-- what data need of a step -/
structure StepV (π : List Addr) (H : Hp) (π' : List Addr) (H' : Hp) : Prop where
  ext : ∃ more, π' = π ++ more
  tup : ∀ a xs, H a = some (.tup xs) → a ∉ π → H' a = some (.tup xs) ∧ a ∉ π'
  frz : ∀ a o xs, H a = some (.frz o (.lst xs)) → a ∉ π → H' a = some (.frz o (.lst xs)) ∧ a ∉ π'
section
variable {K : PySem.W.Frag} {π π' : List Addr} {H H' : Hp}
theorem StepV.get (s : StepV π H π' H') {i : Nat} {a : Addr} (h : π[i]? = some a) : π'[i]? = some a := by
  obtain ⟨m, e⟩ := s.ext
  rw [e, List.getElem?_append_left (List.getElem?_eq_some_iff.mp h).1]
  exact h
theorem TupAt.stepV (s : StepV π H π' H') {a : Addr} {xs : List V} (h : TupAt K π H a xs) : TupAt K π' H' a xs := by
  rcases h with ⟨h, n⟩ | h
  · exact .inl (s.tup a xs h n)
  · exact .inr h
theorem LstAt.stepV (s : StepV π H π' H') {a : Addr} {xs : List V} (h : LstAt K π H a xs) : LstAt K π' H' a xs := by
  rcases h with ⟨o, h, n⟩ | h
  · exact .inl ⟨o, s.frz a o xs h n⟩
  · exact .inr h
mutual
theorem DV.stepV (s : StepV π H π' H') : ∀ (d : D) (v : V), DV K π H d v → DV K π' H' d v
  | .non, _, h => h
  | .bl _, _, h => h
  | .int _, _, h => h
  | .str _, _, h => h
  | .ref _, _, ⟨a, h, e⟩ => ⟨a, s.get h, e⟩
  | .tup ds, _, ⟨a, xs, e, h, q⟩ => ⟨a, xs, e, h.stepV s, DVs.stepV s ds xs q⟩
  | .rol ds, _, ⟨a, xs, e, h, q⟩ => ⟨a, xs, e, h.stepV s, DVs.stepV s ds xs q⟩
theorem DVs.stepV (s : StepV π H π' H') : ∀ (ds : List D) (xs : List V), DVs K π H ds xs → DVs K π' H' ds xs
  | [], _, h => h
  | d :: ds, _, ⟨v, vs, e, h, q⟩ => ⟨v, vs, e, DV.stepV s d v h, DVs.stepV s ds vs q⟩
end
theorem DPs.stepV {κ : Type} (s : StepV π H π' H') : ∀ (ps : List (κ × D)) (xs : List (κ × V)), DPs K π H ps xs → DPs K π' H' ps xs
  | [], _, h => h
  | p :: ps, _, ⟨v, vs, e, h, q⟩ => ⟨v, vs, e, h.stepV s _ _, DPs.stepV s ps vs q⟩
theorem OV.stepV {G : Gx} {a : Addr} {o : O} (s : StepV π H π' H') (e : H' a = H a) (h : OV G π H a o) : OV G π' H' a o := by
  cases o with
  | lst ds => obtain ⟨xs, h, q⟩ := h; exact ⟨xs, e.trans h, q.stepV s _ _⟩
  | dic ds => obtain ⟨xs, h, q⟩ := h; exact ⟨xs, e.trans h, q.stepV s _ _⟩
  | dicL ds => obtain ⟨o, xs, h, q⟩ := h; exact ⟨o, xs, e.trans h, q.stepV s _ _⟩
  | ins c fs => obtain ⟨C, dx, xs, g, h, q⟩ := h; exact ⟨C, dx, xs, g, e.trans h, q.stepV s _ _⟩
/-- a list that is none of ours (yet) is written -/
theorem StepV.hid {P : Addr} {xs ys : List V} (e : H P = some (.lst xs)) : StepV π H π (upd H P (.lst ys)) :=
  ⟨⟨[], by simp⟩, fun a zs h n => ⟨by rw [upd_ne (show a ≠ P from fun z => by rw [z, e] at h; cases h)]; exact h, n⟩, fun a o zs h n => ⟨by rw [upd_ne (show a ≠ P from fun z => by rw [z, e] at h; cases h)]; exact h, n⟩⟩
theorem Step.hide {P : Addr} {o : HO} (s : Step π H π' H') (n : H P = none) : Step π H π' (upd H' P o) :=
  ⟨s.ext, s.out, fun a u e m t => by rw [upd_ne (show a ≠ P from fun z => by rw [z, n] at e; cases e)]; exact s.keep a u e m t, fun a o u e => by rw [upd_ne (show a ≠ P from fun z => by rw [z, n] at e; cases e)]; exact s.frz a o u e⟩
theorem Good.hid {G : Gx} {h : Hm} {P : Addr} {xs ys : List V} (g : Good G π h H) (e : H P = some (.lst xs)) (n : P ∉ π) : Good G π h (upd H P (.lst ys)) := by
  refine ⟨g.len, g.nd, fun i a o h1 h2 => (g.ob i a o h1 h2).stepV (StepV.hid e) (upd_ne (show a ≠ P from fun z => n (by rw [← z]; exact List.mem_of_getElem? h1))), g.tabs_upd (.inr ⟨_, e, fun ⟨ps, z⟩ => (by cases z), fun c q z => (by unfold LamX.CodeO at z; cases z)⟩), g.tout⟩
theorem StepV.adopt {P : Addr} {xs : List V} (e : H P = some (.lst xs)) : StepV π H (π ++ [P]) H := by
  refine ⟨⟨[P], rfl⟩, fun a zs h n => ⟨h, fun m => ?_⟩, fun a o zs h n => ⟨h, fun m => ?_⟩⟩
  · rcases List.mem_append.mp m with m | m
    · exact n m
    · rw [List.mem_singleton] at m
      rw [m, e] at h
      cases h
  · rcases List.mem_append.mp m with m | m
    · exact n m
    · rw [List.mem_singleton] at m
      rw [m, e] at h
      cases h
theorem Step.adopt {P : Addr} (s : Step π H π' H') (n : H P = none) : Step π H (π' ++ [P]) H' := by
  obtain ⟨m, e⟩ := s.ext
  refine ⟨⟨m ++ [P], by rw [e, List.append_assoc]⟩, fun a o h k t z => ?_, s.keep, s.frz⟩
  rcases List.mem_append.mp z with z | z
  · exact s.out a o h k t z
  · rw [List.mem_singleton] at z
    rw [z, n] at h
    cases h
theorem Good.adopt {G : Gx} {h : Hm} {P : Addr} {ds : List D} {xs : List V} (g : Good G π h H) (e : H P = some (.lst xs)) (n : P ∉ π) (q : DVs G.K π H ds xs) : Good G (π ++ [P]) (h ++ [.lst ds]) H := by
  have s : StepV π H (π ++ [P]) H := StepV.adopt e
  refine ⟨by rw [List.length_append, List.length_append, g.len] <;> rfl, ?_, fun i b v e1 e2 => ?_, g.tabs, fun p hp m => ?_⟩
  · rw [List.nodup_append]
    refine ⟨g.nd, by simp, fun x hx y hy z => ?_⟩
    rw [List.mem_singleton] at hy
    rw [z, hy] at hx
    exact n hx
  · by_cases hi : i < π.length
    · rw [List.getElem?_append_left hi] at e1
      rw [List.getElem?_append_left (by rw [← g.len]; exact hi)] at e2
      exact (g.ob i b v e1 e2).stepV s rfl
    · have h1 := (List.getElem?_eq_some_iff.mp e1).1
      have hi' : i = π.length := by
        rw [List.length_append, List.length_singleton] at h1
        omega
      subst hi'
      rw [List.getElem?_append_right (Nat.le_refl _), Nat.sub_self] at e1
      rw [List.getElem?_append_right (by rw [g.len]; exact Nat.le_refl _), g.len, Nat.sub_self] at e2
      have e1' : P = b := Option.some.inj e1
      have e2' : O.lst ds = v := Option.some.inj e2
      subst e1' e2'
      exact ⟨xs, e, q.stepV s _ _⟩
  · rcases List.mem_append.mp m with m | m
    · exact g.tout p hp m
    · rw [List.mem_singleton] at m
      obtain ⟨ps, z⟩ := tab_at (g.tabs p hp)
      rw [m, e] at z
      cases z
theorem EnvOk.stepV {G : Gx} {env : Ev} {σ : L2.St} (s : StepV π H π' H') (e : EnvOk G π H env σ) : EnvOk G π' H' env σ := ⟨e.len, fun i d q => by
  obtain ⟨v, h1, h2⟩ := e.get i d q
  exact ⟨v, h1, h2.stepV s _ _⟩⟩
end

def wipeE (env : Ev) : List Nat → Ev
  | [] => env
  | v :: vs => (wipeE env vs).set v none
theorem EnvOk.wipe {G : Gx} {π : List Addr} {H : Hp} {env : Ev} {σ : L2.St} (e : EnvOk G π H env σ) : ∀ vs : List Nat, EnvOk G π H (wipeE env vs) (wipe σ vs)
  | [] => e
  | v :: vs => (EnvOk.wipe e vs).gone v
theorem wipe_len (σ : L2.St) : ∀ vs : List Nat, (wipe σ vs).length = σ.length := wipe_length σ
theorem wipe_get {σ : L2.St} {i : Nat} : ∀ {vs : List Nat}, i ∈ vs → i < σ.length → (wipe σ vs)[i]? = some none
  | v :: vs, m, l => by
    unfold wipe
    by_cases h : i = v
    · subst h
      rw [List.getElem?_set_self (by rw [wipe_length]; exact l)]
    · rw [List.getElem?_set_ne (Ne.symm h)]
      exact wipe_get ((List.mem_cons.mp m).resolve_left h) l
theorem wipe_set {σ : L2.St} {i : Nat} {x : Option V} {vs : List Nat} (m : i ∈ vs) : wipe (σ.set i x) vs = wipe σ vs := by
  apply List.ext_getElem?
  intro j
  by_cases hj : j ∈ vs
  · by_cases hl : j < σ.length
    · rw [wipe_get hj hl, wipe_get hj (by rw [List.length_set]; exact hl)]
    · rw [List.getElem?_eq_none (by rw [wipe_length, List.length_set]; omega), List.getElem?_eq_none (by rw [wipe_length]; omega)]
  · rw [wipe_out hj, wipe_out hj, List.getElem?_set_ne (show i ≠ j from fun z => hj (by rw [← z]; exact m))]
theorem wipe_wipe {σ : L2.St} : ∀ {vs ws : List Nat}, (∀ v ∈ vs, v ∈ ws) → wipe (wipe σ vs) ws = wipe σ ws
  | [], _, _ => rfl
  | v :: vs, ws, h => by
    show wipe ((wipe σ vs).set v none) ws = _
    rw [wipe_set (h v List.mem_cons_self), wipe_wipe fun u hu => h u (List.mem_cons_of_mem _ hu)]
/-- as tG, the slots known outside vs -/
def tGw (G : Gx) (W : WX) (vs : List Nat) (g : Gt) : TG := fun v σ H Q => ∃ π env h d, S G π env h σ H ∧ DV G.K π H d v ∧ PostS G W (nxO fun σ' H' => wipe σ' vs = wipe σ vs → Q σ' H') π H (g d env h)
def tGsw (G : Gx) (W : WX) (vs : List Nat) (g : Gts) : TGs := fun us σ H Q => ∃ π env h ds, S G π env h σ H ∧ DVs G.K π H ds us ∧ PostS G W (nxO fun σ' H' => wipe σ' vs = wipe σ vs → Q σ' H') π H (g ds env h)
abbrev Gw (X : Cx) (T : List (Addr × Str)) (W : WX) (vs : List Nat) (e : Expr) (g : Gt) : Prop := PG X e (tGw (gx X T) W vs g)
abbrev Gsw (X : Cx) (T : List (Addr × Str)) (W : WX) (vs : List Nat) (e : List Expr) (g : Gts) : Prop := PGs X e (tGsw (gx X T) W vs g)
section
variable {X : Cx} {T : List (Addr × Str)} {W : WX} {vs : List Nat} {e : Expr} {es : List Expr} {g : Gt} {r : Gts} {pos : Pos}
theorem gw_name (i : Nat) {x : Str} (hN : X.N.Nodup) (hi : X.N[i]? = some x := by rfl) (hx : Loc X.env.scope x := by first | exact .inl rfl | exact .inr rfl) (hf : X.fn x = true ∨ X.env.scope.names.lookup x = some .local := by first | exact .inl rfl | exact .inr rfl | assumption) (hm : i ∈ vs := by decide) : Gw X T W vs (.Name x pos) (gN i) :=
  PG.of (pg_name hN hi hx hf) fun v σ H Q ⟨π, env, h, d, s, dv, p⟩ => p π _ H Step.refl ⟨s.good, s.env.set dv i⟩ (wipe_set hm)
theorem gsw_nil : Gsw X T W vs [] gsNil := PGs.of pgs_nil fun v σ H Q ⟨π, env, h, ds, s, dv, p⟩ => by
  cases ds with
  | nil => exact ⟨dv, p π σ H Step.refl s rfl⟩
  | cons d ds => exact p.elim
theorem gsw_cons (h1 : Gw X T W vs e g) (h2 : Gsw X T W vs es r) (hs : (assignEach (e :: es) X.env).map (·.2) = assign e X.env :: (assignEach es X.env).map (·.2) := by rfl) : Gsw X T W vs (e :: es) (gsCons g r) := PGs.of (pgs_cons h1 h2 hs) fun v σ H Q ⟨π, env, h, ds, s, dv, p⟩ => by
  cases ds with
  | nil => exact p.elim
  | cons d ds =>
    obtain ⟨v, us, rfl, d1, d2⟩ := dv
    refine ⟨v, us, rfl, π, env, h, d, s, d1, ?_⟩
    have p' : PostS (gx X T) W (nxO fun σ' H' => wipe σ' vs = wipe σ vs → Q σ' H') π H ((g d env h).then (r ds)) := p
    generalize g d env h = z at p' ⊢
    cases z with
    | next env' h' => exact fun π2 σ2 H2 s2 x e => ⟨π2, env', h', ds, x, d2.step s2 _ _, (PostS.step s2 p').mono (fun σ3 H3 z e2 => z (e2.trans e)) (fun _ _ z => z) (fun _ _ z => z) (fun _ _ z => z)⟩
    | ret d h => exact p'
    | brk env h => exact p'
    | cont env h => exact p'
    | exn y env h => exact p'
    | bad => exact p'
theorem gw_tup {k n : Nat} (hc : X.calm = true) (hr : Gsw X T W vs es r) (hn : (assignEach es X.env).length = n := by rfl) (hst : (assignEach es X.env).findIdx? (·.1) = none := by rfl) : Gw X T W vs (.Tuple es k pos) (gT n r) :=
  PG.of (pg_tup hc hr hn hst) fun v σ H Q ⟨π, env, h, d, s, dv, p⟩ => by
    unfold gT at p
    split at p
    · obtain ⟨a, xs, rfl, t, q⟩ := dv
      split at p
      · rename_i hl
        exact ⟨a, xs, rfl, t.sq, by rw [q.len]; exact hl, π, env, h, _, s, q, p⟩
      · exact p.elim
    · exact p.elim
theorem gw_lst {k n : Nat} (hc : X.calm = true) (hr : Gsw X T W vs es r) (hn : (assignEach es X.env).length = n := by rfl) (hst : (assignEach es X.env).findIdx? (·.1) = none := by rfl) : Gw X T W vs (.Tuple es k pos) (gL n r) :=
  PG.of (pg_lst hc hr hn hst) fun v σ H Q ⟨π, env, h, d, s, dv, p⟩ => by
    unfold gL at p
    split at p
    · obtain ⟨a, qa, rfl⟩ := dv
      split at p
      · rename_i e0
        obtain ⟨xs, ha, q⟩ := s.good.lst e0 qa
        split at p
        · rename_i hl
          exact ⟨a, xs, rfl, SqL.of ha, by rw [q.len]; exact hl, π, env, h, _, s, q, p⟩
        · exact p.elim
      · exact p.elim
    · exact p.elim
end

def lcL (gs : List (Nat × O)) (g : Gt) (t : Ev → Hm → R Bool) (e : Ev → Hm → R D) (env : Ev) : List D → Hm → R (List D)
  | [], h => if gdOk gs h = true then .ok [] h else .bad
  | d :: ds, h => if gdOk gs h = true then (match g d env h with
      | .next e1 h1 => (match t e1 h1 with
        | .ok true h2 => (match e e1 h2 with
          | .ok y h3 => (match lcL gs g t e env ds h3 with
            | .ok ys h4 => .ok (y :: ys) h4
            | _ => .bad)
          | _ => .bad)
        | .ok false h2 => lcL gs g t e env ds h2
        | _ => .bad)
      | _ => .bad) else .bad
def mLc (vs : List Nat) (m : Ev → Hm → R Itr) (g : Gt) (t : Ev → Hm → R Bool) (e : Ev → Hm → R D) : Ev → Hm → R D := fun env h => (m env h).bind fun it h1 => if it.1.length ≤ 16777216 then (match lcL it.2 g t e (wipeE env vs) it.1 h1 with
  | .ok ys h2 => .ok (.ref h2.length) (h2 ++ [.lst ys])
  | _ => .bad) else .bad
def tYesM : Ev → Hm → R Bool := fun _ h => .ok true h
def WF : WX := fun _ _ _ _ => False
abbrev Tsm (X : Cx) (T : List (Addr × Str)) (W : WX) (e : List Expr) (m : Ev → Hm → R Bool) : Prop := PTs X e (tB' (gx X T) W m)
theorem tsm_nil {X : Cx} {T : List (Addr × Str)} {W : WX} : Tsm X T W [] tYesM := ⟨fun pins s σ H Q I ⟨π, env, h, x, p⟩ => pts_nil.run pins s σ H Q I (p π H Step.refl x.good)⟩
theorem tsm_one {X : Cx} {T : List (Addr × Str)} {W : WX} {c : Expr} {t : Ev → Hm → R Bool} (h : Tm X T W c t) : Tsm X T W [c] t := pts_one h
theorem lc_of {G : Gx} {W : WX} {vs : List Nat} {m : Ev → Hm → R Itr} {g : Gt} {t : Ev → Hm → R Bool} {e : Ev → Hm → R D} {σ : L2.St} {H : Hp} {Q : VK} (p : tE G W (mLc vs m g t e) σ H Q) : tLc (tI G W m) (tGw G WF vs g) (tB' G WF t) (tE G WF e) vs σ H Q := by
  obtain ⟨π, env, h, s, p⟩ := p
  refine ⟨π, env, h, s, p.bind.mono fun π1 H1 h1 it s1 g1 p1 J w P hP => ?_⟩
  by_cases hlen : it.1.length ≤ 16777216
  · rw [if_pos hlen] at p1
    cases hr : lcL it.2 g t e (wipeE env vs) it.1 h1 with
    | exn x h' => rw [hr] at p1; exact p1.elim
    | bad => rw [hr] at p1; exact p1.elim
    | ok ys hF =>
      rw [hr] at p1
      have p1' : Post G W π1 σ H1 (R.ok (D.ref hF.length) (hF ++ [O.lst ys])) (fun π' H' _ d => ∀ v, DV G.K π' H' d v → Q v H') := p1
      have eW : EnvOk G π1 H1 (wipeE env vs) (wipe σ vs) := (s.env.step s1).wipe vs
      refine ⟨fun i n H' => i + n = it.1.length ∧ ∃ π' h' acc rest xs, Step π1 H1 π' H' ∧ Good G π' h' H' ∧ EnvOk G π' H' (wipeE env vs) (wipe σ vs) ∧ H' P = some (.lst xs) ∧ P ∉ π' ∧ DVs G.K π' H' acc xs ∧ acc.length ≤ i ∧ acc ++ rest = ys ∧ lcL it.2 g t e (wipeE env vs) (it.1.drop i) h' = .ok rest hF,
        ⟨it.1.length, by simp, π1, h1, [], ys, [], Step.other g1 hP, g1.other hP, eW.step (Step.other g1 hP), upd_same, g1.free hP, rfl, Nat.le_refl _, rfl, by rw [List.drop_zero]; exact hr⟩, ?_⟩
      rintro i n H2 ⟨hin, π2, h2, acc, rest, xs, st2, g2, e2, hx2, n2, da, la, eq, run⟩
      by_cases hi : i < it.1.length
      · rw [List.drop_eq_getElem_cons hi] at run
        unfold lcL at run
        by_cases hk : gdOk it.2 h2 = true
        · rw [if_pos hk] at run
          refine .inr ⟨w.go i π2 h2 H2 st2 g2 hk hi, fun H' => (i + 1) + (n - 1) = it.1.length ∧ ∃ π' h' acc rest xs, Step π1 H1 π' H' ∧ Good G π' h' H' ∧ EnvOk G π' H' (wipeE env vs) (wipe σ vs) ∧ H' P = some (.lst xs) ∧ P ∉ π' ∧ DVs G.K π' H' acc xs ∧ acc.length ≤ i + 1 ∧ acc ++ rest = ys ∧ lcL it.2 g t e (wipeE env vs) (it.1.drop (i + 1)) h' = .ok rest hF, fun H' z => ⟨n - 1, by omega, z⟩, fun x H' y => ?_⟩
          obtain ⟨s3, g3, d, ed, dv⟩ := w.yld i π2 h2 H2 x H' st2 g2 hk hi y
          rw [List.getElem?_eq_getElem hi] at ed
          cases ed
          have np : ∀ ps, HO.lst xs ≠ .tbl ps := fun ps z => by cases z
          refine ⟨π2, wipeE env vs, h2, _, ⟨g3, e2.step s3⟩, dv, ?_⟩
          generalize g (it.1[i]) (wipeE env vs) h2 = z at run ⊢
          cases z with
          | next e4 h4 =>
            intro π4 σ4 H4 s4 x4 hw4
            have hw4' : wipe σ4 vs = wipe σ vs := hw4.trans (wipe_wipe fun v hv => hv)
            refine ⟨hw4', π4, e4, h4, x4, ?_⟩
            simp only at run
            cases ht : t e4 h4 with
            | exn x h' => rw [ht] at run; cases run
            | bad => rw [ht] at run; cases run
            | ok k h5 =>
              rw [ht] at run
              intro π5 H5 s5 g5
              have s35 := (s3.trans s4).trans s5
              have hx5 : H5 P = some (.lst xs) := s35.keep P _ hx2 n2 np
              have n5 : P ∉ π5 := s35.out P _ hx2 n2 np
              cases k with
              | false =>
                refine iteF ⟨by omega, π5, h5, acc, rest, xs, st2.trans s35, g5, (e2.step s35), hx5, n5, da.step s35 _ _, by omega, eq, run⟩
              | true =>
                refine iteT ⟨π5, e4, h5, x4.step s5 g5, ?_⟩
                simp only at run
                cases he : e e4 h5 with
                | exn x h' => rw [he] at run; cases run
                | bad => rw [he] at run; cases run
                | ok y h6 =>
                  rw [he] at run
                  simp only at run
                  cases hr2 : lcL it.2 g t e (wipeE env vs) (it.1.drop (i + 1)) h6 with
                  | exn x h' => rw [hr2] at run; cases run
                  | bad => rw [hr2] at run; cases run
                  | ok ys2 h7 =>
                    rw [hr2] at run
                    simp only [R.ok.injEq] at run
                    obtain ⟨r1, r2⟩ := run
                    subst r1 r2
                    intro π6 H6 s6 g6 v dy
                    have s36 := s35.trans s6
                    have hx6 : H6 P = some (.lst xs) := s36.keep P _ hx2 n2 np
                    have n6 : P ∉ π6 := s36.out P _ hx2 n2 np
                    have sv : StepV π6 H6 π6 (upd H6 P (.lst (xs ++ [v]))) := StepV.hid hx6
                    have da6 := da.step s36 _ _
                    refine ⟨xs, hx6, szl' (by rw [da6.len]; omega), by omega, π6, h6, acc ++ [y], ys2, xs ++ [v], (st2.trans s36).hide hP, g6.hid hx6 n6, (e2.step s36).stepV sv, upd_same, n6, (da6.snoc dy).stepV sv _ _, by rw [List.length_append, List.length_singleton]; omega, by rw [List.append_assoc]; exact eq, hr2⟩
          | ret d h => cases run
          | brk env h => cases run
          | cont env h => cases run
          | exn y env h => cases run
          | bad => cases run
        · rw [if_neg hk] at run
          cases run
      · have hi' : i = it.1.length := by omega
        rw [List.drop_of_length_le (by omega)] at run
        unfold lcL at run
        by_cases hk : gdOk it.2 h2 = true
        · rw [if_pos hk] at run
          simp only [R.ok.injEq] at run
          obtain ⟨r1, r2⟩ := run
          subst r1 r2
          rw [List.append_nil] at eq
          subst eq
          refine .inl ⟨w.stop i π2 h2 H2 st2 g2 hk hi', p1' (π2 ++ [P]) H2 (st2.adopt hP) (g2.adopt hx2 n2 da) _ ⟨P, ?_, rfl⟩⟩
          rw [List.getElem?_append_right (by rw [g2.len]; exact Nat.le_refl _), g2.len, Nat.sub_self] <;> rfl
        · rw [if_neg hk] at run
          cases run
  · rw [if_neg hlen] at p1
    exact p1.elim
section
variable {X : Cx} {T : List (Addr × Str)} {W : WX} {elt tg iter : Expr} {ifs : List Expr} {scope : Scope} {pos : Pos} {m : Ev → Hm → R Itr} {g : Gt} {t : Ev → Hm → R Bool} {e : Ev → Hm → R D}
theorem em_lc (own : List (Str × Nat)) (hc : X.calm = true) (hN : X.N.Nodup) (hi : Im X T W tg iter m) (ok : BlkOk X.N X.env.scope scope own)
    (hg : ∀ (s : Shared) (H : Hp) (C : Addr) (cl : List (Str × Addr)) (fp : List Addr), Gw (X.blk s H scope (compEnvC scope cl C X.env) fp) T WF (own.map (·.2)) tg g)
    (ht : ∀ (s : Shared) (H : Hp) (C : Addr) (cl : List (Str × Addr)) (fp : List Addr), Tsm (X.blk s H scope (compEnvC scope cl C X.env) fp) T WF ifs t)
    (he : ∀ (s : Shared) (H : Hp) (C : Addr) (cl : List (Str × Addr)) (fp : List Addr), Em (X.blk s H scope (compEnvC scope cl C X.env) fp) T WF elt e) (hs : ∀ x, foldedSetIterable iter X.env x = pure x := by intro _; rfl) :
    Em X T W (.ListComp elt [⟨tg, iter, ifs, 0⟩] scope pos) (mLc (own.map (·.2)) m g t e) :=
  PE.of (pe_lc hc hN hi ok hg ht he hs) fun σ H Q p => lc_of p
/-- name = [..] on one line -/
theorem sm_setLc (i : Nat) (own : List (Str × Nat)) {y : Str} {py spos : Pos} (hc : X.calm = true) (hN : X.N.Nodup) (hi : Im X T W tg iter m) (ok : BlkOk X.N X.env.scope scope own)
    (hg : ∀ (s : Shared) (H : Hp) (C : Addr) (cl : List (Str × Addr)) (fp : List Addr), Gw (X.blk s H scope (compEnvC scope cl C X.env) fp) T WF (own.map (·.2)) tg g)
    (ht : ∀ (s : Shared) (H : Hp) (C : Addr) (cl : List (Str × Addr)) (fp : List Addr), Tsm (X.blk s H scope (compEnvC scope cl C X.env) fp) T WF ifs t)
    (he : ∀ (s : Shared) (H : Hp) (C : Addr) (cl : List (Str × Addr)) (fp : List Addr), Em (X.blk s H scope (compEnvC scope cl C X.env) fp) T WF elt e)
    (hsw : swapsWith (.ListComp elt [⟨tg, iter, ifs, 0⟩] scope pos) (some (.Name y py)) spos.line X.env = pure true)
    (hy : X.N[i]? = some y := by rfl) (hyl : X.env.scope.names.lookup y = some .local := by rfl) (hs : ∀ x, foldedSetIterable iter X.env x = pure x := by intro _; rfl) :
    Sm X T W (.Assign [.Name y py] (.ListComp elt [⟨tg, iter, ifs, 0⟩] scope pos) spos) (sAsg (gN i) (mLc (own.map (·.2)) m g t e)) :=
  PS.of (ps_setLc hc hN hy hyl hsw hi ok hg ht he hs) fun D σ H ⟨π, env, h, s, p⟩ => lc_of (W := W) ⟨π, env, h, s, (PostS.bind s p).mono fun π1 H1 h1 d s1 g1 p1 v dv => p1 π1 _ H1 Step.refl ⟨g1, (s.step s1 g1).env.set dv i⟩⟩
end
end MM

namespace MM
open PySem L2

def startE (n : Nat) (ds : List D) : Ev := ds.map some ++ List.replicate (n - ds.length) none
def callM (n p : Nat) (m : Ev → Hm → SR) : Fc := fun ds h => if ds.length = p then (match m (startE n ds) h with
  | .next _ h' => .ok .non h'
  | .ret d h' => .ok d h'
  | .exn x _ h' => .exn x h'
  | _ => .bad) else .bad
/-- a def's promise: what the run of fn says -/
def spM (G : Gx) (fn : Fc) (n : Nat) : Sp := fun vs H Q E => ∃ π h ds, Good G π h H ∧ DVs G.K π H ds vs ∧ ds.length = n ∧ Post G (fun cls d _ H' => E cls d H') π [] H (fn ds h) fun π' H' _ d => ∀ v, DV G.K π' H' d v → Q v H'
structure FunM (P : Program) (w : World) (K : PySem.W.Frag) (mg : Str → Option Value) (base : Heap) (T : List (Addr × Str)) (k : Nat) (f : Addr) (p : Nat) (fn : Fc) : Prop where
  ex : ∃ fd ps, ps.length = p ∧ FnOk P w K mg base (L2.CX P w) k f fd ps (spM ⟨K, mg, T⟩ fn p) ∧ Binds K fd ps []
  kp : PySem.W.keepIn K (.ref f) = true
section
variable {P : Program} {w : World} {K : PySem.W.Frag} {mg : Str → Option Value} {base : Heap} {T : List (Addr × Str)}
theorem FunM.mono {j k : Nat} {f : Addr} {p : Nat} {fn : Fc} (F : FunM P w K mg base T j f p fn) (h : j ≤ k) : FunM P w K mg base T k f p fn := by
  obtain ⟨⟨fd, ps, e, F1, F2⟩, kp⟩ := F
  exact ⟨⟨fd, ps, e, F1.mono h, F2⟩, kp⟩
theorem envOk_start {G : Gx} {π : List Addr} {H : Hp} {N : List Str} {ds : List D} {vs : List V} (q : DVs G.K π H ds vs) : EnvOk G π H (startE N.length ds) (L2.start N vs) := by
  unfold startE L2.start
  refine ⟨by rw [List.length_append, List.length_append, List.length_map, List.length_map, List.length_replicate, List.length_replicate, q.len], fun i d e => ?_⟩
  by_cases hi : i < ds.length
  · rw [List.getElem?_append_left (by rw [List.length_map]; exact hi), List.getElem?_map, List.getElem?_eq_getElem hi] at e
    have e' : ds[i] = d := Option.some.inj (Option.some.inj e)
    subst e'
    obtain ⟨v, h1, h2⟩ := q.get (List.getElem?_eq_getElem hi)
    exact ⟨v, by rw [List.getElem?_append_left (by rw [List.length_map, q.len]; exact hi), List.getElem?_map, h1] <;> rfl, h2⟩
  · rw [List.getElem?_append_right (by rw [List.length_map]; omega)] at e
    have := List.mem_of_getElem? e
    rw [List.mem_replicate] at this
    cases this.2
theorem postS_fn {G : Gx} {π : List Addr} {H : Hp} {E : XK} {Q : VK} {n p : Nat} {m : Ev → Hm → SR} {ds : List D} {h : Hm} (q : Post G (fun cls d _ H' => E cls d H') π [] H (callM n p m ds h) fun π' H' _ d => ∀ v, DV G.K π' H' d v → Q v H') :
    PostS G (fun cls d _ H' => E cls d H') { nx := fun _ H' => Q .non H', rt := Q } π H (m (startE n ds) h) := by
  unfold callM at q
  by_cases hl : ds.length = p
  · rw [if_pos hl] at q
    generalize m (startE n ds) h = z at q ⊢
    cases z with
    | next env h => exact fun π2 σ2 H2 s2 x => q π2 H2 s2 x.good _ rfl
    | ret d h => exact fun π2 H2 v s2 x e => q π2 H2 s2 x _ e
    | brk env h => exact (show False from q).elim
    | cont env h => exact (show False from q).elim
    | exn y env h => exact fun π2 σ2 H2 cls d s2 x e => q π2 H2 cls d s2 x.good e
    | bad => exact q
  · rw [if_neg hl] at q
    exact q.elim
/-- THE RULE for a def -/
theorem def_m {x qual : Str} {params : Arguments} {body : List Stmt} {scope : Scope} {f : Addr} {fd : FuncData} {N ps : List Str} {k : Nat} {m : Ev → Hm → SR} (F : FunD K x qual params body scope [] [] f fd) (S : FnScope N ps scope)
    (hb : ∀ (kV doc pm : Value) (an : Option Addr) (cdv ct : Value) (us : List Value), us.length = ps.length → bindArgs (PySem.W.fnOf x qual params body scope .none kV doc pm an cdv ct) ⟨us, []⟩ = pure (ps.zip us))
    (hbody : ∀ (cdv : Value) (A : Around) (outer : List Env) (s : Shared) (H : Hp) (E : XK), Room k (cxOf (L2.CX P w) P w K mg base N qual scope f cdv A outer s H E).A → Takes (cxOf (L2.CX P w) P w K mg base N qual scope f cdv A outer s H E) (fun cls d _ H' => E cls d H') →
      PassesOwn (model P w) (cxOf (L2.CX P w) P w K mg base N qual scope f cdv A outer s H E).A (cxOf (L2.CX P w) P w K mg base N qual scope f cdv A outer s H E).env (cxOf (L2.CX P w) P w K mg base N qual scope f cdv A outer s H E).xe →
      Ssm (cxOf (L2.CX P w) P w K mg base N qual scope f cdv A outer s H E) T (fun cls d _ H' => E cls d H') body m) :
    FunM P w K mg base T (k + 1) f ps.length (callM N.length ps.length m) := by
  refine ⟨⟨fd, ps, rfl, ?_, F.bindsN hb⟩, F.kp⟩
  refine F.ok S (fun vs H Q E ⟨π, h, ds, g, q, hl, _⟩ => by rw [q.len]; exact hl) fun cdv A outer s H vs Q E hr ⟨π, h, ds, g, q, hl, p⟩ => ⟨_, hbody cdv A outer s H E hr (takes_of rfl rfl rfl rfl) (passes_of rfl), ?_⟩
  exact ⟨π, startE N.length ds, h, ⟨g, envOk_start q⟩, postS_fn p⟩
end

theorem takesF {X : Cx} : Takes X WF := takes0
section
variable {X : Cx} {T : List (Addr × Str)} {W : WX} {k j p : Nat} {f C : Addr} {fn : Fc} {x : Str} {pp pos apos : Pos} {e o : Expr} {es : List Expr} {mr : Ev → Hm → R (List D)} {mo : Ev → Hm → R D} {cn m : Str}
/-- a promise met -/
theorem sp_of {G : Gx} {π : List Addr} {σ : L2.St} {h : Hm} {H : Hp} {ds : List D} {vs : List V} {Q : VK} {n : Nat} (g : Good G π h H) (q : DVs G.K π H ds vs) (hl : ds.length = n) (p : Post G W π σ H (fn ds h) fun π' H' _ d => ∀ v, DV G.K π' H' d v → Q v H') : spM G fn n vs H Q (WE W σ) := by
  refine ⟨π, h, ds, g, q, hl, ?_⟩
  generalize fn ds h = z at p ⊢
  cases z with
  | ok a h' => exact p
  | exn x h' => exact p
  | bad => exact p
def mCallF (p : Nat) (fn : Fc) (mr : Ev → Hm → R (List D)) : Ev → Hm → R D := fun env h => (mr env h).bind fun ds h1 => if ds.length = p then fn ds h1 else .bad
theorem em_call (F : FunM X.prog X.w X.K X.mg X.base T j f p fn) (hr : Room k X.A) (hk : j ≤ k) (hg : Gl X x) (hm : X.mg x = some (.ref f)) (tk : Takes X W) (ha : Am X T W (e :: es) mr) (hdb : (x == ("__debug__" : Str)) = false := by rfl)
    (he : starEach (e :: es) X.env = (false, eval e X.env) :: starEach es X.env := by rfl) (hpl : (backTo pos (starEach es X.env)).any (·.1) = false := by rfl) : Em X T W (.Call (.Name x pp) (e :: es) [] pos) (mCallF p fn mr) := by
  obtain ⟨fd, ps, ep, F1, F2⟩ := F.ex
  refine PE.of (pe_callSD (dvs := []) (ds := []) (E := WE W) F1 (hr.mono hk) hg hm F.kp F2 .nil (fun σ => passAt tk σ) ha hdb he hpl) fun σ H Q ⟨π, env, h, s, q⟩ => ?_
  refine ⟨π, env, h, s, q.bind.mono fun π1 H1 h1 ds s1 g1 p1 vs dv => ?_⟩
  show spM _ fn p (vs ++ []) H1 Q (WE W σ)
  rw [List.append_nil]
  by_cases hl : ds.length = p
  · rw [if_pos hl] at p1
    exact sp_of g1 dv hl p1
  · rw [if_neg hl] at p1
    exact p1.elim
theorem em_call0 (F : FunM X.prog X.w X.K X.mg X.base T j f p fn) (hr : Room k X.A) (hk : j ≤ k) (hg : Gl X x) (hm : X.mg x = some (.ref f)) (tk : Takes X W) (hdb : (x == ("__debug__" : Str)) = false := by rfl) : Em X T W (.Call (.Name x pp) [] [] pos) (mCallF p fn mNil) := by
  obtain ⟨fd, ps, ep, F1, F2⟩ := F.ex
  refine ⟨fun pins s σ H Q I ⟨π, env, h, s0, q⟩ => ?_⟩
  refine wpAny_Call_Name_kw (ld_glob I hg hm ?_ hdb)
  refine PySem.W.callWith_K0 I.kIn F.kp (run_fnSD (us := []) (vs := []) (dvs := []) (ds := []) (E := WE W) F1 (hr.mono hk) F2 .nil (passAt tk σ) I .nil ?_)
  have q' : Post (gx X T) W π σ H (if ([] : List D).length = p then fn [] h else .bad) (fun π' H' _ d => ∀ v, DV (gx X T).K π' H' d v → Q v H') := q
  by_cases hl : ([] : List D).length = p
  · rw [if_pos hl] at q'
    exact sp_of (ds := []) s0.good rfl hl q'
  · rw [if_neg hl] at q'
    exact q'.elim
/-- o.m(..), o an instance of the class named cn -/
def mMethF (cn m : Str) (p : Nat) (fn : Fc) (mo : Ev → Hm → R D) (mr : Ev → Hm → R (List D)) : Ev → Hm → R D := fun env h => (mo env h).bind fun x h1 => match x with
  | .ref i => match h1[i]? with
    | some (.ins c fs) => if c = cn ∧ fs.lookup m = none then (mr env h1).bind fun ds h2 => if ds.length + 1 = p then fn (.ref i :: ds) h2 else .bad else .bad
    | _ => .bad
  | _ => .bad
theorem DPs.lookupN {K : PySem.W.Frag} {π : List Addr} {H : Hp} {f : Str} : ∀ {fs : List (Str × D)} {xs : List (Str × V)}, DPs K π H fs xs → fs.lookup f = none → xs.lookup f = none
  | [], _, h, _ => by rw [show _ = [] from h] <;> rfl
  | p :: ps, _, ⟨v, vs, e, h, q⟩, l => by
    obtain ⟨k, y⟩ := p
    rw [e]
    by_cases hk : f = k
    · have hb : (f == k) = true := beq_iff_eq.mpr hk
      simp only [List.lookup, hb] at l
      cases l
    · have hb : (f == k) = false := beq_eq_false_iff_ne.mpr hk
      simp only [List.lookup, hb] at l ⊢
      exact DPs.lookupN q l
theorem em_meth {pl : Sem Bool} (c : Cls X.K C) (hm : Meth X.K C m f) (F : FunM X.prog X.w X.K X.mg X.base T j f p fn) (hr : Room k X.A) (hk : j ≤ k) (hC : X.mg cn = some (.ref C)) (tk : Takes X W) (ho : Em X T W o mo) (ha : Am X T W (e :: es) mr)
    (hst : starEach (e :: es) X.env = (false, eval e X.env) :: starEach es X.env := by rfl) (hpl : (backTo pos (starEach es X.env)).any (·.1) = false := by rfl)
    (ht : eval (.Call (.Attribute o m apos) (e :: es) [] pos) X.env = (do
      let ov ← eval o X.env
      standAt apos.atName
      let (f, first) ← holding [ov] (getMethod ov m pl)
      callWith pos f first (backTo pos (starEach (e :: es) X.env)) (backToKw pos (keywordEach [] X.env))) := by rfl) :
    Em X T W (.Call (.Attribute o m apos) (e :: es) [] pos) (mMethF cn m p fn mo mr) := by
  obtain ⟨fd, ps, ep, F1, F2⟩ := F.ex
  refine ⟨fun pins s σ H Q I ⟨π, env, h, s0, q⟩ => ?_⟩
  refine PySem.W.methodCall_KW (pl := pl) (thn (ho.run pins s σ H (fun x H1 => ∃ a dx fs, x = V.ref a ∧ H1 a = some (.ins C dx fs) ∧ fs.lookup m = none ∧ tL (gx X T) W mr σ H1 fun vs H2 => spM (gx X T) fn p (x :: vs) H2 Q (WE W σ)) I ⟨π, env, h, s0, q.bind.mono fun π1 H1 h1 d s1 g1 p1 x dx => ?_⟩) fun u s1 ⟨x, H1, I1, rx, a, dx, fs, ex, ea, l, q⟩ => ?_) ht
  · split at p1
    · rename_i i
      obtain ⟨a, qa, rfl⟩ := dx
      split at p1
      · rename_i c' fs e0
        split at p1
        · rename_i hc
          obtain ⟨rfl, hlk⟩ := hc
          obtain ⟨C', dx, xs, m1, ha', q1⟩ := g1.obj e0 qa
          rw [show (gx X T).mg c' = some (.ref C) from hC] at m1
          cases m1
          refine ⟨a, dx, xs, rfl, ha', q1.lookupN hlk, π1, env, h1, s0.step s1 g1, p1.bind.mono fun π2 H2 h2 ds s2 g2 p2 vs dv => ?_⟩
          split at p2
          · rename_i hl
            exact sp_of (ds := .ref i :: ds) g2 ⟨_, _, rfl, ⟨a, s2.get qa, rfl⟩, dv⟩ hl p2
          · exact p2.elim
        · exact p1.elim
      · exact p1.elim
    · exact p1.elim
  · subst ex
    obtain rfl : u = Value.ref a := rx
    refine getmeth_ok I1 ea c hm l ?_
    refine PySem.W.callWith_K (first := [.ref a]) (h₀ := X.base) I.ok.mod.kin hm.kp (thn (ha.run pos pins s1 σ H1 _ I1 q) fun us s2 ⟨vs, H2, I2, r, q2⟩ => ⟨I2.kIn, ?_⟩) hst hpl
    exact run_fnSD (us := .ref a :: us) (vs := .ref a :: vs) (dvs := []) (ds := []) (E := WE W) F1 (hr.mono hk) F2 .nil (passAt tk σ) I2 (.cons rfl r) (by rw [List.append_nil]; exact q2)
theorem em_meth0 {pl : Sem Bool} (c : Cls X.K C) (hm : Meth X.K C m f) (F : FunM X.prog X.w X.K X.mg X.base T j f p fn) (hr : Room k X.A) (hk : j ≤ k) (hC : X.mg cn = some (.ref C)) (tk : Takes X W) (ho : Em X T W o mo)
    (ht : eval (.Call (.Attribute o m apos) [] [] pos) X.env = (do
      let ov ← eval o X.env
      standAt apos.atName
      let (f, first) ← holding [ov] (getMethod ov m pl)
      callWith pos f first (backTo pos (starEach [] X.env)) (backToKw pos (keywordEach [] X.env))) := by rfl) :
    Em X T W (.Call (.Attribute o m apos) [] [] pos) (mMethF cn m p fn mo mNil) := by
  obtain ⟨fd, ps, ep, F1, F2⟩ := F.ex
  refine ⟨fun pins s σ H Q I ⟨π, env, h, s0, q⟩ => ?_⟩
  refine PySem.W.methodCall_KW (pl := pl) (thn (ho.run pins s σ H (fun x H1 => ∃ a dx fs, x = V.ref a ∧ H1 a = some (.ins C dx fs) ∧ fs.lookup m = none ∧ spM (gx X T) fn p [x] H1 Q (WE W σ)) I ⟨π, env, h, s0, q.bind.mono fun π1 H1 h1 d s1 g1 p1 x dx => ?_⟩) fun u s1 ⟨x, H1, I1, rx, a, dx, fs, ex, ea, l, q⟩ => ?_) ht
  · split at p1
    · rename_i i
      obtain ⟨a, qa, rfl⟩ := dx
      split at p1
      · rename_i c' fs e0
        split at p1
        · rename_i hc
          obtain ⟨rfl, hlk⟩ := hc
          obtain ⟨C', dx, xs, m1, ha', q1⟩ := g1.obj e0 qa
          rw [show (gx X T).mg c' = some (.ref C) from hC] at m1
          cases m1
          refine ⟨a, dx, xs, rfl, ha', q1.lookupN hlk, ?_⟩
          have p2 : Post (gx X T) W π1 σ H1 (if ([] : List D).length + 1 = p then fn [.ref i] h1 else .bad) (fun π' H' _ d => ∀ v, DV (gx X T).K π' H' d v → Q v H') := p1
          split at p2
          · rename_i hl
            exact sp_of (ds := [.ref i]) g1 ⟨_, _, rfl, ⟨a, qa, rfl⟩, rfl⟩ hl p2
          · exact p2.elim
        · exact p1.elim
      · exact p1.elim
    · exact p1.elim
  · subst ex
    obtain rfl : u = Value.ref a := rx
    refine getmeth_ok I1 ea c hm l ?_
    exact PySem.W.callWith_K0 (first := [.ref a]) I1.kIn hm.kp (run_fnSD (us := [.ref a]) (vs := [.ref a]) (dvs := []) (ds := []) (E := WE W) F1 (hr.mono hk) F2 .nil (passAt tk σ) I1 (.cons rfl .nil) (by rw [List.append_nil]; exact q))
/-- C(..) of an own class with __init__ -/
def mMake (cn : Str) (p : Nat) (fn : Fc) (mr : Ev → Hm → R (List D)) : Ev → Hm → R D := fun env h => (mr env h).bind fun ds h1 => if ds.length + 1 = p then (match fn (.ref h1.length :: ds) (h1 ++ [.ins cn []]) with
  | .ok .non h2 => .ok (.ref h1.length) h2
  | .exn x h2 => .exn x h2
  | _ => .bad) else .bad
theorem run_makeS {pins : List (Addr × Obj)} {σ : L2.St} {H : Hp} {s : Shared} {Q : VK} {us : List Value} {vs : List V} {fd : FuncData} {ps : List Str} {sp : Sp} {E : XK} (M : Mk X.K C f) (F : FnOk X.prog X.w X.K X.mg X.base (L2.CX X.prog X.w) k f fd ps sp) (hr : Room (k + 1) X.A) (hb : Binds X.K fd ps [])
    (hx : PassesAt (L2.CX X.prog X.w) X σ E) (I : Inv X pins σ H s) (r : Vals vs us)
    (h : ∀ x dx, H x = none → H dx = none → dx ≠ x → sp (.ref x :: vs) (upd (upd H dx (.own x)) x (.ins C dx [])) (fun v H2 => v = .non ∧ Q (.ref x) H2) E) :
    wpAny (model X.prog X.w) X.A (call (.ref C) us) (EP X pins σ Q) X.xe s := by
  have hq := h (s.heap.objs.size + 1) s.heap.objs.size (I.hok.fresh (Nat.le_succ _)) (I.hok.fresh (Nat.le_refl _)) (Nat.ne_of_lt (Nat.lt_succ_self _))
  have I2 := Inv.made (C := C) I
  have r2 : Vals (V.ref (s.heap.objs.size + 1) :: vs) (Value.ref (s.heap.objs.size + 1) :: us) := .cons rfl r
  have hl : (Value.ref (s.heap.objs.size + 1) :: us ++ []).length = ps.length := by
    have e := r2.length
    rw [F.len _ _ _ _ hq] at e
    rw [List.append_nil]
    exact e.symm
  have hbb := hb _ (Value.ref (s.heap.objs.size + 1) :: us) I2.kIn hl
  rw [List.append_nil] at hbb
  refine wpAny_call (make_map (f := f) I.kIn M.makes M.init (beq_iff_eq.mp M.fn) (codeAny_mono (F.run _ X.stack _ _ ⟨Value.ref (s.heap.objs.size + 1) :: us, []⟩ (Value.ref (s.heap.objs.size + 1) :: us) _ _ E (hr.make C us [])
    (I2.env0.make C us []) hbb r2 hq) fun r s' hq' => ?_))
  cases r with
  | error e => exact hx pins _ _ e s' I2 hq'
  | ok fl =>
    cases fl with
    | ret u =>
      obtain ⟨v, H', I3, rv, ev, q3⟩ := I2.after hq'
      subst ev
      exact ⟨rv, ⟨V.ref (s.heap.objs.size + 1), H', I3, rfl, q3⟩⟩
    | next => exact False.elim hq'
    | brk => exact False.elim hq'
    | cont => exact False.elim hq'
theorem made_of {π : List Addr} {σ : L2.St} {h : Hm} {H : Hp} {ds : List D} {vs : List V} {Q : VK} (hC : X.mg cn = some (.ref C)) (g : Good (gx X T) π h H) (q : DVs X.K π H ds vs) (hl : ds.length + 1 = p)
    (pp : Post (gx X T) W π σ H (match fn (.ref h.length :: ds) (h ++ [.ins cn []]) with
      | .ok .non h2 => .ok (.ref h.length) h2
      | .exn x h2 => .exn x h2
      | _ => .bad) fun π' H' _ d => ∀ v, DV (gx X T).K π' H' d v → Q v H') : ∀ x dx, H x = none → H dx = none → dx ≠ x → spM (gx X T) fn p (.ref x :: vs) (upd (upd H dx (.own x)) x (.ins C dx [])) (fun v H2 => v = .non ∧ Q (.ref x) H2) (WE W σ) := by
  intro x dx nx nd ne
  have s1 := Step.other (o := .own x) g nd
  have g1 := g.other (o := .own x) nd
  have n1 : upd H dx (.own x) x = none := by rw [upd_ne (Ne.symm ne)]; exact nx
  have s2 := Step.new (u := .ins C dx []) g1 n1
  have g2 := g1.new (u := .ins C dx []) (o := .ins cn []) n1 ⟨C, dx, [], hC, upd_same, rfl⟩
  have s12 := s1.trans s2
  have ix : (π ++ [x])[h.length]? = some x := by
    rw [List.getElem?_append_right (by rw [g.len]; exact Nat.le_refl _), g.len, Nat.sub_self] <;> rfl
  refine ⟨π ++ [x], h ++ [.ins cn []], .ref h.length :: ds, g2, ⟨_, _, rfl, ⟨x, ix, rfl⟩, q.step s12 _ _⟩, hl, ?_⟩
  generalize fn (.ref h.length :: ds) (h ++ [.ins cn []]) = z at pp ⊢
  cases z with
  | ok a h' =>
    cases a <;> first
      | exact pp.elim
      | (intro π' H' s3 g3 v dv
         exact ⟨dv, pp π' H' (s12.trans s3) g3 _ ⟨x, s3.get ix, rfl⟩⟩)
  | exn y h' => exact fun π' H' cls d s3 g3 e => pp π' H' cls d (s12.trans s3) g3 e
  | bad => exact pp
theorem em_make (M : Mk X.K C f) (F : FunM X.prog X.w X.K X.mg X.base T j f p fn) (hr : Room k X.A) (hk : j + 1 ≤ k) (hg : Gl X cn) (hC : X.mg cn = some (.ref C)) (tk : Takes X W) (ha : Am X T W (e :: es) mr) (hdb : (cn == ("__debug__" : Str)) = false := by rfl)
    (he : starEach (e :: es) X.env = (false, eval e X.env) :: starEach es X.env := by rfl) (hpl : (backTo pos (starEach es X.env)).any (·.1) = false := by rfl) : Em X T W (.Call (.Name cn pp) (e :: es) [] pos) (mMake cn p fn mr) := by
  obtain ⟨fd, ps, ep, F1, F2⟩ := F.ex
  refine ⟨fun pins s σ H Q I ⟨π, env, h, s0, q⟩ => ?_⟩
  refine wpAny_Call_Name_kw (ld_glob I hg hC ?_ hdb)
  refine PySem.W.callWith_K (h₀ := X.base) I.ok.mod.kin M.kp (thn (ha.run pos pins s σ H (fun vs H1 => ∀ x dx, H1 x = none → H1 dx = none → dx ≠ x → spM (gx X T) fn p (.ref x :: vs) (upd (upd H1 dx (.own x)) x (.ins C dx [])) (fun v H2 => v = .non ∧ Q (.ref x) H2) (WE W σ)) I
    ⟨π, env, h, s0, q.bind.mono fun π1 H1 h1 ds s1 g1 p1 vs dv => ?_⟩) fun us s1 ⟨vs, H1, I1, r, q⟩ => ⟨I1.kIn, ?_⟩) he hpl
  · split at p1
    · rename_i hl
      exact made_of hC g1 dv hl p1
    · exact p1.elim
  · exact run_makeS M F1 (hr.mono hk) F2 (passAt tk σ) I1 r q
theorem em_make0 (M : Mk X.K C f) (F : FunM X.prog X.w X.K X.mg X.base T j f p fn) (hr : Room k X.A) (hk : j + 1 ≤ k) (hg : Gl X cn) (hC : X.mg cn = some (.ref C)) (tk : Takes X W) (hdb : (cn == ("__debug__" : Str)) = false := by rfl) : Em X T W (.Call (.Name cn pp) [] [] pos) (mMake cn p fn mNil) := by
  obtain ⟨fd, ps, ep, F1, F2⟩ := F.ex
  refine ⟨fun pins s σ H Q I ⟨π, env, h, s0, q⟩ => ?_⟩
  refine wpAny_Call_Name_kw (ld_glob I hg hC ?_ hdb)
  refine PySem.W.callWith_K0 I.kIn M.kp (run_makeS (us := []) (vs := []) M F1 (hr.mono hk) F2 (passAt tk σ) I .nil ?_)
  have q' : Post (gx X T) W π σ H (if ([] : List D).length + 1 = p then (match fn (.ref h.length :: []) (h ++ [.ins cn []]) with
    | .ok .non h2 => .ok (.ref h.length) h2
    | .exn x h2 => .exn x h2
    | _ => .bad) else .bad) (fun π' H' _ d => ∀ v, DV (gx X T).K π' H' d v → Q v H') := q
  by_cases hl : ([] : List D).length + 1 = p
  · rw [if_pos hl] at q'
    exact made_of (ds := []) hC s0.good rfl hl q'
  · rw [if_neg hl] at q'
    exact q'.elim
/-- raise C('..') of an own class without own __init__ -/
def sRaise (cn : Str) : Ev → Hm → SR := fun env h => .exn ⟨cn, []⟩ env h
theorem sm_raise {bmB : List Value} {B newId initId : String} {msg : Str} {jj : Nat} {p2 : Pos} (hc : X.calm = true) (tk : Takes X W) (F : ExcBaseFacts B newId initId bmB) (q : PySem.W.excIn X.K C bmB newId = true) (gC : X.mg cn = some (.ref C)) (kC : PySem.W.keepIn X.K (.ref C) = true) (r : Raises X (.ref C)) (hg : Gl X cn)
    (hdb : (cn == ("__debug__" : Str)) = false := by rfl) : Sm X T W (.Raise (some (.Call (.Name cn pp) [.Constant (.str msg) jj p2] [] pos)) none apos) (sRaise cn) :=
  PS.of (ps_raise hc tk (pmk_own F q gC kC r hg hdb)) fun D σ H ⟨π, env, h, s, p⟩ => p π σ H _ _ Step.refl s ⟨C, gC, rfl, rfl⟩
end
end MM

namespace MM
open PySem L2 PyProof.Rows

def rSumT (K : PySem.W.Frag) : List V → Hp → VK → Prop := fun vs H Q => ∃ (a : Addr) (ns : List Int), vs = [V.ref a] ∧ SqT K H a (ns.map V.int) ∧ Q (.int ns.sum) H
theorem sum_tup_raw {prog : Program} {w : World} {A : Around} {E : Value → Shared → Prop} {s : Shared} {l : Addr} {its : List Value} {ns : List Int} {Q : Value → Shared → Prop} (hh : A.handled = none) (hl : IsTup s.heap l its.toArray) (hi : IntsAre its ns)
    (h : ∀ h' tk t', (∀ b o, s.heap.get? b = some o → h'.get? b = some o) → Q (.int ns.sum t') { s with heap := h', toks := tk }) : wpAny (model prog w) A (call (.builtin "sum") [.ref l]) Q E s := by
  obtain ⟨xs, e⟩ := hi.allInts.items
  have hn : numsOf (intItems xs).toList = ns := by rw [← e]; exact hi.numsOf
  rw [nums_intItems] at hn
  rw [e] at hl
  have hlt : l < s.heap.objs.size := by obtain ⟨_, e, _⟩ := hl; exact Heap.lt_size e
  refine call_sum_walkG (wpAny_pyIter_tuple (show s.heap.IsTuple l (intItems xs) from hl) ?_)
  refine ⟨s.heap.objs.size, _, _, _, _, _, numAt xs, rfl, Walks.tuple (A := A.in1) hh s.heap.objs.size l (Nat.ne_of_lt hlt) (intItems xs), ⟨⟨_, Heap.get?_push_size _ rfl, rfl, rfl⟩, ?_⟩, fun b hb => ?_, (fun _ _ => intItems_at), fun h' tk t' hk => ?_⟩
  · exact (show s.heap.IsTuple l (intItems xs) from hl).at fun o e => Heap.get?_push_of_some _ e
  · show b < (s.heap.push _).objs.size
    rw [Heap.size_push]
    rcases List.mem_cons.mp hb with rfl | hb
    · exact Nat.lt_succ_self _
    · rcases List.mem_cons.mp hb with rfl | hb
      · exact Nat.lt_succ_of_lt hlt
      · cases hb
  · have z := h h' tk t' (fun b o e => hk b o (by
      intro m
      rw [List.mem_singleton] at m
      subst m
      exact absurd (Heap.lt_size e) (Nat.lt_irrefl _)) (Heap.get?_push_of_some _ e))
    rw [show ns.sum = preSum (numAt xs) (intItems xs).size from by rw [preSum_eq, List.take_of_length_le (by simp [intItems]), hn]] at z
    exact z
theorem cr_sumT {X : Cx} (hc : X.calm = true) : CallR X (.builtin "sum") (rSumT X.K) := by
  intro pins s σ H vs us Q I r h
  obtain ⟨a, ns, rfl, hs, q⟩ := h
  obtain ⟨its, rv, hl, _⟩ := I.tuple hs
  rw [Vals.ref1 r]
  exact sum_tup_raw (I.ok.hd hc) hl rv.ints fun h' tk t' hk => ⟨.int _, H, I.kept hk, ⟨_, rfl⟩, q⟩
def fSum2 : Fc := fun ds h => match ds with
  | [.tup xs] => match intsD xs with
    | some ns => .ok (.int ns.sum) h
    | none => .bad
  | ds => fSum ds h
theorem oc_sum2 {G : Gx} : OpC G (fun vs H Q => rSum G.K vs H Q ∨ rSumT G.K vs H Q) fSum2 := by
  intro W π σ h H ds xs Q g dx p
  unfold fSum2 at p
  split at p
  · obtain ⟨v, vs, rfl, ⟨a, ys, rfl, t, q⟩, e⟩ := dx
    obtain rfl := (show vs = [] from e)
    split at p
    · rename_i ns e0
      rw [intsD_eq e0] at q
      have e3 := q.ints
      subst e3
      exact .inr ⟨a, ns, rfl, t.sq, post_val g p rfl⟩
    · exact p.elim
  · exact .inl (oc_sum W π σ h H ds xs Q g dx p)
theorem cr_sum2 {X : Cx} (hc : X.calm = true) : CallR X (.builtin "sum") (fun vs H Q => rSum X.K vs H Q ∨ rSumT X.K vs H Q) := CallR.or (cr_sum hc) (cr_sumT hc)
/-- {} -/
def mDic0 : Ev → Hm → R D := fun _ h => .ok (.ref h.length) (h ++ [.dic []])
theorem em_dic0 {X : Cx} {T : List (Addr × Str)} {W : WX} {pos : Pos} : Em X T W (.Dict [] [] pos) mDic0 := PE.of pe_dnewK fun σ H Q ⟨π, env, h, s, p⟩ a n => by
  have st := Step.new (a := a) (u := .dK []) s.good n
  refine p (π ++ [a]) _ st (s.good.new (o := .dic []) n ⟨[], upd_same, rfl⟩) _ ⟨a, ?_, rfl⟩
  rw [List.getElem?_append_right (by rw [s.good.len]; exact Nat.le_refl _), s.good.len, Nat.sub_self] <;> rfl
end MM

namespace MM
open PySem L2

theorem pi_or {X : Cx} {tg e : Expr} {t t' : TI} (p : PI X tg e t) (q : PI X tg e t') : PI X tg e (fun σ H R => t σ H R ∨ t' σ H R) := ⟨fun pins s σ H Q I h => h.elim (p.run pins s σ H Q I) (q.run pins s σ H Q I)⟩
theorem pg_or {X : Cx} {e : Expr} {t t' : TG} (p : PG X e t) (q : PG X e t') : PG X e (fun v σ H R => t v σ H R ∨ t' v σ H R) := ⟨fun pins s σ H v u Q I r h => h.elim (p.run pins s σ H v u Q I r) (q.run pins s σ H v u Q I r)⟩
/-- a list or a tuple is walked -/
def mItA (m : Ev → Hm → R D) : Ev → Hm → R Itr := fun env h => (m env h).bind fun x h1 => match x with
  | .tup ds => .ok (ds, []) h1
  | x => oR (itL h1 x) h1
theorem im_any {X : Cx} {T : List (Addr × Str)} {W : WX} {tg e : Expr} {me : Ev → Hm → R D} (he : Em X T W e me) : Im X T W tg e (mItA me) := PI.of (pi_or (im_list he) (im_tup (tg := tg) he)) fun σ H Q ⟨π, env, h, s, p⟩ => by
  unfold mItA at p
  cases q : me env h with
  | ok d h1 =>
    rw [q] at p
    by_cases ht : ∃ ds, d = .tup ds
    · obtain ⟨ds, rfl⟩ := ht
      refine .inr ⟨π, env, h, s, ?_⟩
      unfold mItT
      rw [q]
      exact p
    · refine .inl ⟨π, env, h, s, ?_⟩
      unfold mItL
      rw [q]
      cases d with
      | tup ds => exact (ht ⟨ds, rfl⟩).elim
      | _ => exact p
  | exn x h1 =>
    refine .inl ⟨π, env, h, s, ?_⟩
    unfold mItL
    rw [q] at p ⊢
    exact p
  | bad => rw [q] at p; exact p.elim
/-- a tuple or a list is unpacked -/
def gU (n : Nat) (r : Gts) : Gt := fun d env h => match d with
  | .tup ds => if ds.length = n then r ds env h else .bad
  | .ref i => match h[i]? with
    | some (.lst ds) => if ds.length = n then r ds env h else .bad
    | _ => .bad
  | _ => .bad
section
variable {X : Cx} {T : List (Addr × Str)} {W : WX} {vs : List Nat} {e : Expr} {es : List Expr} {g : Gt} {r : Gts} {pos : Pos}
theorem gm_unp {k n : Nat} (hc : X.calm = true) (hr : Gsm X T W es r) (hn : (assignEach es X.env).length = n := by rfl) (hst : (assignEach es X.env).findIdx? (·.1) = none := by rfl) : Gm X T W (.Tuple es k pos) (gU n r) :=
  PG.of (pg_or (gm_tup hc hr hn hst) (gm_lst hc hr hn hst)) fun v σ H Q ⟨π, env, h, d, s, dv, p⟩ => by
    cases d with
    | tup ds => exact .inl ⟨π, env, h, _, s, dv, p⟩
    | ref i => exact .inr ⟨π, env, h, _, s, dv, p⟩
    | _ => exact p.elim
theorem gw_unp {k n : Nat} (hc : X.calm = true) (hr : Gsw X T W vs es r) (hn : (assignEach es X.env).length = n := by rfl) (hst : (assignEach es X.env).findIdx? (·.1) = none := by rfl) : Gw X T W vs (.Tuple es k pos) (gU n r) :=
  PG.of (pg_or (gw_tup hc hr hn hst) (gw_lst hc hr hn hst)) fun v σ H Q ⟨π, env, h, d, s, dv, p⟩ => by
    cases d with
    | tup ds => exact .inl ⟨π, env, h, _, s, dv, p⟩
    | ref i => exact .inr ⟨π, env, h, _, s, dv, p⟩
    | _ => exact p.elim
end

instance {i j : Int} : Decidable (CDiv i j) := inferInstanceAs (Decidable (0 < j ∧ j < 1073741824))
def fIDiv : F2 := fI fun i j => if CDiv i j then some (.int (i / j)) else none
def fIMod : F2 := fI fun i j => if 0 < j then some (.int (i % j)) else none
def fIAdd : F2 := fI fun i j => some (.int (i + j))
section
variable {X : Cx} {T : List (Addr × Str)} {W : WX} {e : Expr} {me : Ev → Hm → R D} {pos pos' : Pos}
theorem io_add : OpR X (inplaceOp .Add) (rI0 fun i j => .int (i + j)) ∧ Op2 (gx X T) (rI0 fun i j => .int (i + j)) fIAdd := ⟨iop_add, o2_I0⟩
theorem io_sub : OpR X (inplaceOp .Sub) (rI0 fun i j => .int (i - j)) ∧ Op2 (gx X T) (rI0 fun i j => .int (i - j)) fSub := ⟨iop_sub, o2_I0⟩
theorem io_mul : OpR X (inplaceOp .Mult) (rI CMul fun i j => .int (i * j)) ∧ Op2 (gx X T) (rI CMul fun i j => .int (i * j)) fMulI := ⟨iop_mul, o2_IC⟩
theorem io_div : OpR X (inplaceOp .FloorDiv) (rI CDiv fun i j => .int (i / j)) ∧ Op2 (gx X T) (rI CDiv fun i j => .int (i / j)) fIDiv := ⟨iop_fdiv, o2_IC⟩
theorem io_mod : OpR X (inplaceOp .Mod) (rI (fun _ j => 0 < j) fun i j => .int (i % j)) ∧ Op2 (gx X T) (rI (fun _ j => 0 < j) fun i j => .int (i % j)) fIMod := ⟨iop_mod, o2_IC⟩
end
/-- lengths of argument lists -/
def LenIs (m : Ev → Hm → R (List D)) (n : Nat) : Prop := ∀ env h ds h', m env h = .ok ds h' → ds.length = n
theorem len_nil : LenIs mNil 0 := fun env h ds h' e => by cases e; rfl
theorem len_cons {a : Ev → Hm → R D} {r : Ev → Hm → R (List D)} {n : Nat} (w : LenIs r n) : LenIs (mCons a r) (n + 1) := fun env h ds h' e => by
  unfold mCons at e
  cases q : a env h with
  | ok d h1 =>
    rw [q] at e
    cases q2 : r env h1 with
    | ok xs h2 =>
      have e' : (r env h1).bind (fun xs h2 => R.ok (d :: xs) h2) = .ok ds h' := e
      rw [q2] at e'
      cases e'
      rw [List.length_cons, w _ _ _ _ q2]
    | exn x h2 =>
      have e' : (r env h1).bind (fun xs h2 => R.ok (d :: xs) h2) = .ok ds h' := e
      rw [q2] at e'
      cases e'
    | bad =>
      have e' : (r env h1).bind (fun xs h2 => R.ok (d :: xs) h2) = .ok ds h' := e
      rw [q2] at e'
      cases e'
  | exn x h1 => rw [q] at e; cases e
  | bad => rw [q] at e; cases e
section
variable {X : Cx} {T : List (Addr × Str)} {W : WX} {es : List Expr} {mr : Ev → Hm → R (List D)} {pos : Pos}
theorem em_tup {x1} (ha : Am X T W es mr) (w : LenIs mr es.length) (hl : es.length ≤ 1000 := by decide) : Em X T W (.Tuple es x1 pos) (mTup mr) := am_tup ha hl w
theorem em_lst (ha : Am X T W es mr) (w : LenIs mr es.length) (hl : es.length ≤ 1000 := by decide) : Em X T W (.List es pos) (mLst mr) := am_lst ha hl w
end
theorem hu65 {k : Nat} {A : Around} (r : Room k A) : A.units + 65 < cLine := by have := r.un; omega
/-- a tuple of constants of the written part -/
theorem sqT_none {K : PySem.W.Frag} {a : Addr} {xs : List V} (h : SqT K (fun _ => none) a xs) : KTup K a xs := by
  rcases h with h | h
  · rcases h with h | ⟨_, h⟩ <;> cases h
  · exact h
/-- flat data -/
def flV : V → Option D
  | .non => some .non
  | .bl b => some (.bl b)
  | .int i => some (.int i)
  | .str x => some (.str x)
  | _ => none
theorem flV_ok {K : PySem.W.Frag} {π : List Addr} {H : Hp} {v : V} {d : D} (e : flV v = some d) : DV K π H d v := by
  cases v <;> first
    | (cases e; rfl)
    | cases e
def flVs : List V → Option (List D)
  | [] => some []
  | v :: vs => match flV v, flVs vs with
    | some d, some ds => some (d :: ds)
    | _, _ => none
theorem flVs_ok {K : PySem.W.Frag} {π : List Addr} {H : Hp} : ∀ {vs : List V} {ds : List D}, flVs vs = some ds → DVs K π H ds vs
  | [], ds, e => by cases e; rfl
  | v :: vs, ds, e => by
    unfold flVs at e
    cases q : flV v with
    | none => rw [q] at e; cases e
    | some d =>
      cases q2 : flVs vs with
      | none => rw [q, q2] at e; cases e
      | some es =>
        rw [q, q2] at e
        cases e
        exact ⟨v, vs, rfl, flV_ok q, flVs_ok q2⟩
theorem dv_tup {K : PySem.W.Frag} {π : List Addr} {H : Hp} {a : Addr} {xs : List V} {ds : List D} (h : SqT K (fun _ => none) a xs) (e : flVs xs = some ds) : DV K π H (.tup ds) (.ref a) := ⟨a, xs, rfl, .inr (sqT_none h), flVs_ok e⟩
section
variable {X : Cx} {T : List (Addr × Str)} {W : WX} {tg e : Expr} {mr : Ev → Hm → R (List D)} {me : Ev → Hm → R D} {p p' pos pos' : Pos}
theorem cl_eq (hu : X.A.units + 64 < cLine) : OpR X (compareOp .Eq) (rEqM X.K) ∧ Op2 (gx X T) (rEqM X.K) fEq := ⟨op_eq.or (op_eqD hu), o2_eq⟩
/-- reversed(range(j)) -/
def mRvR1 (m : Ev → Hm → R D) : Ev → Hm → R Itr := fun env h => (m env h).bind fun x h1 => match x with
  | .int j => if sm62 j = true then .ok (rngD (0 + (((j - 0).toNat : Nat) : Int) - 1) (-1) (j - 0).toNat, []) h1 else .bad
  | _ => .bad
theorem im_revR (hg : Gl X "reversed") (hm : X.mg "reversed" = none) (hg2 : Gl X "range") (hm2 : X.mg "range" = none) (he : Em X T W e me) (na : starEach [e] X.env = (false, eval e X.env) :: starEach [] X.env := by rfl) (hs : starEach [.Call (.Name "range" p) [e] [] pos] X.env = (false, eval (.Call (.Name "range" p) [e] [] pos) X.env) :: starEach [] X.env := by rfl) :
    Im X T W tg (.Call (.Name "reversed" p') [.Call (.Name "range" p) [e] [] pos] [] pos') (mRvR1 me) := PI.of (pi_revR hg hm (prg_1 hg2 hm2 he na) hs) fun σ H Q ⟨π, env, h, s, q⟩ => by
  refine ⟨π, env, h, s, q.bind.mono fun π1 H1 h1 d s1 g1 p1 x dx => ?_⟩
  split at p1
  · rename_i j
    obtain rfl := (show x = _ from dx)
    split at p1
    · rename_i hc
      obtain ⟨c1, c2⟩ := sm62_ok hc
      exact ⟨j, rfl, by decide, by decide, c1, c2, p1 π1 H1 Step.refl g1 _ walk_rgc⟩
    · exact p1.elim
  · exact p1.elim
end
end MM

namespace MM
open PySem L2

section
variable {P : Program} {w : World} {K : PySem.W.Frag} {mg : Str → Option Value} {base : Heap} {T : List (Addr × Str)}
theorem def_ok {x qual : Str} {params : Arguments} {body : List Stmt} {scope : Scope} {f : Addr} {fd : FuncData} {N ps : List Str} {k : Nat} {m : Ev → Hm → SR} (F : FunD K x qual params body scope [] [] f fd) (S : FnScope N ps scope)
    (hbody : ∀ (cdv : Value) (A : Around) (outer : List Env) (s : Shared) (H : Hp) (E : XK), Room k (cxOf (L2.CX P w) P w K mg base N qual scope f cdv A outer s H E).A → Takes (cxOf (L2.CX P w) P w K mg base N qual scope f cdv A outer s H E) (fun cls d _ H' => E cls d H') →
      PassesOwn (model P w) (cxOf (L2.CX P w) P w K mg base N qual scope f cdv A outer s H E).A (cxOf (L2.CX P w) P w K mg base N qual scope f cdv A outer s H E).env (cxOf (L2.CX P w) P w K mg base N qual scope f cdv A outer s H E).xe →
      Ssm (cxOf (L2.CX P w) P w K mg base N qual scope f cdv A outer s H E) T (fun cls d _ H' => E cls d H') body m) :
    FnOk P w K mg base (L2.CX P w) (k + 1) f fd ps (spM ⟨K, mg, T⟩ (callM N.length ps.length m) ps.length) := by
  refine F.ok S (fun vs H Q E ⟨π, h, ds, g, q, hl, _⟩ => by rw [q.len]; exact hl) fun cdv A outer s H vs Q E hr ⟨π, h, ds, g, q, hl, p⟩ => ⟨_, hbody cdv A outer s H E hr (takes_of rfl rfl rfl rfl) (passes_of rfl), ?_⟩
  exact ⟨π, startE N.length ds, h, ⟨g, envOk_start q⟩, postS_fn p⟩
end
/-- how the script comes -/
def Scr (ns : List Int) (d : D) (h : Hm) : Prop := (d = .rol (ns.map D.int) ∧ h = []) ∨ (d = .ref 0 ∧ h = [.lst (ns.map D.int)])
/-- what is to be shown of the law's run -/
def PlainLaw (f : Fc) (n : Nat) : Prop := ∀ (ns : List Int) (d : D) (h : Hm), ns.length ≤ n → Scr ns d h → ∃ h', f [d] h = .ok (.bl true) h'
theorem sp_law {G : Gx} {f : Fc} {n : Nat} (hT : G.T = []) (pl : PlainLaw f n) {ns : List Int} {a : Addr} {H : Hp} (hl : ns.length ≤ n) (hS : SqL G.K H a (ns.map V.int)) : spM G f 1 [.ref a] H (fun v _ => v = .bl true) fun _ _ _ => False := by
  have go : ∀ π d h, Good G π h H → DV G.K π H d (.ref a) → Scr ns d h → spM G f 1 [.ref a] H (fun v _ => v = .bl true) fun _ _ _ => False := fun π d h g dv sc => by
    obtain ⟨h', e⟩ := pl ns d h hl sc
    refine ⟨π, h, [d], g, ⟨_, _, rfl, dv, rfl⟩, rfl, ?_⟩
    rw [e]
    intro π' H' s g' v e'
    exact e'
  have g0 : Good G [] [] H := ⟨rfl, List.nodup_nil, fun i a o e => (by cases e), fun p hp => (by rw [hT] at hp; cases hp), fun p hp => (by rw [hT] at hp; cases hp)⟩
  have g1 : H a = some (.lst (ns.map V.int)) → Good G [a] [.lst (ns.map D.int)] H := fun e => by
    refine ⟨rfl, by simp, fun i b o e1 e2 => ?_, fun p hp => (by rw [hT] at hp; cases hp), fun p hp => (by rw [hT] at hp; cases hp)⟩
    cases i with
    | zero =>
      cases e1
      cases e2
      exact ⟨_, e, DVs.ofInts⟩
    | succ i => cases e1
  rcases hS with (h | ⟨o, h⟩) | h
  · exact go [a] (.ref 0) [.lst (ns.map D.int)] (g1 h) ⟨a, rfl, rfl⟩ (.inr ⟨rfl, rfl⟩)
  · exact go [] (.rol (ns.map D.int)) [] g0 ⟨a, _, rfl, .inl ⟨o, h, by simp⟩, DVs.ofInts⟩ (.inl ⟨rfl, rfl⟩)
  · exact go [] (.rol (ns.map D.int)) [] g0 ⟨a, _, rfl, .inr h, DVs.ofInts⟩ (.inl ⟨rfl, rfl⟩)
theorem lawAt {l : PySem.W.OpenLaw} {w : World} {K : PySem.W.Frag} {k n : Nat} {mg : Str → Option Value} {fa : Addr} {h : Heap} {f : Fc} {x qual : Str} {params : Arguments} {body : List Stmt} {scope : Scope} {fd : FuncData}
    (F : FunD K x qual params body scope [] [] fa fd) (hb : ∀ (kV doc pm : Value) (an : Option Addr) (cdv ct : Value) (us : List Value), us.length = (["script"] : List Str).length → bindArgs (PySem.W.fnOf x qual params body scope .none kV doc pm an cdv ct) ⟨us, []⟩ = pure ((["script"] : List Str).zip us))
    (pl : PlainLaw f n) (ok : ∀ base : Heap, K.In base → base.Ns mainGlobals mg → FnOk l.prog w K mg base (L2.CX l.prog w) k fa fd ["script"] (spM ⟨K, mg, []⟩ f 1)) : LamX.LawAtS l w K (L2.CX l.prog w) k n "script" mg fa h := by
  have b := FunD.bindsA (ps := ["script"]) F hb
  exact ⟨fd, [], spM ⟨K, mg, []⟩ f 1, fun p hp => (by cases hp), fun p hp => (by cases hp), fun p hp => (by cases hp), fun s v => b s [v] rfl, fun H a ns hl _ _ hS => sp_law rfl pl hl hS, fun base h1 h2 _ => ok base h1 h2⟩
theorem cx_none {P : Program} {w : World} (H : Hp) (s : Shared) (e : Value) (s' : Shared) (h : L2.CX P w [] H s (fun _ _ _ => False) e s') : False := by
  obtain ⟨_, _, _, _, _, _, _, _, _, _, _, _, z⟩ := h
  exact z.elim
end MM

namespace MM
open PySem L2

section
variable {α β : Type} {a : α} {h : Hm} {x : Ex} {k : α → Hm → R β} {ks : α → Hm → SR} {env : Ev} {b : Ev → Hm → SR} {d e : D}
@[simp] theorem bind_ok : (R.ok a h).bind k = k a h := rfl
@[simp] theorem bind_exn : (R.exn x h : R α).bind k = .exn x h := rfl
@[simp] theorem bind_bad : (R.bad : R α).bind k = .bad := rfl
@[simp] theorem bindS_ok : (R.ok a h).bindS env ks = ks a h := rfl
@[simp] theorem bindS_exn : (R.exn x h : R α).bindS env ks = .exn x env h := rfl
@[simp] theorem bindS_bad : (R.bad : R α).bindS env ks = .bad := rfl
@[simp] theorem then_next : (SR.next env h).then b = b env h := rfl
@[simp] theorem then_ret : (SR.ret d h).then b = .ret d h := rfl
@[simp] theorem then_brk : (SR.brk env h).then b = .brk env h := rfl
@[simp] theorem then_cont : (SR.cont env h).then b = .cont env h := rfl
@[simp] theorem then_exn : (SR.exn x env h).then b = .exn x env h := rfl
@[simp] theorem then_bad : (SR.bad).then b = .bad := rfl
@[simp] theorem only_next : (SR.next env h).only = .next env h := rfl
@[simp] theorem only_exn : (SR.exn x env h).only = .exn x env h := rfl
end
section
variable {i j : Nat} {env : Ev} {h : Hm} {d e : D} {x y : Int} {s t : Str} {p q : Bool} {ds es : List D} {a b c : Ev → Hm → R D} {r : Ev → Hm → R (List D)} {sa sb : Ev → Hm → SR} {f f' : F2} {g : Gt} {gs : Gts} {ta tb : Ev → Hm → R Bool}
@[simp] theorem run_seq : sSeq sa sb env h = (sa env h).then sb := rfl
@[simp] theorem run_nil : sNil env h = .next env h := rfl
@[simp] theorem run_ret : sRet a env h = (a env h).bindS env fun d h1 => .ret d h1 := rfl
@[simp] theorem run_retN : sRetN env h = .ret .non h := rfl
@[simp] theorem run_drop : sDrop a env h = (a env h).bindS env fun _ h1 => .next env h1 := rfl
@[simp] theorem run_if : sIf ta sa sb env h = (ta env h).bindS env fun k h1 => if k = true then sa env h1 else sb env h1 := rfl
@[simp] theorem run_asg : sAsg g a env h = (a env h).bindS env fun d h1 => (g d env h1).only := rfl
@[simp] theorem run_brk : sBrk env h = .brk env h := rfl
@[simp] theorem run_cont : sCont env h = .cont env h := rfl
@[simp] theorem run_raise {cn : Str} : sRaise cn env h = .exn ⟨cn, []⟩ env h := rfl
@[simp] theorem run_gN : gN i d env h = .next (env.set i (some d)) h := rfl
@[simp] theorem run_C : mC d env h = .ok d h := rfl
@[simp] theorem run_var : mVar i env h = (match env[i]? with
  | some (some d) => .ok d h
  | _ => .bad) := rfl
@[simp] theorem run_m2 : m2 f a b env h = (a env h).bind fun x h1 => (b env h1).bind fun y h2 => f x y h2 := rfl
@[simp] theorem run_lnil : mNil env h = .ok [] h := rfl
@[simp] theorem run_lcons : mCons a r env h = (a env h).bind fun x h1 => (r env h1).bind fun xs h2 => .ok (x :: xs) h2 := rfl
@[simp] theorem run_tup : mTup r env h = (r env h).bind fun xs h1 => .ok (.tup xs) h1 := rfl
@[simp] theorem run_lst : mLst r env h = (r env h).bind fun xs h1 => .ok (.ref h1.length) (h1 ++ [.lst xs]) := rfl
@[simp] theorem run_bool : mBool a env h = (a env h).bind fun x h1 => (match x with
  | .bl b => .ok b h1
  | _ => .bad) := rfl
@[simp] theorem run_tru : mTru a env h = (a env h).bind fTru := rfl
@[simp] theorem run_and : mAnd ta tb env h = (ta env h).bind fun k h1 => if k = true then tb env h1 else .ok false h1 := rfl
@[simp] theorem run_or : mOr ta tb env h = (ta env h).bind fun k h1 => if k = true then .ok true h1 else tb env h1 := rfl
@[simp] theorem run_not : mNot ta env h = (ta env h).bind fun k h1 => .ok (!k) h1 := rfl
@[simp] theorem run_andV : mAndV a b env h = (a env h).bind fun x h1 => (fTru x h1).bind fun k h2 => if k = true then b env h2 else .ok x h2 := rfl
@[simp] theorem run_orV : mOrV a b env h = (a env h).bind fun x h1 => (fTru x h1).bind fun k h2 => if k = true then .ok x h2 else b env h2 := rfl
@[simp] theorem run_notV : mNotV a env h = (a env h).bind fun x h1 => (fTru x h1).bind fun k h2 => .ok (.bl (!k)) h2 := rfl
@[simp] theorem run_ifE : mIf ta a b env h = (ta env h).bind fun k h1 => if k = true then a env h1 else b env h1 := rfl
@[simp] theorem run_chain : mChain f f' a b c env h = (a env h).bind fun x h1 => (b env h1).bind fun y h2 => (f x y h2).bind fun z h3 => (match z with
  | .bl k => if k = true then (c env h3).bind fun w h4 => f' y w h4 else .ok (.bl false) h3
  | _ => .bad) := rfl
@[simp] theorem run_neg : mNeg a env h = (a env h).bind fun x h1 => (match x with
  | .int i => .ok (.int (-i)) h1
  | _ => .bad) := rfl
@[simp] theorem run_sl {l u : Ev → Hm → R (Option Int)} : mSl a l u env h = (a env h).bind fun x h1 => (l env h1).bind fun lo h2 => (u env h2).bind fun hi h3 => fSl x lo hi h3 := rfl
@[simp] theorem run_no : mNo env h = .ok none h := rfl
@[simp] theorem run_some : mSome a env h = (a env h).bind fun x h1 => (match x with
  | .int i => .ok (some i) h1
  | _ => .bad) := rfl
@[simp] theorem run_call {fc : Fc} : mCall fc r env h = (r env h).bind fc := rfl
@[simp] theorem run_callF {fc : Fc} {p : Nat} : mCallF p fc r env h = (r env h).bind fun ds h1 => if ds.length = p then fc ds h1 else .bad := rfl
@[simp] theorem run_meth {tg : Hm → D → Bool} {fm : Fm} : mMeth tg fm a r env h = (a env h).bind fun x h1 => if tg h1 x = true then (r env h1).bind fun ds h2 => fm x ds h2 else .bad := rfl
@[simp] theorem run_subM : gSubM a b d env h = (a env h).bindS env fun x h1 => (b env h1).bindS env fun y h2 => (match fSet x y d h2 with
  | some h3 => .next env h3
  | none => .bad) := rfl
@[simp] theorem run_par : sPar i j r env h = (r env h).bindS env fun ds h1 => (match ds with
  | [a, b] => .next ((env.set i (some a)).set j (some b)) h1
  | _ => .bad) := rfl
@[simp] theorem run_par3 {l : Nat} : sPar3 i j l r env h = (r env h).bindS env fun ds h1 => (match ds with
  | [a, b, c] => .next (((env.set i (some a)).set j (some b)).set l (some c)) h1
  | _ => .bad) := rfl
@[simp] theorem run_aug : sAug i f a env h = (match env[i]? with
  | some (some x) => (a env h).bindS env fun y h1 => (f x y h1).bindS env fun z h2 => .next (env.set i (some z)) h2
  | _ => .bad) := rfl
@[simp] theorem run_itA : mItA a env h = (a env h).bind fun x h1 => (match x with
  | .tup ds => .ok (ds, []) h1
  | x => oR (itL h1 x) h1) := rfl
@[simp] theorem run_rg1 : mRg1 r env h = (r env h).bind fun ds h1 => (match ds with
  | [.int j] => if sm62 j = true then .ok (rng1 0 j.toNat, []) h1 else .bad
  | _ => .bad) := rfl
@[simp] theorem run_enum : mEnum r env h = (r env h).bind fun ds h1 => (match ds with
  | [x] => (match itL h1 x with
    | some it => .ok (enumD 0 it.1, it.2) h1
    | none => .bad)
  | _ => .bad) := rfl
@[simp] theorem run_for {m : Ev → Hm → R Itr} : sFor m g sa env h = (m env h).bindS env fun it h1 => forL it.2 g sa it.1 env h1 := rfl
@[simp] theorem run_lc {vs : List Nat} {m : Ev → Hm → R Itr} : mLc vs m g ta a env h = (m env h).bind fun it h1 => if it.1.length ≤ 16777216 then (match lcL it.2 g ta a (wipeE env vs) it.1 h1 with
  | .ok ys h2 => .ok (.ref h2.length) (h2 ++ [.lst ys])
  | _ => .bad) else .bad := rfl
@[simp] theorem run_fld {cs : List Str} {s : Str} : mFld cs s a env h = (a env h).bind fun x h1 => (match x with
  | .ref i => (match h1[i]? with
    | some (.ins c fs) => if c ∈ cs then (match fs.lookup s with
        | some d => .ok d h1
        | none => .bad) else .bad
    | _ => .bad)
  | _ => .bad) := rfl
@[simp] theorem run_fldM {cs : List Str} {s : Str} : sFldM cs s a b env h = (b env h).bindS env fun y h1 => (a env h1).bindS env fun x h2 => (match setF cs s x y h2 with
  | some h3 => .next env h3
  | none => .bad) := rfl
@[simp] theorem run_tyes : tYesM env h = .ok true h := rfl
@[simp] theorem fAdd_i : fAdd (.int x) (.int y) h = .ok (.int (x + y)) h := rfl
@[simp] theorem fSub_i : fSub (.int x) (.int y) h = .ok (.int (x - y)) h := rfl
@[simp] theorem fLt_i : fLt (.int x) (.int y) h = .ok (.bl (decide (x < y))) h := rfl
@[simp] theorem fLe_i : fLe (.int x) (.int y) h = .ok (.bl (decide (x ≤ y))) h := rfl
@[simp] theorem fGt_i : fGt (.int x) (.int y) h = .ok (.bl (decide (y < x))) h := rfl
@[simp] theorem fGe_i : fGe (.int x) (.int y) h = .ok (.bl (decide (y ≤ x))) h := rfl
theorem fMulI_ok (c : CMul x y) : fMulI (.int x) (.int y) h = .ok (.int (x * y)) h := by
  unfold fMulI fI
  simp only [if_pos c]
theorem fMul_ok (c : CMul x y) : fMul (.int x) (.int y) h = .ok (.int (x * y)) h := fMulI_ok c
theorem fDiv_ok (c : y ≠ 0 ∧ y.natAbs < 1073741824) : fDiv (.int x) (.int y) h = .ok (.int (x.fdiv y)) h := by
  unfold fDiv fI
  simp only [if_pos (show CDivN x y from c)]
theorem fMod_ok (c : y ≠ 0) : fMod (.int x) (.int y) h = .ok (.int (x.fmod y)) h := by
  unfold fMod fI
  simp only [if_pos c]
theorem fPow_ok (c : 0 ≤ y ∧ y ≤ 1000000 ∧ x.natAbs < 2 ^ 64) : fPow (.int x) (.int y) h = .ok (.int (x ^ y.toNat)) h := by
  unfold fPow fI
  simp only [if_pos (show CPow x y from c)]
@[simp] theorem fEq_i : fEq (.int x) (.int y) h = .ok (.bl (decide (x = y))) h := by
  show R.ok (D.bl (decide (D.int x = D.int y))) h = _
  simp
@[simp] theorem fNe_i : fNe (.int x) (.int y) h = .ok (.bl (!decide (x = y))) h := by
  show R.ok (D.bl (!decide (D.int x = D.int y))) h = _
  simp
@[simp] theorem fAbs_i : fAbs [.int x] h = .ok (.int (if x < 0 then -x else x)) h := rfl
@[simp] theorem fInt_i : fInt [.int x] h = .ok (.int x) h := rfl
@[simp] theorem fInt_b : fInt [.bl p] h = .ok (.int (if p then 1 else 0)) h := rfl
end
theorem ofString_inj {a b : String} : (Str.ofString a = Str.ofString b) ↔ a = b := by
  refine ⟨fun h => ?_, fun h => by rw [h]⟩
  rw [Str.ofString_eq_toList, Str.ofString_eq_toList] at h
  have h1 : a.toList.map Char.toNat = b.toList.map Char.toNat := by
    have := congrArg (fun z : Str => z.cps.toList) h
    simpa using this
  have h2 : a.toList = b.toList := by
    refine (List.map_inj_right ?_).mp h1
    intro x y hxy
    exact Char.toNat_inj.mp hxy
  exact String.toList_inj.mp h2
@[simp] theorem str_eq {a b : String} : (Str.ofString a = Str.ofString b) = (a = b) := propext ofString_inj
@[simp] theorem str_beq {a b : String} : (Str.ofString a == Str.ofString b) = (a == b) := by
  by_cases h : a = b
  · subst h
    simp
  · have h2 : ¬ Str.ofString a = Str.ofString b := fun z => h (ofString_inj.mp z)
    rw [beq_eq_false_iff_ne.mpr h, beq_eq_false_iff_ne.mpr h2]
section
variable {h : Hm} {s t : Str} {p q : Bool} {x y : Int}
@[simp] theorem fEq_s : fEq (.str s) (.str t) h = .ok (.bl (decide (s = t))) h := by
  show R.ok (D.bl (decide (D.str s = D.str t))) h = _
  simp
@[simp] theorem fNe_s : fNe (.str s) (.str t) h = .ok (.bl (!decide (s = t))) h := by
  show R.ok (D.bl (!decide (D.str s = D.str t))) h = _
  simp
@[simp] theorem fEq_b : fEq (.bl p) (.bl q) h = .ok (.bl (decide (p = q))) h := by
  show R.ok (D.bl (decide (D.bl p = D.bl q))) h = _
  simp
@[simp] theorem fMax2_i : fMax2 [.int x, .int y] h = .ok (.int (if y > x then y else x)) h := rfl
@[simp] theorem fMin2_i : fMin2 [.int x, .int y] h = .ok (.int (if y < x then y else x)) h := rfl
@[simp] theorem fIAdd_i : fIAdd (.int x) (.int y) h = .ok (.int (x + y)) h := rfl
@[simp] theorem fTru_b : fTru (.bl p) h = .ok p h := rfl
@[simp] theorem fTru_i : fTru (.int x) h = .ok (x != 0) h := rfl
@[simp] theorem fIs_n {d : D} {n : Bool} : fIs n d .non h = .ok (.bl (if n then !decide (d = .non) else decide (d = .non))) h := rfl
end
@[simp] theorem lookup_str {a k : Str} {d : D} {es : List (Str × D)} : List.lookup a ((k, d) :: es) = if a = k then some d else List.lookup a es := by
  by_cases h : a = k
  · have hb : (a == k) = true := beq_iff_eq.mpr h
    simp only [List.lookup, hb, if_pos h]
  · have hb : (a == k) = false := beq_eq_false_iff_ne.mpr h
    simp only [List.lookup, hb, if_neg h]
@[simp] theorem fIx_t {ds : List D} {x : Int} {h : Hm} : fIx (.tup ds) (.int x) h = (match L2.atI ds x with
  | some d => .ok d h
  | none => .bad) := rfl
@[simp] theorem run_methF {cn m : Str} {p : Nat} {fn : Fc} {mo : Ev → Hm → R D} {mr : Ev → Hm → R (List D)} {env : Ev} {h : Hm} : mMethF cn m p fn mo mr env h = (mo env h).bind fun x h1 => (match x with
  | .ref i => (match h1[i]? with
    | some (.ins c fs) => if c = cn ∧ fs.lookup m = none then (mr env h1).bind fun ds h2 => if ds.length + 1 = p then fn (.ref i :: ds) h2 else .bad else .bad
    | _ => .bad)
  | _ => .bad) := rfl
@[simp] theorem run_make {cn : Str} {p : Nat} {fn : Fc} {mr : Ev → Hm → R (List D)} {env : Ev} {h : Hm} : mMake cn p fn mr env h = (mr env h).bind fun ds h1 => if ds.length + 1 = p then (match fn (.ref h1.length :: ds) (h1 ++ [.ins cn []]) with
  | .ok .non h2 => .ok (.ref h1.length) h2
  | .exn x h2 => .exn x h2
  | _ => .bad) else .bad := rfl
@[simp] theorem run_get {mo a b : Ev → Hm → R D} {env : Ev} {h : Hm} : mGet mo a b env h = (mo env h).bind fun x h1 => if isD h1 x = true then (a env h1).bind fun k h2 => (b env h2).bind fun y h3 => (match x, keyD k with
  | .ref i, some k => (match h3[i]? with
    | some (.dic kvs) => .ok ((getK kvs k).getD y) h3
    | _ => .bad)
  | _, _ => .bad) else .bad := rfl
@[simp] theorem run_fldA {cs : List Str} {f : Str} {fo : F2} {mo me : Ev → Hm → R D} {env : Ev} {h : Hm} : sFldA cs f fo mo me env h = (mo env h).bindS env fun x h1 => (match x with
  | .ref i => (match h1[i]? with
    | some (.ins c fs) => if c ∈ cs then (match fs.lookup f with
        | some v => (me env h1).bindS env fun y h2 => (fo v y h2).bindS env fun z h3 => (match h3[i]? with
            | some (.ins c' fs') => if c' = c ∧ fs'.length < 1000 then .next env (h3.set i (.ins c (putD f z fs'))) else .bad
            | _ => .bad)
        | none => .bad) else .bad
    | _ => .bad)
  | _ => .bad) := rfl
end MM

namespace MM
open PySem L2
section
variable {h : Hm} {r : Nat} {ds : List D} {x y : D} {k : Int} {j : Nat}
/-- subscripts -/
theorem ixN_nat {n j : Nat} (hj : j < n) : ixN n (j : Int) = some j := by
  unfold ixN
  rw [if_pos (by omega), if_pos (by omega)]
  simp
theorem fIx_lst (e : h[r]? = some (.lst ds)) (e2 : ds[j]? = some x) : fIx (.ref r) (.int (j : Int)) h = .ok x h := by
  have hj : j < ds.length := (List.getElem?_eq_some_iff.mp e2).1
  unfold fIx
  simp only [e, L2.atI, ixN_nat hj, Option.bind_some, e2]
theorem fIx_last (e : h[r]? = some (.lst ds)) (e2 : ds.getLast? = some x) : fIx (.ref r) (.int (-1)) h = .ok x h := by
  have hj : 0 < ds.length := by cases ds with
    | nil => cases e2
    | cons a l => exact Nat.succ_pos _
  have e3 : ixN ds.length (-1) = some (ds.length - 1) := by
    unfold ixN
    rw [if_neg (by omega), if_pos (by omega)]
    congr 1
    omega
  unfold fIx
  simp only [e, L2.atI, e3, Option.bind_some]
  rw [List.getLast?_eq_getElem?] at e2
  rw [e2]
theorem fSet_lst (e : h[r]? = some (.lst ds)) (hj : j < ds.length) : fSet (.ref r) (.int (j : Int)) y h = some (h.set r (.lst (ds.set j y))) := by
  unfold fSet
  simp only [e, ixN_nat hj]
end
section
variable {h : Hm} {i : Nat} (hi : i < h.length)
include hi
theorem ix3 (p q r : D) : fIx (.ref i) (.int 0) (h.set i (.lst [p, q, r])) = .ok p (h.set i (.lst [p, q, r])) ∧ fIx (.ref i) (.int 1) (h.set i (.lst [p, q, r])) = .ok q (h.set i (.lst [p, q, r])) ∧ fIx (.ref i) (.int 2) (h.set i (.lst [p, q, r])) = .ok r (h.set i (.lst [p, q, r])) := by
  have e : (h.set i (.lst [p, q, r]))[i]? = some (.lst [p, q, r]) := List.getElem?_set_self hi
  exact ⟨fIx_lst (j := 0) e rfl, fIx_lst (j := 1) e rfl, fIx_lst (j := 2) e rfl⟩
theorem set3 (p q r y : D) : fSet (.ref i) (.int 0) y (h.set i (.lst [p, q, r])) = some (h.set i (.lst [y, q, r])) ∧ fSet (.ref i) (.int 1) y (h.set i (.lst [p, q, r])) = some (h.set i (.lst [p, y, r])) ∧ fSet (.ref i) (.int 2) y (h.set i (.lst [p, q, r])) = some (h.set i (.lst [p, q, y])) := by
  have e : (h.set i (.lst [p, q, r]))[i]? = some (.lst [p, q, r]) := List.getElem?_set_self hi
  refine ⟨(fSet_lst (j := 0) e (by simp)).trans ?_, (fSet_lst (j := 1) e (by simp)).trans ?_, (fSet_lst (j := 2) e (by simp)).trans ?_⟩ <;> simp
end
theorem set_self {h : Hm} {i : Nat} {o : O} (e : h[i]? = some o) : h.set i o = h := by
  obtain ⟨hi, e⟩ := List.getElem?_eq_some_iff.mp e
  rw [← e]
  exact List.set_getElem_self hi

def b_dice : Ev → Hm → SR := (sSeq (sIf (mBool (mChain fLt fLt (m2 fSub (mC (.int 0)) (mC (.int 10))) (mVar 0) (mC (.int 10))))
  (sRet (mLst (mCons (mCall fAbs (mCons (mVar 0) mNil)) (mCons (mC (.int 0)) (mCons (mC (.int 2)) mNil)))))
  sNil)
  (sRet (mLst (mCons (mVar 0) (mCons (m2 fAdd (mC (.int 1)) (m2 fMod (mCall fInt (mCons (mVar 0) mNil)) (mC (.int 1009)))) (mCons (mCall fInt (mCons (m2 fGe (mVar 0) (m2 fPow (mC (.int 10)) (mC (.int 18)))) mNil)) mNil))))))
def f_dice : Fc := callM 1 1 b_dice
def b_roll : Ev → Hm → SR := (sSeq (sIf (mOr (mBool (m2 fEq (m2 fIx (mVar 0) (mC (.int 2))) (mC (.int 2)))) (mAnd (mBool (m2 fEq (m2 fIx (mVar 0) (mC (.int 2))) (mC (.int 1)))) (mBool (m2 fGt (m2 fIx (mVar 0) (mC (.int 0))) (mC (.int 0))))))
  (sSeq (sAsg (gN 2) (m2 fMod (mCall fInt (mCons (m2 fIx (mVar 0) (mC (.int 0))) mNil)) (mVar 1)))
  (sSeq (sAsg (gSubM (mVar 0) (mC (.int 0))) (m2 fDiv (m2 fIx (mVar 0) (mC (.int 0))) (mVar 1)))
  (sRet (mVar 2))))
  sNil)
  (sSeq (sAsg (gSubM (mVar 0) (mC (.int 2))) (mC (.int 0)))
  (sSeq (sAsg (gSubM (mVar 0) (mC (.int 0))) (m2 fMod (mCall fInt (mCons (m2 fAdd (m2 fAdd (m2 fMul (m2 fIx (mVar 0) (mC (.int 0))) (mC (.int 48271))) (m2 fMul (m2 fIx (mVar 0) (mC (.int 1))) (mC (.int 69621)))) (mC (.int 11))) mNil)) (mC (.int 2147483647))))
  (sSeq (sAsg (gSubM (mVar 0) (mC (.int 1))) (m2 fAdd (m2 fIx (mVar 0) (mC (.int 1))) (mC (.int 1))))
  (sRet (m2 fMod (mCall fInt (mCons (m2 fAdd (m2 fDiv (m2 fIx (mVar 0) (mC (.int 0))) (mC (.int 7))) (m2 fIx (mVar 0) (mC (.int 0)))) mNil)) (mVar 1)))))))
def f_roll : Fc := callM 3 2 b_roll
def b_rounds : Ev → Hm → SR := (sSeq (sAsg (gN 2) (mSl (mVar 0) mNo (mSome (mVar 1))))
  (sSeq (sIf (mBool (m2 fEq (mVar 2) (mLst mNil)))
  (sAsg (gN 2) (mLst (mCons (mC (.int 0)) mNil)))
  sNil)
  (sRet (mLc [3] (mItA (mVar 2)) (gN 3) tYesM (mCallF 1 f_dice (mCons (mVar 3) mNil))))))
def f_rounds : Fc := callM 4 2 b_rounds
theorem dice_ok (c : Int) (h : Hm) : ∃ a b m, f_dice [.int c] h = .ok (.ref h.length) (h ++ [.lst [.int a, .int b, .int m]]) := by
  by_cases hc : -10 < c ∧ c < 10
  · refine ⟨if c < 0 then -c else c, 0, 2, ?_⟩
    simp [f_dice, callM, b_dice, startE, hc]
  · refine ⟨c, 1 + c.fmod 1009, if (10 : Int) ^ 18 ≤ c then 1 else 0, ?_⟩
    have : ¬ ((-10 < c) ∧ (c < 10)) := hc
    by_cases h1 : -10 < c
    · have h2 : ¬ c < 10 := fun z => hc ⟨h1, z⟩
      simp [f_dice, callM, b_dice, startE, h1, h2, fMod_ok, fPow_ok]
    · simp [f_dice, callM, b_dice, startE, h1, fMod_ok, fPow_ok]
theorem roll_ok {i : Nat} {h : Hm} {a b m many : Int} (e : h[i]? = some (.lst [.int a, .int b, .int m])) (h1 : 0 < many) (h2 : many < 1073741824) :
    ∃ v a' b' m' : Int, 0 ≤ v ∧ v < many ∧ f_roll [.ref i, .int many] h = .ok (.int v) (h.set i (.lst [.int a', .int b', .int m'])) := by
  have hi0 : i < h.length := (List.getElem?_eq_some_iff.mp e).1
  obtain ⟨h0, e0, hi⟩ : ∃ h0 : Hm, h = h0.set i (.lst [.int a, .int b, .int m]) ∧ i < h0.length := ⟨h, (set_self e).symm, hi0⟩
  subst e0
  have hm : many ≠ 0 := by omega
  have hd : many ≠ 0 ∧ many.natAbs < 1073741824 := ⟨hm, by omega⟩
  have v1 : ∀ z : Int, 0 ≤ z.fmod many ∧ z.fmod many < many := fun z => ⟨Int.fmod_nonneg_of_pos z h1, Int.fmod_lt_of_pos z h1⟩
  have hm1 : ∀ x : Int, CMul x 48271 := fun x => .inr ⟨by decide, by decide⟩
  have hm2 : ∀ x : Int, CMul x 69621 := fun x => .inr ⟨by decide, by decide⟩
  simp only [List.set_set]
  by_cases c : m = 2 ∨ (m = 1 ∧ 0 < a)
  · refine ⟨a.fmod many, a.fdiv many, b, m, (v1 a).1, (v1 a).2, ?_⟩
    rcases c with rfl | ⟨rfl, c⟩
    · simp [f_roll, callM, b_roll, startE, ix3 hi, set3 hi, fMod_ok hm, fDiv_ok hd]
    · simp [f_roll, callM, b_roll, startE, ix3 hi, set3 hi, fMod_ok hm, fDiv_ok hd, c]
  · have c1 : ¬ m = 2 := fun z => c (.inl z)
    refine ⟨(((a * 48271 + b * 69621 + 11).fmod 2147483647).fdiv 7 + (a * 48271 + b * 69621 + 11).fmod 2147483647).fmod many, (a * 48271 + b * 69621 + 11).fmod 2147483647, b + 1, 0, (v1 _).1, (v1 _).2, ?_⟩
    by_cases c2 : m = 1
    · have c3 : ¬ 0 < a := fun z => c (.inr ⟨c2, z⟩)
      simp [f_roll, callM, b_roll, startE, ix3 hi, set3 hi, fMod_ok, fDiv_ok, fMul_ok, hm1, hm2, c2, c3, hm]
    · simp [f_roll, callM, b_roll, startE, ix3 hi, set3 hi, fMod_ok, fDiv_ok, fMul_ok, hm1, hm2, c1, c2, hm]

def IsDice (h : Hm) (i : Nat) : Prop := ∃ a b m : Int, h[i]? = some (.lst [.int a, .int b, .int m])
/-- what stood at n stands, but at i -/
def Fr (i : Nat) (h h' : Hm) : Prop := h.length ≤ h'.length ∧ ∀ j, j < h.length → j ≠ i → h'[j]? = h[j]?
theorem Fr.refl {i : Nat} {h : Hm} : Fr i h h := ⟨Nat.le_refl _, fun _ _ _ => rfl⟩
theorem Fr.trans {i : Nat} {h h1 h2 : Hm} (a : Fr i h h1) (b : Fr i h1 h2) : Fr i h h2 := ⟨Nat.le_trans a.1 b.1, fun j hj ne => (b.2 j (Nat.lt_of_lt_of_le hj a.1) ne).trans (a.2 j hj ne)⟩
theorem Fr.app {i : Nat} {h g : Hm} : Fr i h (h ++ g) := ⟨by rw [List.length_append]; omega, fun j hj _ => List.getElem?_append_left hj⟩
theorem Fr.set {i : Nat} {h : Hm} {o : O} : Fr i h (h.set i o) := ⟨by rw [List.length_set]; exact Nat.le_refl _, fun j hj ne => List.getElem?_set_ne (Ne.symm ne)⟩
theorem Fr.get {i j : Nat} {h h' : Hm} {o : O} (f : Fr i h h') (e : h[j]? = some o) (ne : j ≠ i) : h'[j]? = some o := (f.2 j (List.getElem?_eq_some_iff.mp e).1 ne).trans e
theorem roll_fr {i : Nat} {h : Hm} {many : Int} (e : IsDice h i) (h1 : 0 < many) (h2 : many < 1073741824) : ∃ (v : Int) (h' : Hm), 0 ≤ v ∧ v < many ∧ f_roll [.ref i, .int many] h = .ok (.int v) h' ∧ IsDice h' i ∧ h'.length = h.length ∧ Fr i h h' := by
  obtain ⟨a, b, m, e⟩ := e
  have hi := (List.getElem?_eq_some_iff.mp e).1
  obtain ⟨v, a', b', m', v1, v2, run⟩ := roll_ok e h1 h2
  exact ⟨v, _, v1, v2, run, ⟨a', b', m', List.getElem?_set_self hi⟩, List.length_set .., Fr.set⟩
theorem dices_ok (env : Ev) (hE : env.length = 4) : ∀ (cs : List Int) (gs : List (Nat × O)) (h : Hm), (∀ g : Hm, gdOk gs (h ++ g) = true) → ∃ L : List O, L.length = cs.length ∧ (∀ o ∈ L, ∃ a b m : Int, o = .lst [.int a, .int b, .int m]) ∧
    lcL gs (gN 3) tYesM (mCallF 1 f_dice (mCons (mVar 3) mNil)) env (cs.map D.int) h = .ok ((List.range cs.length).map fun k => D.ref (h.length + k)) (h ++ L)
  | [], gs, h, hg => ⟨[], rfl, fun o ho => (by cases ho), by
    have := hg []
    rw [List.append_nil] at this
    simp [lcL, this]⟩
  | c :: cs, gs, h, hg => by
    obtain ⟨a, b, m, e⟩ := dice_ok c h
    obtain ⟨L, hL, h3, ih⟩ := dices_ok env hE cs gs (h ++ [.lst [.int a, .int b, .int m]]) fun g => by rw [List.append_assoc]; exact hg _
    have g0 := hg []
    rw [List.append_nil] at g0
    have e3 : (env.set 3 (some (D.int c)))[3]? = some (some (.int c)) := List.getElem?_set_self (by omega)
    refine ⟨.lst [.int a, .int b, .int m] :: L, by rw [List.length_cons, List.length_cons, hL], fun o ho => ?_, ?_⟩
    · rcases List.mem_cons.mp ho with rfl | ho
      · exact ⟨a, b, m, rfl⟩
      · exact h3 o ho
    · rw [List.map_cons]
      unfold lcL
      rw [if_pos g0]
      simp only [run_gN, run_tyes, run_callF, run_lcons, run_lnil, run_var, e3, bind_ok, List.length_cons, List.length_nil, if_pos, e, ih]
      simp only [List.length_append, List.length_cons, List.length_nil, List.range_succ_eq_map, List.map_cons, List.map_map, List.append_assoc, List.cons_append, List.nil_append, Nat.zero_add]
      congr 2
      apply List.map_congr_left
      intro k _
      show D.ref (h.length + 1 + k) = D.ref (h.length + (k + 1))
      congr 1
      omega
end MM

namespace MM
open PySem L2

theorem mapO_map {α β γ : Type} {f : β → Option γ} {g : α → β} {k : α → γ} (w : ∀ a, f (g a) = some (k a)) : ∀ l : List α, mapO f (l.map g) = some (l.map k)
  | [] => rfl
  | a :: l => by
    rw [List.map_cons, List.map_cons]
    unfold mapO
    rw [w, mapO_map w l]
theorem py_ints {h : Hm} {n : Nat} (cs : List Int) : mapO (py h (n + 1)) (cs.map D.int) = some (cs.map PyData.int) := mapO_map (g := D.int) (k := PyData.int) (fun _ => rfl) cs
theorem py_ref {h : Hm} {n i : Nat} {ds : List D} (e : h[i]? = some (.lst ds)) : py h (n + 1) (.ref i) = (mapO (py h n) ds).map .list := by
  show (match h[i]? with
    | some (.lst ds) => (mapO (py h n) ds).map PyData.list
    | _ => none) = _
  rw [e]
theorem fEq_nil {h : Hm} {i j : Nat} {cs : List Int} (e : h[i]? = some (.lst (cs.map D.int))) (e2 : h[j]? = some (.lst [])) : fEq (.ref i) (.ref j) h = .ok (.bl cs.isEmpty) h := by
  unfold fEq
  rw [if_neg (by show ¬ (false = true); simp), py_ref e, py_ref e2, py_ints]
  cases cs <;> rfl
theorem rounds_fin (d : D) (h0 : Hm) (cells : List Int) (r : Nat) (e1 e3 : Option D) (er : h0[r]? = some (.lst (cells.map D.int))) (hl : cells.length ≤ 16777216) : ∃ L : List O, L.length = cells.length ∧ (∀ o ∈ L, ∃ a b m : Int, o = .lst [.int a, .int b, .int m]) ∧
    (sRet (mLc [3] (mItA (mVar 2)) (gN 3) tYesM (mCallF 1 f_dice (mCons (mVar 3) mNil)))) [some d, e1, some (.ref r), e3] h0 = .ret (.ref (h0.length + cells.length)) (h0 ++ (L ++ [.lst ((List.range cells.length).map fun k => D.ref (h0.length + k))])) := by
  have hr := (List.getElem?_eq_some_iff.mp er).1
  have gg : ∀ g : Hm, gdOk [(r, O.lst (cells.map D.int))] (h0 ++ g) = true := fun g => by
    simp only [gdOk, List.all_cons, List.all_nil, Bool.and_true, decide_eq_true_eq]
    rw [List.getElem?_append_left hr]
    exact er
  obtain ⟨L, hL, h3, run⟩ := dices_ok (wipeE [some d, e1, some (.ref r), e3] [3]) rfl cells _ h0 gg
  refine ⟨L, hL, h3, ?_⟩
  have it : itL h0 (.ref r) = some (cells.map D.int, [(r, O.lst (cells.map D.int))]) := by
    show (match h0[r]? with
      | some (.lst ds) => some (ds, [(r, O.lst ds)])
      | _ => none) = _
    rw [er]
  have v2 : mVar 2 [some d, e1, some (.ref r), e3] h0 = .ok (.ref r) h0 := rfl
  simp only [run_ret, run_lc, run_itA, v2, bind_ok, it, oR, List.length_map, if_pos hl, run, bindS_ok]
  rw [List.length_append, hL, List.append_assoc]
theorem rounds_ok {d : D} {h : Hm} {ns : List Int} {most : Nat} (hm : most ≤ 1000) (sc : Scr ns d h) : ∃ (L : List O) (cells : List Int) (n : Nat), n + cells.length + 1 = L.length ∧
    f_rounds [d, .int most] h = .ok (.ref (h.length + n + cells.length)) (h ++ L) ∧ L[n + cells.length]? = some (.lst ((List.range cells.length).map fun k => D.ref (h.length + n + k))) ∧ ∀ k, k < cells.length → ∃ a b m : Int, L[n + k]? = some (.lst [.int a, .int b, .int m]) := by
  obtain ⟨cs, hcs, hlen⟩ : ∃ cs : List Int, fSl d none (some (most : Int)) h = .ok (.ref h.length) (h ++ [.lst (cs.map D.int)]) ∧ cs.length ≤ 1000 := by
    have hb : HT.sIx (ns.map D.int).length (ns.map D.int).length (some (most : Int)) ≤ most := by
      unfold HT.sIx
      simp only
      split <;> omega
    rcases sc with ⟨rfl, rfl⟩ | ⟨rfl, rfl⟩
    · refine ⟨(ns.drop (HT.sIx (ns.map D.int).length 0 none)).take (HT.sIx (ns.map D.int).length (ns.map D.int).length (some (most : Int)) - HT.sIx (ns.map D.int).length 0 none), ?_, ?_⟩
      · show R.ok _ _ = _
        unfold cutD
        rw [List.map_take, List.map_drop]
      · rw [List.length_take]
        omega
    · refine ⟨(ns.drop (HT.sIx (ns.map D.int).length 0 none)).take (HT.sIx (ns.map D.int).length (ns.map D.int).length (some (most : Int)) - HT.sIx (ns.map D.int).length 0 none), ?_, ?_⟩
      · show R.ok _ _ = _
        unfold cutD
        rw [List.map_take, List.map_drop]
      · rw [List.length_take]
        omega
  have q : ((h ++ [O.lst (cs.map D.int)]) ++ [O.lst []])[h.length]? = some (O.lst (cs.map D.int)) := by
    rw [List.getElem?_append_left (by simp), List.getElem?_append_right (Nat.le_refl _), Nat.sub_self]
    rfl
  have q2 : ((h ++ [O.lst (cs.map D.int)]) ++ [O.lst []])[(h ++ [O.lst (cs.map D.int)]).length]? = some (O.lst []) := by
    rw [List.getElem?_append_right (Nat.le_refl _), Nat.sub_self]
    rfl
  have eq := fEq_nil q q2
  have done : ∀ (L0 : List O) (cells : List Int) (r : Nat) (e1 e3 : Option D), (h ++ L0)[r]? = some (O.lst (cells.map D.int)) → cells.length ≤ 16777216 →
      b_rounds [some d, some (.int most), none, none] h = (sRet (mLc [3] (mItA (mVar 2)) (gN 3) tYesM (mCallF 1 f_dice (mCons (mVar 3) mNil)))) [some d, e1, some (.ref r), e3] (h ++ L0) →
      ∃ (L : List O) (cells : List Int) (n : Nat), n + cells.length + 1 = L.length ∧
        f_rounds [d, .int most] h = .ok (.ref (h.length + n + cells.length)) (h ++ L) ∧ L[n + cells.length]? = some (.lst ((List.range cells.length).map fun k => D.ref (h.length + n + k))) ∧ ∀ k, k < cells.length → ∃ a b m : Int, L[n + k]? = some (.lst [.int a, .int b, .int m]) := by
    intro L0 cells r e1 e3 er hl run
    obtain ⟨L, hL, h3, fin⟩ := rounds_fin d (h ++ L0) cells r e1 e3 er hl
    rw [fin] at run
    refine ⟨L0 ++ (L ++ [.lst ((List.range cells.length).map fun k => D.ref (h.length + L0.length + k))]), cells, L0.length, by simp [hL]; omega, ?_, ?_, fun k hk => ?_⟩
    · show (match b_rounds [some d, some (.int most), none, none] h with
        | .next _ h' => R.ok D.non h'
        | .ret d h' => .ok d h'
        | .exn x _ h' => .exn x h'
        | _ => .bad) = _
      rw [run]
      simp only [List.length_append, List.append_assoc]
    · rw [List.getElem?_append_right (by omega), show L0.length + cells.length - L0.length = L.length by omega, List.getElem?_append_right (Nat.le_refl _), Nat.sub_self]
      rfl
    · have hk2 : k < L.length := by omega
      rw [List.getElem?_append_right (by omega), show L0.length + k - L0.length = k by omega, List.getElem?_append_left hk2, List.getElem?_eq_getElem hk2]
      obtain ⟨a, b, m, e⟩ := h3 _ (List.getElem_mem hk2)
      exact ⟨a, b, m, by rw [e]⟩
  cases hc : cs with
  | nil =>
    subst hc
    refine done [.lst [], .lst [], .lst [.int 0]] [0] (h.length + 2) (some (.int most)) none ?_ (by decide) ?_
    · rw [List.getElem?_append_right (by omega), show h.length + 2 - h.length = 2 by omega]
      rfl
    · have hcs' : fSl d none (some (most : Int)) h = .ok (.ref h.length) (h ++ [O.lst []]) := hcs
      have eq' : fEq (.ref h.length) (.ref (h.length + 1)) (h ++ [O.lst [], O.lst []]) = .ok (.bl true) (h ++ [O.lst [], O.lst []]) := by
        have z := eq
        simp only [List.map_nil, List.length_append, List.length_cons, List.length_nil, List.append_assoc, List.cons_append, List.nil_append, Nat.zero_add] at z
        exact z
      simp [b_rounds, hcs', eq', -run_lc]
  | cons c cs' =>
    subst hc
    refine done [.lst ((c :: cs').map D.int), .lst []] (c :: cs') h.length (some (.int most)) none ?_ (by omega) ?_
    · rw [List.getElem?_append_right (Nat.le_refl _), Nat.sub_self]
      rfl
    · have eq' : fEq (.ref h.length) (.ref (h.length + 1)) (h ++ [O.lst ((c :: cs').map D.int), O.lst []]) = .ok (.bl false) (h ++ [O.lst ((c :: cs').map D.int), O.lst []]) := by
        have z := eq
        simp only [List.length_append, List.length_cons, List.length_nil, List.append_assoc, List.cons_append, List.nil_append, Nat.zero_add] at z
        exact z
      simp only [List.map_cons] at hcs eq' ⊢
      simp [b_rounds, hcs, eq', -run_lc]
def lawOf (most : Nat) (B : Ev → Hm → SR) : Ev → Hm → SR := sSeq (sFor (mItA (mCallF 2 f_rounds (mCons (mVar 0) (mCons (mC (.int (most : Int))) mNil)))) (gN 1) B) (sRet (mC (.bl true)))
/-- a round's body goes on, and leaves what is not its own -/
def RoundOk (N : Nat) (B : Ev → Hm → SR) : Prop := ∀ (d : D) (i : Nat) (rest : List (Option D)) (h : Hm), rest.length = N - 2 → IsDice h i → ∃ (rest' : List (Option D)) (h' : Hm), B (some d :: some (.ref i) :: rest) h = .next (some d :: some (.ref i) :: rest') h' ∧ rest'.length = N - 2 ∧ Fr i h h'
theorem rounds_loop {N : Nat} {B : Ev → Hm → SR} (hB : RoundOk N B) (d : D) (r : Nat) (all : List D) : ∀ (ks : List Nat) (e1 : Option D) (rest : List (Option D)) (h : Hm), rest.length = N - 2 → h[r]? = some (.lst all) → (∀ k ∈ ks, k ≠ r ∧ IsDice h k) → ks.Nodup →
    ∃ (env' : Ev) (h' : Hm), forL [(r, .lst all)] (gN 1) B (ks.map D.ref) (some d :: e1 :: rest) h = .next env' h'
  | [], e1, rest, h, hl, hr, hk, nd => by
    refine ⟨some d :: e1 :: rest, h, ?_⟩
    rw [List.map_nil]
    unfold forL
    rw [if_pos (by simp [gdOk, hr])]
  | k :: ks, e1, rest, h, hl, hr, hk, nd => by
    obtain ⟨nk, dk⟩ := hk k List.mem_cons_self
    obtain ⟨rest', h', run, hl', fr⟩ := hB d k rest h hl dk
    rw [List.nodup_cons] at nd
    obtain ⟨env2, h2, ih⟩ := rounds_loop hB d r all ks (some (.ref k)) rest' h' hl' (fr.get hr (Ne.symm nk)) (fun j hj => by
      obtain ⟨nj, a, b, m, dj⟩ := hk j (List.mem_cons_of_mem _ hj)
      exact ⟨nj, a, b, m, fr.get dj (fun z => nd.1 (z ▸ hj))⟩) nd.2
    refine ⟨env2, h2, ?_⟩
    rw [List.map_cons]
    unfold forL
    rw [if_pos (by simp [gdOk, hr])]
    simp only [run_gN, List.set_cons_succ, List.set_cons_zero, only_next, run]
    exact ih
theorem plain_rounds {N most n : Nat} {B : Ev → Hm → SR} (hN : 2 ≤ N) (hm : most ≤ 1000) (hB : RoundOk N B) : PlainLaw (callM N 1 (lawOf most B)) n := by
  intro ns d h _ sc
  obtain ⟨L, cells, m, hL, run, eL, ed⟩ := rounds_ok hm sc
  have hst : startE N [d] = some d :: none :: List.replicate (N - 2) none := by
    show some d :: List.replicate (N - 1) none = _
    rw [show N - 1 = (N - 2) + 1 by omega, List.replicate_succ]
  have er : (h ++ L)[h.length + m + cells.length]? = some (.lst ((List.range cells.length).map fun k => D.ref (h.length + m + k))) := by
    rw [List.getElem?_append_right (by omega), show h.length + m + cells.length - h.length = m + cells.length by omega]
    exact eL
  obtain ⟨env', h', loop⟩ := rounds_loop hB d (h.length + m + cells.length) ((List.range cells.length).map fun k => D.ref (h.length + m + k)) ((List.range cells.length).map fun k => h.length + m + k) none (List.replicate (N - 2) none) (h ++ L) (List.length_replicate ..) er (fun k hk => by
    obtain ⟨j, hj, rfl⟩ := List.mem_map.mp hk
    rw [List.mem_range] at hj
    obtain ⟨a, b, c, e⟩ := ed j hj
    refine ⟨by omega, a, b, c, ?_⟩
    rw [List.getElem?_append_right (by omega), show h.length + m + j - h.length = m + j by omega]
    exact e) (by
    refine List.nodup_iff_pairwise_ne.mpr ?_
    rw [List.pairwise_map]
    exact List.Pairwise.imp (fun hab => by omega) List.pairwise_lt_range)
  rw [List.map_map] at loop
  rw [show (fun k => D.ref (h.length + m + k)) = D.ref ∘ fun k => h.length + m + k from rfl] at loop
  refine ⟨h', ?_⟩
  have it : itL (h ++ L) (.ref (h.length + m + cells.length)) = some ((List.range cells.length).map fun k => D.ref (h.length + m + k), [(h.length + m + cells.length, .lst ((List.range cells.length).map fun k => D.ref (h.length + m + k)))]) := by
    show (match (h ++ L)[h.length + m + cells.length]? with
      | some (.lst ds) => some (ds, [(h.length + m + cells.length, O.lst ds)])
      | _ => none) = _
    rw [er]
  show (match lawOf most B (startE N [d]) h with
    | .next _ h' => R.ok D.non h'
    | .ret d h' => .ok d h'
    | .exn x _ h' => .exn x h'
    | _ => .bad) = _
  rw [hst]
  have v0 : mVar 0 (some d :: none :: List.replicate (N - 2) none) h = .ok d h := rfl
  simp only [lawOf, run_seq, run_for, run_itA, run_callF, run_lcons, run_lnil, run_C, v0, bind_ok, List.length_cons, List.length_nil, if_pos, run, it, oR, bindS_ok]
  rw [show (fun k => D.ref (h.length + m + k)) = D.ref ∘ fun k => h.length + m + k from rfl, loop]
  rfl
theorem fIx_int {h : Hm} {r : Nat} {ds : List D} {k : Int} {x : D} (e : h[r]? = some (.lst ds)) (hk : 0 ≤ k) (e2 : ds[k.toNat]? = some x) : fIx (.ref r) (.int k) h = .ok x h := by
  have := fIx_lst (j := k.toNat) e e2
  rwa [Int.toNat_of_nonneg hk] at this
theorem fSet_int {h : Hm} {r : Nat} {ds : List D} {k : Int} {y : D} (e : h[r]? = some (.lst ds)) (hk : 0 ≤ k) (hj : k.toNat < ds.length) : fSet (.ref r) (.int k) y h = some (h.set r (.lst (ds.set k.toNat y))) := by
  have := fSet_lst (y := y) e hj
  rwa [Int.toNat_of_nonneg hk] at this
/-- all that stood stands: the rest is new -/
theorem ext_app {h h' : Hm} (hl : h.length ≤ h'.length) (w : ∀ j, j < h.length → h'[j]? = h[j]?) : ∃ g, h' = h ++ g := by
  refine ⟨h'.drop h.length, ?_⟩
  apply List.ext_getElem?
  intro j
  by_cases hj : j < h.length
  · rw [w j hj, List.getElem?_append_left hj]
  · rw [List.getElem?_append_right (by omega), List.getElem?_drop]
    congr 1
    omega
section
variable {h : Hm} {r : Nat} {ds es : List D} {x y : D}
theorem isL_ok (e : h[r]? = some (.lst ds)) : isL h (.ref r) = true := by
  show (match h[r]? with
    | some (.lst _) => true
    | _ => false) = true
  rw [e]
theorem fAppend_ok (e : h[r]? = some (.lst ds)) (hl : ds.length < 16777216) : fAppend (.ref r) [y] h = .ok .non (h.set r (.lst (ds ++ [y]))) := by
  unfold fAppend
  simp only [e, if_pos hl]
theorem fLen_lst (e : h[r]? = some (.lst ds)) : fLen [.ref r] h = .ok (.int (ds.length : Int)) h := by
  unfold fLen
  simp only [lenD, e]
theorem itL_lst (e : h[r]? = some (.lst ds)) : itL h (.ref r) = some (ds, [(r, .lst ds)]) := by
  show (match h[r]? with
    | some (.lst ds) => some (ds, [(r, O.lst ds)])
    | _ => none) = _
  rw [e]
theorem fList_lst (e : h[r]? = some (.lst ds)) : fList [.ref r] h = .ok (.ref h.length) (h ++ [.lst ds]) := by
  unfold fList
  simp only [itemsD, e]
theorem fTuple_lst (e : h[r]? = some (.lst ds)) : fTuple [.ref r] h = .ok (.tup ds) h := by
  unfold fTuple
  simp only [itemsD, e]
end
def lcTurn (g : Gt) (t : Ev → Hm → R Bool) (e : Ev → Hm → R D) (env : Ev) (d : D) (h : Hm) : R (Option D) := match g d env h with
  | .next e1 h1 => (match t e1 h1 with
    | .ok true h2 => (match e e1 h2 with
      | .ok y h3 => .ok (some y) h3
      | _ => .bad)
    | .ok false h2 => .ok none h2
    | _ => .bad)
  | _ => .bad
def consO (o : Option D) (r : R (List D)) : R (List D) := match o with
  | some y => (match r with
    | .ok ys h4 => .ok (y :: ys) h4
    | _ => .bad)
  | none => r
theorem lcL_cons {gs : List (Nat × O)} {g : Gt} {t : Ev → Hm → R Bool} {e : Ev → Hm → R D} {env : Ev} {d : D} {ds : List D} {h h1 : Hm} {o : Option D} (hg : gdOk gs h = true) (e1 : lcTurn g t e env d h = .ok o h1) : lcL gs g t e env (d :: ds) h = consO o (lcL gs g t e env ds h1) := by
  unfold lcTurn at e1
  rw [lcL, if_pos hg]
  split at e1
  · rename_i e2 h2 q
    try rw [q]
    try simp only
    split at e1
    · rename_i h3 q2
      try rw [q2]
      try simp only
      split at e1
      · rename_i y h4 q3
        try rw [q3]
        cases e1
        rfl
      · cases e1
    · rename_i h3 q2
      try rw [q2]
      cases e1
      rfl
    · cases e1
  · cases e1
theorem lcL_pure {gs : List (Nat × O)} {g : Gt} {t : Ev → Hm → R Bool} {e : Ev → Hm → R D} {env : Ev} {h : Hm} (hg : gdOk gs h = true) {α : Type} (f : α → D) (y : α → Option D) : ∀ (xs : List α), (∀ a ∈ xs, lcTurn g t e env (f a) h = .ok (y a) h) → lcL gs g t e env (xs.map f) h = .ok (xs.filterMap y) h
  | [], _ => by simp [lcL, hg]
  | a :: xs, H => by
    have ih := lcL_pure hg f y xs fun b hb => H b (List.mem_cons_of_mem _ hb)
    rw [List.map_cons, lcL_cons hg (H a List.mem_cons_self), ih]
    cases q : y a with
    | none => rw [List.filterMap_cons_none q] <;> rfl
    | some z => rw [List.filterMap_cons_some q] <;> rfl
/-- [roll(dice, many) for t in ..] -/
theorem rolls_lc {i t : Nat} {many : Int} {env : Ev} (ht : t ≠ 1) (he : env[1]? = some (some (.ref i))) (m1 : 0 < many) (m2 : many < 1073741824) : ∀ (ds : List D) (h : Hm), IsDice h i → ∃ (vs : List Int) (h' : Hm), lcL [] (gN t) tYesM (mCallF 2 f_roll (mCons (mVar 1) (mCons (mC (.int many)) mNil))) env ds h = .ok (vs.map D.int) h' ∧ (∀ v ∈ vs, 0 ≤ v ∧ v < many) ∧ vs.length = ds.length ∧ IsDice h' i ∧ h'.length = h.length ∧ Fr i h h'
  | [], h, di => ⟨[], h, by simp [lcL, gdOk], fun v hv => (by cases hv), rfl, di, rfl, Fr.refl⟩
  | d :: ds, h, di => by
    obtain ⟨v, h1, v1, v2, run, d1, l1, f1⟩ := roll_fr di m1 m2
    obtain ⟨vs, h2, run2, b2, len2, d2, l2, f2⟩ := rolls_lc ht he m1 m2 ds h1 d1
    refine ⟨v :: vs, h2, ?_, fun u hu => ?_, by rw [List.length_cons, List.length_cons, len2], d2, l2.trans l1, f1.trans f2⟩
    · have e2 : (env.set t (some d))[1]? = some (some (.ref i)) := by rw [List.getElem?_set_ne ht]; exact he
      have tn : lcTurn (gN t) tYesM (mCallF 2 f_roll (mCons (mVar 1) (mCons (mC (.int many)) mNil))) env d h = .ok (some (.int v)) h1 := by
        simp [lcTurn, e2, run]
      rw [lcL_cons (by simp [gdOk]) tn, run2]
      rfl
    · rcases List.mem_cons.mp hu with rfl | hu
      · exact ⟨v1, v2⟩
      · exact b2 u hu
theorem fNe_t2 {h : Hm} {a b c e : Int} : fNe (.tup [.int a, .int b]) (.tup [.int c, .int e]) h = .ok (.bl (!(a == c && b == e))) h := by
  unfold fNe
  rw [if_neg (by show ¬ (false = true); simp)]
  simp [py, mapO, PyData.eqv, PyData.eqvAll]
theorem sm62_of {v : Int} (h1 : 0 ≤ v) (h2 : v < 1000000000) : sm62 v = true := by
  unfold sm62
  rw [decide_eq_true_eq]
  omega
theorem rng1_nat (n : Nat) : rng1 0 n = (List.range n).map fun k : Nat => D.int (0 + (k : Int)) := rfl
theorem rng1_len (lo : Int) (n : Nat) : (rng1 lo n).length = n := by simp [rng1]
theorem keep_app {h g : Hm} {r : Nat} {o : O} (e : h[r]? = some o) : (h ++ g)[r]? = some o := by
  rw [List.getElem?_append_left (List.getElem?_eq_some_iff.mp e).1]
  exact e
theorem IsDice.app {h g : Hm} {i : Nat} (d : IsDice h i) : IsDice (h ++ g) i := by
  obtain ⟨a, b, m, e⟩ := d
  exact ⟨a, b, m, keep_app e⟩
theorem IsDice.set {h : Hm} {i n : Nat} {o : O} (d : IsDice h i) (ne : n ≠ i) : IsDice (h.set n o) i := by
  obtain ⟨a, b, m, e⟩ := d
  exact ⟨a, b, m, by rw [List.getElem?_set_ne ne]; exact e⟩
theorem IsDice.lt {h : Hm} {i : Nat} (d : IsDice h i) : i < h.length := by
  obtain ⟨a, b, m, e⟩ := d
  exact (List.getElem?_eq_some_iff.mp e).1
theorem Fr.hi {i n : Nat} {h h' : Hm} {o : O} (f : Fr i h h') (hn : h.length ≤ n) : Fr i h (h'.set n o) := ⟨by rw [List.length_set]; exact f.1, fun j hj ne => by rw [List.getElem?_set_ne (by omega)]; exact f.2 j hj ne⟩
theorem Fr.app2 {i : Nat} {h h' g : Hm} (f : Fr i h h') : Fr i h (h' ++ g) := f.trans Fr.app
theorem get_new {h : Hm} {o : O} : (h ++ [o])[h.length]? = some o := by
  rw [List.getElem?_append_right (Nat.le_refl _), Nat.sub_self]
  rfl
theorem seq_next {sa sb : Ev → Hm → SR} {env e1 : Ev} {h h1 : Hm} {r : SR} (a : sa env h = .next e1 h1) (b : sb e1 h1 = r) : sSeq sa sb env h = r := by
  rw [run_seq, a]
  exact b
theorem lcL_grow {gs : List (Nat × O)} {g : Gt} {t : Ev → Hm → R Bool} {e : Ev → Hm → R D} {env : Ev} {h : Hm} (hg : ∀ w : Hm, gdOk gs (h ++ w) = true) {α : Type} (f : α → D) (y : α → Option D) : ∀ (xs : List α) (w : Hm), (∀ a ∈ xs, ∀ w : Hm, ∃ w' : Hm, lcTurn g t e env (f a) (h ++ w) = .ok (y a) (h ++ (w ++ w'))) → ∃ w' : Hm, lcL gs g t e env (xs.map f) (h ++ w) = .ok (xs.filterMap y) (h ++ (w ++ w'))
  | [], w, _ => ⟨[], by simp [lcL, hg w]⟩
  | a :: xs, w, H => by
    obtain ⟨w1, e1⟩ := H a List.mem_cons_self w
    obtain ⟨w2, e2⟩ := lcL_grow hg f y xs (w ++ w1) fun b hb => H b (List.mem_cons_of_mem _ hb)
    refine ⟨w1 ++ w2, ?_⟩
    rw [List.map_cons, lcL_cons (hg w) e1, e2]
    cases q : y a with
    | none => rw [List.filterMap_cons_none q, List.append_assoc] <;> rfl
    | some z => rw [List.filterMap_cons_some q, List.append_assoc] <;> rfl
theorem fSl_lst {h : Hm} {r : Nat} {ds : List D} (e : h[r]? = some (.lst ds)) (lo hi : Option Int) : fSl (.ref r) lo hi h = .ok (.ref h.length) (h ++ [.lst (cutD ds lo hi)]) := by
  unfold fSl
  simp only [e]
theorem sIx_nat {n k : Nat} (d : Nat) (hk : k ≤ n) : HT.sIx n d (some (k : Int)) = k := by
  unfold HT.sIx
  simp only
  split <;> omega
theorem cutD_nat {ds : List D} {a b : Nat} (h1 : a ≤ ds.length) (h2 : b ≤ ds.length) : cutD ds (some (a : Int)) (some (b : Int)) = (ds.drop a).take (b - a) := by
  unfold cutD
  rw [sIx_nat _ h1, sIx_nat _ h2]
theorem cutD_to {ds : List D} {b : Nat} (h2 : b ≤ ds.length) : cutD ds none (some (b : Int)) = ds.take b := by
  unfold cutD
  rw [sIx_nat _ h2]
  rfl
theorem fEq_nilD {h : Hm} {i j : Nat} {ds : List D} (hd : ∀ n : Nat, ∃ qs, mapO (py h (n + 1)) ds = some qs) (e : h[i]? = some (.lst ds)) (e2 : h[j]? = some (.lst [])) : fEq (.ref i) (.ref j) h = .ok (.bl ds.isEmpty) h := by
  obtain ⟨qs, q⟩ := hd 58
  unfold fEq
  rw [if_neg (by show ¬ (false = true); simp), py_ref e, py_ref e2, q]
  cases ds with
  | nil => cases q; rfl
  | cons a l =>
    cases qs with
    | nil =>
      unfold mapO at q
      split at q
      · split at q <;> cases q
      · cases q
    | cons b m => rfl
theorem lim_lt {n : Nat} (h : n ≤ 1000) : n < 16777216 := Nat.lt_of_le_of_lt h (by decide)
theorem lc_a {vs : List Nat} {m : Ev → Hm → R Itr} {g : Gt} {t : Ev → Hm → R Bool} {e : Ev → Hm → R D} {env : Ev} {h h1 h2 : Hm} {it : Itr} {ys : List D} (a : m env h = .ok it h1) (hl : it.1.length ≤ 16777216) (b : lcL it.2 g t e (wipeE env vs) it.1 h1 = .ok ys h2) : mLc vs m g t e env h = .ok (.ref h2.length) (h2 ++ [.lst ys]) := by
  rw [run_lc, a, bind_ok, if_pos hl, b]
theorem lim_le {n : Nat} (h : n ≤ 1000) : n ≤ 16777216 := Nat.le_trans h (by decide)
/-- a comprehension's run, put together -/
theorem lc_run {vs : List Nat} {m : Ev → Hm → R Itr} {g : Gt} {t : Ev → Hm → R Bool} {e : Ev → Hm → R D} {env : Ev} {h h1 h2 : Hm} {it : Itr} {ds ys : List D} {gs : List (Nat × O)} (a : m env h = .ok it h1) (hl : ds.length ≤ 1000) (b : lcL gs g t e (wipeE env vs) ds h1 = .ok ys h2) (e1 : it.1 = ds := by rfl) (e2 : it.2 = gs := by rfl) : mLc vs m g t e env h = .ok (.ref h2.length) (h2 ++ [.lst ys]) :=
  lc_a a (lim_le (by rw [e1]; exact hl)) (by rw [e1, e2]; exact b)
theorem rg1_runv {r : Ev → Hm → R (List D)} {env : Ev} {h h1 : Hm} {v : Int} (a : r env h = .ok [.int v] h1) (s : sm62 v = true) : mRg1 r env h = .ok (rng1 0 v.toNat, []) h1 := by
  rw [run_rg1, a, bind_ok]
  exact if_pos s
theorem rg1_run {r : Ev → Hm → R (List D)} {env : Ev} {h h1 : Hm} {n : Nat} (a : r env h = .ok [.int (n : Int)] h1) (hn : n ≤ 1000) : mRg1 r env h = .ok ((List.range n).map (fun k : Nat => D.int (0 + (k : Int))), []) h1 := by
  have q : ∀ v : Int, v = (n : Int) → r env h = .ok [.int v] h1 → mRg1 r env h = .ok ((List.range n).map (fun k : Nat => D.int (0 + (k : Int))), []) h1 := fun v e a => by
    have s : sm62 v = true := sm62_of (by omega) (by omega)
    have t : v.toNat = n := by omega
    rw [rg1_runv a s, t, rng1_nat]
  exact q _ rfl a
theorem asg_run {i : Nat} {m : Ev → Hm → R D} {env : Ev} {h h1 : Hm} {d : D} (a : m env h = .ok d h1) : sAsg (gN i) m env h = .next (env.set i (some d)) h1 := by
  rw [run_asg, a]
  rfl
/-- one turn of a loop that goes on -/
theorem forL_next {gs : List (Nat × O)} {g : Gt} {b : Ev → Hm → SR} {d : D} {ds : List D} {env e1 e2 : Ev} {h h1 h2 : Hm} {r : SR} (hg : gdOk gs h = true) (a : g d env h = .next e1 h1) (w : b e1 h1 = .next e2 h2) (k : forL gs g b ds e2 h2 = r) : forL gs g b (d :: ds) env h = r := by
  rw [forL, if_pos hg, a, only_next]
  simp only
  rw [w]
  exact k
theorem forL_nil {gs : List (Nat × O)} {g : Gt} {b : Ev → Hm → SR} {env : Ev} {h : Hm} (hg : gdOk gs h = true) : forL gs g b [] env h = .next env h := by
  rw [forL, if_pos hg]
theorem gdOk_nil {h : Hm} : gdOk [] h = true := rfl
theorem gdOk_one {h : Hm} {r : Nat} {o : O} (e : h[r]? = some o) : gdOk [(r, o)] h = true := by
  simp [gdOk, e]
theorem fIx_zero {h : Hm} {r : Nat} {d : D} {ds : List D} (e : h[r]? = some (.lst (d :: ds))) : fIx (.ref r) (.int 0) h = .ok d h := fIx_lst (j := 0) e rfl
theorem fPop_at {h : Hm} {r j : Nat} {ds : List D} {x : D} (e : h[r]? = some (.lst ds)) (e2 : ds[j]? = some x) (hl : ds.length ≤ 1000) : fPop (.ref r) [.int (j : Int)] h = .ok x (h.set r (.lst (ds.eraseIdx j))) := by
  have hj : j < ds.length := (List.getElem?_eq_some_iff.mp e2).1
  unfold fPop
  simp only [e, ixN_nat hj, e2, if_pos (lim_le hl)]
theorem fNe_nil {h : Hm} {i j : Nat} {cs : List Int} (e : h[i]? = some (.lst (cs.map D.int))) (e2 : h[j]? = some (.lst [])) : fNe (.ref i) (.ref j) h = .ok (.bl (!cs.isEmpty)) h := by
  unfold fNe
  rw [if_neg (by show ¬ (false = true); simp), py_ref e, py_ref e2, py_ints]
  cases cs <;> rfl
theorem seq_ret {sa sb : Ev → Hm → SR} {env : Ev} {h h1 : Hm} {d : D} (a : sa env h = .ret d h1) : sSeq sa sb env h = .ret d h1 := by
  rw [run_seq, a]
  rfl
theorem fNe_same {h : Hm} {i j : Nat} {ds : List D} {qs : List PyData} (q : mapO (py h 59) ds = some qs) (ok : PyData.canLay0 (.list qs) = true) (e : h[i]? = some (.lst ds)) (e2 : h[j]? = some (.lst ds)) : fNe (.ref i) (.ref j) h = .ok (.bl false) h := by
  have p1 : py h 60 (.ref i) = some (.list qs) := by rw [py_ref e, q]; rfl
  have p2 : py h 60 (.ref j) = some (.list qs) := by rw [py_ref e2, q]; rfl
  unfold fNe
  rw [if_neg (by show ¬ (false = true); simp), p1, p2]
  show R.ok (D.bl (!PyData.eqv (.list qs) (.list qs))) h = _
  rw [SeqAt.eqv_refl _ ok]
  rfl
end MM

namespace MM
open PySem L2

def tellL : List (Str × Str) → Str → Option Str
  | [], _ => none
  | (c, t) :: r, x => if x = c then some t else tellL r x
def mTold (cs : List (Str × Str)) (m : Ev → Hm → R D) : Ev → Hm → R D := fun env h => match m env h with
  | .exn x h1 => match tellL cs x.cls with
    | some t => .ok (.str t) h1
    | none => .bad
  | r => r
/-- what the clauses wish -/
def chainW (K : PySem.W.Frag) (Q : VK) : List (Value × Str) → Value → Hp → Prop
  | [], _, _ => False
  | (c, t) :: r, cls, H => ∃ b, PySem.W.exmOne K cls c = some b ∧ (b = true → Q (.str t) H) ∧ (b = false → chainW K Q r cls H)
def TToldM (K : PySem.W.Frag) (l : List (Value × Str)) : (XK → Hp → VK → Prop) → Hp → VK → Prop := fun tl H Q => tl (fun cls _ H' => chainW K Q l cls H') H Q
inductive Hds (mg : Str → Option Value) (sg : Scope) : List ExceptHandler → List (Value × Str) → Prop
  | nil : Hds mg sg [] []
  | cons {e ret : Str} {j : Nat} {p4 p5 p6 p7 : Pos} {CS : Addr} {hds : List ExceptHandler} {l : List (Value × Str)} (hge : sg.names.lookup e = some .globalImplicit) (hme : mg e = some (.ref CS)) (hde : (e == ("__debug__" : Str)) = false) (r : Hds mg sg hds l) :
      Hds mg sg (.ExceptHandler (some (.Name e p4)) none [.Return (some (.Constant (.str ret) j p5)) p6] p7 :: hds) ((.ref CS, ret) :: l)
def retT (ret : Str) : TS := fun D _ H => D.rt (.str ret) H
def hdsT (l : List (Value × Str)) : List (Value × (Addr → Value → Option Addr → TS)) := l.map fun p => (p.1, fun _ _ _ => retT p.2)
theorem hds_ok {X : Cx} {sg : Scope} (hs : X.env.scope = sg) {hds : List ExceptHandler} {l : List (Value × Str)} (h : Hds X.mg sg hds l) : HdsOk X hds (hdsT l) := by
  induction h with
  | nil => exact .nil
  | cons hge hme hde r ih =>
    refine HdsOk.cons ⟨?_, hde, .inl hme⟩ (fun a oe cls d pn _ _ => PSs.of (pss_one (ps_ret pe_str)) fun D σ H h => h) ih
    show X.env.scope.names.lookup _ = _
    rw [hs]
    exact hge
theorem wMany_of {K : PySem.W.Frag} {Wout : WX} {D : Ends} {cls : Value} {d : Option Addr} {σ : L2.St} {H : Hp} : ∀ {l : List (Value × Str)}, chainW K D.rt l cls H → wMany K Wout D (hdsT l) cls d σ H
  | [], h => h.elim
  | (c, t) :: r, ⟨b, e1, e2, e3⟩ => ⟨b, e1, fun hb _ _ => e2 hb, fun hb => wMany_of (e3 hb)⟩
theorem toldM_gives {X : Cx} {Ng : List Str} {x a q : Str} {sg : Scope} {g : Addr} {cdg : Value} {h₀ : ExceptHandler} {hds : List ExceptHandler} {l : List (Value × Str)} {p1 p2 p3 p8 : Pos} (hd : Hds X.mg sg (h₀ :: hds) l) (h0 : ∀ f : Addr, (L2.start Ng [V.ref f])[0]? = some (some (V.ref f))) :
    LamX.GivesTo X Ng x sg g cdg [.Try [.Return (some (.Call (.Name a p1) [] [] p2)) p3] (h₀ :: hds) [] [] p8] a q (TToldM X.K l) := by
  intro f c' s H Q tl act hc h
  refine ⟨_, pss_one (ps_try_many (X := (cxOf C8.CX0 X.prog X.w X.K X.mg X.base Ng x sg g cdg X.A X.stack s H C8.E0).nox)
      (tb := fun W D σ H => ∃ Ech : XK, (∀ cls d σ' H', Ech cls d H' → W cls d σ' H') ∧ σ[0]? = some (some (.ref f)) ∧ H c' = some (LamX.CodeO c' q) ∧ tl Ech H D.rt)
      rfl rfl LamX.takes0 (fun W pn xe tk _ => ?_) (hds_ok rfl hd)), ?_⟩
  · refine ⟨fun pins s' σ H' D I h' => ?_⟩
    obtain ⟨Ech, hW, h1, h2, h3⟩ := h'
    have hp := act W pn xe Ech p1 p2 tk hW
    have hq := pss_one (ps_ret (pos := p3) hp)
    exact hq.run pins s' σ H' D I ⟨h1, h2, h3⟩
  · exact ⟨fun cls _ H' => chainW X.K Q l cls H', fun cls d σ' H' z => wMany_of z, h0 f, hc, h⟩
/-- the def that tells -/
def ToldOk (K : PySem.W.Frag) (mg : Str → Option Value) (x : Str) (g : Addr) (cs : List (Str × Str)) : Prop :=
  ∃ (a : Str) (pg : Arguments) (p1 p2 p3 p8 : Pos) (h₀ : ExceptHandler) (hds : List ExceptHandler) (sg : Scope) (Ng : List Str) (l : List (Value × Str)) (fd : FuncData),
    FunD K x x pg [.Try [.Return (some (.Call (.Name a p1) [] [] p2)) p3] (h₀ :: hds) [] [] p8] sg [] [] g fd ∧ Binds K fd [a] [] ∧ FnScope Ng [a] sg ∧ Ng[0]? = some a ∧ Vis sg a ∧ Hds mg sg (h₀ :: hds) l ∧ (∀ f : Addr, (L2.start Ng [V.ref f])[0]? = some (some (V.ref f))) ∧
    (∀ c t, tellL cs c = some t → ∀ C, mg c = some (.ref C) → ∀ (Q : VK) (H : Hp), Q (.str t) H → chainW K Q l (.ref C) H) ∧ (a == ("__debug__" : Str)) = false ∧ (a == ("__classdict__" : Str)) = false
/-- the heap goes on, the tables have grown -/
theorem step_extN {G : Gx} {π : List Addr} {H H1 : Hp} {h : Hm} (e : LamX.ExtN H H1) : Step π H π H1 := ⟨⟨[], by simp⟩, fun _ _ _ q _ => q, fun a o h1 _ t => e a o h1 t, fun a o u h1 => e a _ h1 fun ps z => by cases z⟩
theorem Good.extN {G : Gx} {π : List Addr} {H H1 : Hp} {h : Hm} (g : Good G π h H) (e : LamX.ExtN H H1) (t : LamX.Tabs G.T H1) : Good G π h H1 := by
  refine ⟨g.len, g.nd, fun i a o e1 e2 => ?_, t, g.tout⟩
  have w := g.ob i a o e1 e2
  refine w.step (step_extN (G := G) (h := h) e) ?_
  cases o with
  | lst ds => obtain ⟨xs, z, _⟩ := w; rw [z]; exact e _ _ z (fun ps z => by cases z)
  | dic ds => obtain ⟨xs, z, _⟩ := w; rw [z]; exact e _ _ z (fun ps z => by cases z)
  | dicL ds => obtain ⟨o, xs, z, _⟩ := w; rw [z]; exact e _ _ z (fun ps z => by cases z)
  | ins c fs => obtain ⟨C, dx, xs, _, z, _⟩ := w; rw [z]; exact e _ _ z (fun ps z => by cases z)
section
variable {X : Cx} {T : List (Addr × Str)} {W : WX} {c P g : Addr} {x : Str} {cs : List (Str × Str)} {params : Arguments} {body : Expr} {scope : Scope} {p lpos pos : Pos} {k kx : Nat} {m : Ev → Hm → R D}
theorem em_told (hT : ToldOk X.K X.mg x g cs) (hg : Gl X x) (hm : X.mg x = some (.ref g)) (TB : LamX.TabB X.base X.mg c P) (hcode : X.env.code = .ref c) (hmT : (P, X.env.qual ++ "<lambda>") ∈ T) (hu : ∀ p ∈ T, p.1 = P → p.2 = X.env.qual ++ "<lambda>") (hr : Room kx X.A) (hk : k + 2 ≤ kx)
    (hbody : ∀ (A : Around) (outer : List Env) (s : Shared) (H : Hp) (E : XK) (f c' : Addr), Room k (LamX.lamCx X A outer s H E scope f c').A → Takes (LamX.lamCx X A outer s H E scope f c') (fun cls d _ H' => E cls d H') → Em (LamX.lamCx X A outer s H E scope f c') T (fun cls d _ H' => E cls d H') body m)
    (L : LamX.LamS X.env.scope scope := by exact LamX.lamS_by rfl) (hdef : defaultsOf params X.env = ([], []) := by rfl)
    (hbind : ∀ (q : Str) (cl : List (Str × Addr)) (pm cv ctv : Value), bindArgs (PySem.W.kla_fn "<lambda>" q params body scope cl pm cv ctv) ⟨[], []⟩ = pure [] := by intros; rfl)
    (hdb : (x == ("__debug__" : Str)) = false := by decide) : Em X T W (.Call (.Name x p) [.Lambda params body scope lpos] [] pos) (mTold cs m) := by
  obtain ⟨a, pg, p1, p2, p3, p8, h₀, hds, sg, Ng, l, fd, F, hb, Sg, hNg, hva, hd, h0, hcs, hd1, hd2⟩ := hT
  obtain ⟨oc, od, dV, kV, doc, pm, an, cdv, ct, osl, rfl, lk, hcd, _, _⟩ := F.ex
  refine PE.of (LamX.pe_lamcall (t := fun E => tE (gx X T) (fun cls d _ H' => E cls d H') m) hg hm F.kp lk hcd hb Sg hNg hva (toldM_gives hd h0) TB hcode hmT hu (hr.mono hk) L hdef hbind (fun A outer s H E f c' hr2 => hbody A outer s H E f c' hr2 (takes_of rfl rfl rfl rfl)) hdb hd1 hd2) fun σ H Q ⟨π, env, h, s, q⟩ => ⟨s.good.tabs, fun H1 eN T1 => ?_⟩
  have st : Step π H π H1 := step_extN (G := gx X T) (h := h) eN
  refine ⟨π, env, h, ⟨s.good.extN eN T1, s.env.step st⟩, ?_⟩
  unfold mTold at q
  generalize m env h = r at q ⊢
  cases r with
  | ok d h' => exact fun π' H' s' g' => q π' H' (st.trans s') g'
  | exn y h' =>
    simp only at q
    cases ht : tellL cs y.cls with
    | none => rw [ht] at q; exact q.elim
    | some t =>
      rw [ht] at q
      intro π' H' cls d s' g' e
      obtain ⟨C, hC, rfl, _⟩ := e
      exact hcs _ _ ht C hC Q H' (q π' H' (st.trans s') g' _ rfl)
  | bad => exact q.elim
end
section
variable {P : Program} {w : World} {K : PySem.W.Frag} {mg : Str → Option Value} {base : Heap} {T : List (Addr × Str)}
/-- a def whose code object is looked at -/
theorem def_mT {x qual : Str} {params : Arguments} {body : List Stmt} {scope : Scope} {p : He.Defn} {fd : FuncData} {N ps : List Str} {k : Nat} {m : Ev → Hm → SR} (F : FunD K x qual params body scope [] [] (He.fAd K p) fd) (S : FnScope N ps scope)
    (hb : ∀ (kV doc pm : Value) (an : Option Addr) (cdv ct : Value) (us : List Value), us.length = ps.length → bindArgs (PySem.W.fnOf x qual params body scope .none kV doc pm an cdv ct) ⟨us, []⟩ = pure (ps.zip us))
    (hbody : ∀ (cdv : Value) (hcd : cdv = .ref (He.cT K p).1) (A : Around) (outer : List Env) (s : Shared) (H : Hp) (E : XK), Room k (cxOf (L2.CX P w) P w K mg base N qual scope (He.fAd K p) cdv A outer s H E).A → Takes (cxOf (L2.CX P w) P w K mg base N qual scope (He.fAd K p) cdv A outer s H E) (fun cls d _ H' => E cls d H') →
      PassesOwn (model P w) (cxOf (L2.CX P w) P w K mg base N qual scope (He.fAd K p) cdv A outer s H E).A (cxOf (L2.CX P w) P w K mg base N qual scope (He.fAd K p) cdv A outer s H E).env (cxOf (L2.CX P w) P w K mg base N qual scope (He.fAd K p) cdv A outer s H E).xe →
      Ssm (cxOf (L2.CX P w) P w K mg base N qual scope (He.fAd K p) cdv A outer s H E) T (fun cls d _ H' => E cls d H') body m) :
    FunM P w K mg base T (k + 1) (He.fAd K p) ps.length (callM N.length ps.length m) := by
  refine ⟨⟨fd, ps, rfl, ?_, F.bindsN hb⟩, F.kp⟩
  obtain ⟨oc, od, dV, kV, doc, pm, an, cdv, ct, osl, rfl, lk, hcd, _, _⟩ := F.ex
  obtain ⟨cc, rfl⟩ := He.codeIn_ref hcd
  refine fn_of lk hcd S (fun vs H Q E ⟨π, h, ds, g, q, hl, _⟩ => by rw [q.len]; exact hl) fun A outer s H vs Q E hr ⟨π, h, ds, g, q, hl, p⟩ => ⟨_, hbody _ ?_ A outer s H E hr (takes_of rfl rfl rfl rfl) (passes_of rfl), ?_⟩
  · exact congrArg Value.ref (He.codeOf_eq lk rfl).symm
  · exact ⟨π, startE N.length ds, h, ⟨g, envOk_start q⟩, postS_fn p⟩
theorem def_okT {x qual : Str} {params : Arguments} {body : List Stmt} {scope : Scope} {p : He.Defn} {fd : FuncData} {N ps : List Str} {k : Nat} {m : Ev → Hm → SR} (F : FunD K x qual params body scope [] [] (He.fAd K p) fd) (S : FnScope N ps scope)
    (hbody : ∀ (cdv : Value) (hcd : cdv = .ref (He.cT K p).1) (A : Around) (outer : List Env) (s : Shared) (H : Hp) (E : XK), Room k (cxOf (L2.CX P w) P w K mg base N qual scope (He.fAd K p) cdv A outer s H E).A → Takes (cxOf (L2.CX P w) P w K mg base N qual scope (He.fAd K p) cdv A outer s H E) (fun cls d _ H' => E cls d H') →
      PassesOwn (model P w) (cxOf (L2.CX P w) P w K mg base N qual scope (He.fAd K p) cdv A outer s H E).A (cxOf (L2.CX P w) P w K mg base N qual scope (He.fAd K p) cdv A outer s H E).env (cxOf (L2.CX P w) P w K mg base N qual scope (He.fAd K p) cdv A outer s H E).xe →
      Ssm (cxOf (L2.CX P w) P w K mg base N qual scope (He.fAd K p) cdv A outer s H E) T (fun cls d _ H' => E cls d H') body m) :
    FnOk P w K mg base (L2.CX P w) (k + 1) (He.fAd K p) fd ps (spM ⟨K, mg, T⟩ (callM N.length ps.length m) ps.length) := by
  obtain ⟨oc, od, dV, kV, doc, pm, an, cdv, ct, osl, rfl, lk, hcd, _, _⟩ := F.ex
  obtain ⟨cc, rfl⟩ := He.codeIn_ref hcd
  refine fn_of lk hcd S (fun vs H Q E ⟨π, h, ds, g, q, hl, _⟩ => by rw [q.len]; exact hl) fun A outer s H vs Q E hr ⟨π, h, ds, g, q, hl, p⟩ => ⟨_, hbody _ ?_ A outer s H E hr (takes_of rfl rfl rfl rfl) (passes_of rfl), ?_⟩
  · exact congrArg Value.ref (He.codeOf_eq lk rfl).symm
  · exact ⟨π, startE N.length ds, h, ⟨g, envOk_start q⟩, postS_fn p⟩
/-- the tables' addresses and names -/
def tabT (K : PySem.W.Frag) (tf : List (He.Defn × Str)) : List (Addr × Str) := tf.map fun p => ((He.cT K p.1).2, p.2)
def tabNd (K : PySem.W.Frag) (tf : List (He.Defn × Str)) : Bool := decide ((tf.map fun p => (He.cT K p.1).2).Nodup)
theorem tab_mem {tf : List (He.Defn × Str)} {p : He.Defn × Str} (h : p ∈ tf) : ((He.cT K p.1).2, p.2) ∈ tabT K tf := List.mem_map.mpr ⟨p, h, rfl⟩
theorem tab_uniq {tf : List (He.Defn × Str)} (nd : tabNd K tf = true) {p : He.Defn × Str} (h : p ∈ tf) : ∀ q ∈ tabT K tf, q.1 = (He.cT K p.1).2 → q.2 = p.2 := fun q hq e => by
  obtain ⟨r, hr, rfl⟩ := List.mem_map.mp hq
  have nd' := of_decide_eq_true nd
  obtain ⟨i, hi, e1⟩ := List.mem_iff_getElem.mp h
  obtain ⟨j, hj, e2⟩ := List.mem_iff_getElem.mp hr
  have e3 : (tf.map fun p => (He.cT K p.1).2)[j]? = some (He.cT K p.1).2 := by
    rw [List.getElem?_map, List.getElem?_eq_getElem hj, e2]
    exact congrArg some e
  have e4 : (tf.map fun p => (He.cT K p.1).2)[i]? = some (He.cT K p.1).2 := by
    rw [List.getElem?_map, List.getElem?_eq_getElem hi, e1] <;> rfl
  have := nodup_ix' nd' e3 e4
  subst this
  rw [e1] at e2
  rw [← e2]
/-- the law with tables -/
theorem sp_lawT {G : Gx} {f : Fc} {n : Nat} (pl : PlainLaw f n) {ns : List Int} {a : Addr} {H : Hp} (hT : ∀ p ∈ G.T, H p.1 = some (.tbl #[])) (hl : ns.length ≤ n) (hS : SqL G.K H a (ns.map V.int)) : spM G f 1 [.ref a] H (fun v _ => v = .bl true) fun _ _ _ => False := by
  have go : ∀ π d h, Good G π h H → DV G.K π H d (.ref a) → Scr ns d h → spM G f 1 [.ref a] H (fun v _ => v = .bl true) fun _ _ _ => False := fun π d h g dv sc => by
    obtain ⟨h', e⟩ := pl ns d h hl sc
    refine ⟨π, h, [d], g, ⟨_, _, rfl, dv, rfl⟩, rfl, ?_⟩
    rw [e]
    intro π' H' s g' v e'
    exact e'
  have tb : LamX.Tabs G.T H := fun p hp => LamX.TabS.nil (hT p hp)
  have g0 : Good G [] [] H := ⟨rfl, List.nodup_nil, fun i a o e => (by cases e), tb, fun p hp => by simp⟩
  have g1 : H a = some (.lst (ns.map V.int)) → Good G [a] [.lst (ns.map D.int)] H := fun e => by
    refine ⟨rfl, by simp, fun i b o e1 e2 => ?_, tb, fun p hp m => ?_⟩
    · cases i with
      | zero =>
        cases e1
        cases e2
        exact ⟨_, e, DVs.ofInts⟩
      | succ i => cases e1
    · rw [List.mem_singleton] at m
      have := hT p hp
      rw [m, e] at this
      cases this
  rcases hS with (h | ⟨o, h⟩) | h
  · exact go [a] (.ref 0) [.lst (ns.map D.int)] (g1 h) ⟨a, rfl, rfl⟩ (.inr ⟨rfl, rfl⟩)
  · exact go [] (.rol (ns.map D.int)) [] g0 ⟨a, _, rfl, .inl ⟨o, h, by simp⟩, DVs.ofInts⟩ (.inl ⟨rfl, rfl⟩)
  · exact go [] (.rol (ns.map D.int)) [] g0 ⟨a, _, rfl, .inr h, DVs.ofInts⟩ (.inl ⟨rfl, rfl⟩)
theorem lawAtT {l : PySem.W.OpenLaw} {w : World} {K : PySem.W.Frag} {k n : Nat} {mg : Str → Option Value} {fa : Addr} {h : Heap} {f : Fc} {x qual : Str} {params : Arguments} {body : List Stmt} {scope : Scope} {fd : FuncData} {tf : List (He.Defn × Str)}
    (KX : K.In h) (hd : ∀ p ∈ tf.map (·.1), PySem.W.codeHdIn K (He.cT K p).1 (He.cT K p).2 = true) (out : ∀ p ∈ tf.map (·.1), K.lookup (He.cT K p).2 = none) (empty : ∀ p ∈ tf.map (·.1), h.get? (He.cT K p).2 = some { cls := .none, data := .fields #[] })
    (F : FunD K x qual params body scope [] [] fa fd) (hb : ∀ (kV doc pm : Value) (an : Option Addr) (cdv ct : Value) (us : List Value), us.length = (["script"] : List Str).length → bindArgs (PySem.W.fnOf x qual params body scope .none kV doc pm an cdv ct) ⟨us, []⟩ = pure ((["script"] : List Str).zip us))
    (pl : PlainLaw f n) (ok : ∀ base : Heap, K.In base → base.Ns mainGlobals mg → (∀ p ∈ tf, LamX.TabB base mg (He.cT K p.1).1 (He.cT K p.1).2) → FnOk l.prog w K mg base (L2.CX l.prog w) k fa fd ["script"] (spM ⟨K, mg, tabT K tf⟩ f 1)) : LamX.LawAtS l w K (L2.CX l.prog w) k n "script" mg fa h := by
  have b := FunD.bindsA (ps := ["script"]) F hb
  refine ⟨fd, tf.map fun p => He.cT K p.1, spM ⟨K, mg, tabT K tf⟩ f 1, fun p hp => ?_, fun p hp => ?_, fun p hp => ?_, fun s v => b s [v] rfl, fun H a ns hl _ hT hS => sp_lawT pl (fun p hp => ?_) hl hS, fun base h1 h2 h3 => ok base h1 h2 fun p hp => h3 _ (List.mem_map.mpr ⟨p, hp, rfl⟩)⟩
  · obtain ⟨q, hq, rfl⟩ := List.mem_map.mp hp
    exact empty _ (List.mem_map.mpr ⟨q, hq, rfl⟩)
  · obtain ⟨q, hq, rfl⟩ := List.mem_map.mp hp
    exact out _ (List.mem_map.mpr ⟨q, hq, rfl⟩)
  · obtain ⟨q, hq, rfl⟩ := List.mem_map.mp hp
    exact PySem.W.codeHd_of_K KX (hd _ (List.mem_map.mpr ⟨q, hq, rfl⟩))
  · obtain ⟨q, hq, rfl⟩ := List.mem_map.mp hp
    exact hT _ (List.mem_map.mpr ⟨q, hq, rfl⟩)
end
def tyN (h : Hm) : D → Option String
  | .non => some "NoneType"
  | .bl _ => some "bool"
  | .int _ => some "int"
  | .str _ => some "str"
  | .tup _ => some "tuple"
  | .rol _ => some "list"
  | .ref i => match h[i]? with
    | some (.lst _) => some "list"
    | some (.dic _) => some "dict"
    | _ => none
theorem tyN_ok {G : Gx} {π : List Addr} {h : Hm} {H : Hp} (g : Good G π h H) {d : D} {x : V} {t : String} (dx : DV G.K π H d x) (e : tyN h d = some t) : TyX G.K H x (.type t) := by
  cases d with
  | non => obtain rfl := (show x = _ from dx); cases e; exact .base .non
  | bl b => obtain rfl := (show x = _ from dx); cases e; exact .base (.bl b)
  | int b => obtain rfl := (show x = _ from dx); cases e; exact .base (.int b)
  | str b => obtain rfl := (show x = _ from dx); cases e; exact .base (.str b)
  | tup ds =>
    obtain ⟨a, xs, rfl, t, q⟩ := dx
    cases e
    rcases t with ⟨t, _⟩ | ⟨o, its, n, e1, e2, _⟩
    · exact .base (.tup t)
    · exact .kTuple e1 e2
  | rol ds =>
    obtain ⟨a, xs, rfl, t, q⟩ := dx
    cases e
    rcases t with ⟨o, t, _⟩ | ⟨o, its, n, e1, e2, _⟩
    · exact .base (.frz t)
    · exact .kList e1 e2
  | ref i =>
    obtain ⟨a, qa, rfl⟩ := dx
    have e' : (match h[i]? with
      | some (.lst _) => some "list"
      | some (.dic _) => some "dict"
      | _ => none) = some t := e
    split at e'
    · rename_i ds e0
      obtain ⟨xs, ha, ds'⟩ := g.lst e0 qa
      cases e'
      exact .base (.lst ha)
    · rename_i kvs e0
      obtain ⟨xs, ha, ds'⟩ := g.obj e0 qa
      cases e'
      exact .base (.dK ha)
    · cases e'
def isB (t n : String) : Bool := decide (t = n) || (decide (t = "bool") && decide (n = "int"))
def fIsi (n : String) (d : D) (h : Hm) : R D := match tyN h d with
  | some t => .ok (.bl (isB t n)) h
  | none => .bad
def mIsi (n : String) (m : Ev → Hm → R D) : Ev → Hm → R D := fun env h => (m env h).bind (fIsi n)
def kitAll (n : String) : Bool := ["NoneType", "bool", "int", "str", "tuple", "list", "dict"].all fun t => decide (kitB t n = some (isB t n))
theorem tyN_in {h : Hm} {d : D} {t : String} (e : tyN h d = some t) : t ∈ ["NoneType", "bool", "int", "str", "tuple", "list", "dict"] := by
  cases d with
  | ref i =>
    have e' : (match h[i]? with
      | some (.lst _) => some "list"
      | some (.dic _) => some "dict"
      | _ => none) = some t := e
    split at e' <;> cases e' <;> simp
  | _ => cases e; simp
theorem em_isi (n : String) {X : Cx} {T : List (Addr × Str)} {W : WX} {e : Expr} {me : Ev → Hm → R D} {c : Str} {pc pp pos : Pos} (hk : kitAll n = true) (hg : Gl X "isinstance") (hm : X.mg "isinstance" = none) (hgc : Gl X c) (hmc : X.mg c = none) (hvc : bootBuiltins c = some (.type n)) (ha : Em X T W e me)
    (hn : c ≠ "__name__" := by decide) (hdb : (c == ("__debug__" : Str)) = false := by decide)
    (he : starEach [e, .Name c pc] X.env = (false, eval e X.env) :: starEach [.Name c pc] X.env := by rfl) : Em X T W (.Call (.Name "isinstance" pp) [e, .Name c pc] [] pos) (mIsi n me) :=
  PE.of (pe_callB call_isi hg hm rfl (pa_cons ha (pa_cons (pe_bltn hgc hmc hvc (v := .ty n) rfl hn hdb) pa_nil rfl) he) (by decide) (by decide) he) fun σ H Q ⟨π, env, h, s, p⟩ => by
    refine ⟨π, env, h, s, p.bind.mono fun π1 H1 h1 d s1 g1 p1 x dx => ?_⟩
    unfold fIsi at p1
    cases q : tyN h1 d with
    | none => rw [q] at p1; exact p1.elim
    | some t =>
      rw [q] at p1
      have k := of_decide_eq_true (List.all_eq_true.mp hk t (tyN_in q))
      exact ⟨x, .ty n, .type t, .type n, isB t n, rfl, .ty n, tyN_ok g1 dx q, kit_ty k, p1 π1 H1 Step.refl g1 _ rfl⟩
theorem em_globI {X : Cx} {T : List (Addr × Str)} {W : WX} {x : Str} {i : Int} {pos : Pos} (hg : Gl X x) (hm : ∃ t, X.mg x = some (.int i t)) (hdb : (x == ("__debug__" : Str)) = false := by rfl) : Em X T W (.Name x pos) (mC (.int i)) := by
  obtain ⟨t, hm⟩ := hm
  exact em_glob (v := .int i) hg hm ⟨t, rfl⟩ (fun _ _ => rfl) hdb
theorem em_globS {X : Cx} {T : List (Addr × Str)} {W : WX} {x z : Str} {pos : Pos} (hg : Gl X x) (hm : ∃ t, X.mg x = some (.str z t)) (hdb : (x == ("__debug__" : Str)) = false := by rfl) : Em X T W (.Name x pos) (mC (.str z)) := by
  obtain ⟨t, hm⟩ := hm
  exact em_glob (v := .str z) hg hm ⟨t, rfl⟩ (fun _ _ => rfl) hdb
end MM

namespace MM
open PySem L2


/-- a call -/
theorem callM_ret {n p : Nat} {m : Ev → Hm → SR} {ds : List D} {h h1 : Hm} {d : D} (hl : ds.length = p) (e : m (startE n ds) h = .ret d h1) : callM n p m ds h = .ok d h1 := by
  unfold callM
  rw [if_pos hl, e]
theorem callM_next {n p : Nat} {m : Ev → Hm → SR} {ds : List D} {h h1 : Hm} {e1 : Ev} (hl : ds.length = p) (e : m (startE n ds) h = .next e1 h1) : callM n p m ds h = .ok .non h1 := by
  unfold callM
  rw [if_pos hl, e]
theorem callM_exn {n p : Nat} {m : Ev → Hm → SR} {ds : List D} {h h1 : Hm} {e1 : Ev} {x : Ex} (hl : ds.length = p) (e : m (startE n ds) h = .exn x e1 h1) : callM n p m ds h = .exn x h1 := by
  unfold callM
  rw [if_pos hl, e]
theorem call_ret {f : Fc} {n p : Nat} {m : Ev → Hm → SR} {ds : List D} {h h1 : Hm} {d : D} (ef : f = callM n p m) (hl : ds.length = p) (e : m (startE n ds) h = .ret d h1) : f ds h = .ok d h1 := by
  rw [ef]
  exact callM_ret hl e
theorem call_next {f : Fc} {n p : Nat} {m : Ev → Hm → SR} {ds : List D} {h h1 : Hm} {e1 : Ev} (ef : f = callM n p m) (hl : ds.length = p) (e : m (startE n ds) h = .next e1 h1) : f ds h = .ok .non h1 := by
  rw [ef]
  exact callM_next hl e
theorem call_exn {f : Fc} {n p : Nat} {m : Ev → Hm → SR} {ds : List D} {h h1 : Hm} {e1 : Ev} {x : Ex} (ef : f = callM n p m) (hl : ds.length = p) (e : m (startE n ds) h = .exn x e1 h1) : f ds h = .exn x h1 := by
  rw [ef]
  exact callM_exn hl e
theorem for_run {m : Ev → Hm → R Itr} {g : Gt} {b : Ev → Hm → SR} {env : Ev} {h h1 : Hm} {it : Itr} {r : SR} {ds : List D} {gs : List (Nat × O)} (a : m env h = .ok it h1) (w : forL gs g b ds env h1 = r) (e1 : it.1 = ds := by rfl) (e2 : it.2 = gs := by rfl) : sFor m g b env h = r := by
  unfold sFor
  rw [a]
  show forL it.2 g b it.1 env h1 = r
  rw [e1, e2]
  exact w
theorem seq_exn {sa sb : Ev → Hm → SR} {env e1 : Ev} {h h1 : Hm} {x : Ex} (a : sa env h = .exn x e1 h1) : sSeq sa sb env h = .exn x e1 h1 := by
  unfold sSeq
  rw [a]
  rfl
theorem told_ok {cs : List (Str × Str)} {m : Ev → Hm → R D} {env : Ev} {h h1 : Hm} {d : D} (a : m env h = .ok d h1) : mTold cs m env h = .ok d h1 := by
  unfold mTold
  rw [a]
theorem told_exn {cs : List (Str × Str)} {m : Ev → Hm → R D} {env : Ev} {h h1 : Hm} {x : Ex} {t : Str} (a : m env h = .exn x h1) (e : tellL cs x.cls = some t) : mTold cs m env h = .ok (.str t) h1 := by
  unfold mTold
  rw [a]
  simp only [e]
theorem rgc_run {n : Nat} {env : Ev} {h : Hm} (hn : n ≤ 1000) : mRg1 (mCons (mC (.int (n : Int))) mNil) env h = .ok ((List.range n).map (fun k : Nat => D.int (0 + (k : Int))), []) h := rg1_run rfl hn
/-- equal data -/
theorem fNe_py {h : Hm} {x y : D} {q : PyData} (a : py h 60 x = some q) (b : py h 60 y = some q) (c : PyData.canLay0 q = true) (f : flat2 x y = false := by rfl) : fNe x y h = .ok (.bl false) h := by
  unfold fNe
  rw [if_neg (by rw [f]; simp), a, b]
  show R.ok (D.bl (!PyData.eqv q q)) h = _
  rw [SeqAt.eqv_refl _ c]
  rfl
theorem fEq_py {h : Hm} {x y : D} {q : PyData} (a : py h 60 x = some q) (b : py h 60 y = some q) (c : PyData.canLay0 q = true) (f : flat2 x y = false := by rfl) : fEq x y h = .ok (.bl true) h := by
  unfold fEq
  rw [if_neg (by rw [f]; simp), a, b]
  show R.ok (D.bl (PyData.eqv q q)) h = _
  rw [SeqAt.eqv_refl _ c]
theorem lay_ints : ∀ l : List Int, PyData.canLayAll0 (l.map PyData.int) = true
  | [] => rfl
  | a :: l => by
    rw [List.map_cons]
    simp only [PyData.canLayAll0, lay_ints l]
    rfl
theorem py_rints {h : Hm} {r : Nat} {l : List Int} (e : h[r]? = some (.lst (l.map D.int))) : py h 60 (.ref r) = some (.list (l.map PyData.int)) := by
  rw [py_ref e, py_ints]
  rfl
theorem py_tints {h : Hm} {l : List Int} : py h 60 (.tup (l.map D.int)) = some (.tuple (l.map PyData.int)) := by
  show (mapO (py h 59) (l.map D.int)).map PyData.tuple = _
  rw [py_ints]
  rfl
theorem fNe_rints {h : Hm} {r s : Nat} {l : List Int} (a : h[r]? = some (.lst (l.map D.int))) (b : h[s]? = some (.lst (l.map D.int))) : fNe (.ref r) (.ref s) h = .ok (.bl false) h :=
  fNe_py (py_rints a) (py_rints b) (by simp only [PyData.canLay0]; exact lay_ints l)
theorem fNe_tints {h : Hm} {l : List Int} : fNe (.tup (l.map D.int)) (.tup (l.map D.int)) h = .ok (.bl false) h :=
  fNe_py py_tints py_tints (by simp only [PyData.canLay0]; exact lay_ints l)
end MM

namespace MM
open PySem L2

def Pu (m : Ev → Hm → R D) (env : Ev) (h : Hm) (P : Hm → D → Prop) : Prop := ∃ d g, m env h = .ok d (h ++ g) ∧ P (h ++ g) d
def Pt (m : Ev → Hm → R Bool) (env : Ev) (h : Hm) (b : Bool) : Prop := ∃ g, m env h = .ok b (h ++ g)
def Ps (m : Ev → Hm → SR) (env : Ev) (h : Hm) (e2 : Ev) : Prop := ∃ g, m env h = .next e2 (h ++ g)
def Is (x : D) : Hm → D → Prop := fun _ d => d = x
def IsL (ds : List D) : Hm → D → Prop := fun h d => ∃ r, d = .ref r ∧ h[r]? = some (.lst ds)
def Mono (P : Hm → D → Prop) : Prop := ∀ h g d, P h d → P (h ++ g) d
theorem mono_is {x : D} : Mono (Is x) := fun _ _ _ h => h
theorem mono_l {ds : List D} : Mono (IsL ds) := fun h g d ⟨r, e, q⟩ => ⟨r, e, keep_app q⟩
section
variable {a b c : Ev → Hm → R D} {env : Ev} {h : Hm} {d x y z : D} {P Q S : Hm → D → Prop} {f : F2} {ds es : List D} {i : Nat}
theorem pu_c : Pu (mC d) env h (Is d) := ⟨d, [], by rw [List.append_nil]; rfl, rfl⟩
theorem pu_varP (e : env[i]? = some (some d)) (p : P h d) : Pu (mVar i) env h P := ⟨d, [], by rw [List.append_nil, run_var, e], by rw [List.append_nil]; exact p⟩
theorem pu_var (e : env[i]? = some (some d)) : Pu (mVar i) env h (Is d) := pu_varP e rfl
theorem pu_varL {r : Nat} (e : env[i]? = some (some (.ref r))) (q : h[r]? = some (.lst ds)) : Pu (mVar i) env h (IsL ds) := pu_varP e ⟨r, rfl, q⟩
theorem pu_2 (ha : Pu a env h P) (hb : ∀ g, Pu b env (h ++ g) Q) (mp : Mono P) (w : ∀ h x y, P h x → Q h y → ∃ z g, f x y h = .ok z (h ++ g) ∧ S (h ++ g) z) : Pu (m2 f a b) env h S := by
  obtain ⟨x, g1, e1, p1⟩ := ha
  obtain ⟨y, g2, e2, p2⟩ := hb g1
  obtain ⟨z, g3, e3, p3⟩ := w _ x y (mp _ g2 _ p1) p2
  refine ⟨z, g1 ++ g2 ++ g3, ?_, ?_⟩
  · rw [run_m2, e1, bind_ok, e2, bind_ok, e3]
    simp
  · rw [show h ++ (g1 ++ g2 ++ g3) = h ++ g1 ++ g2 ++ g3 by simp]
    exact p3
theorem pu_op (ha : Pu a env h (Is x)) (hb : ∀ g, Pu b env (h ++ g) (Is y)) (w : ∀ h, f x y h = .ok z h) : Pu (m2 f a b) env h (Is z) :=
  pu_2 ha hb mono_is fun h x' y' e1 e2 => ⟨z, [], by rw [show x' = x from e1, show y' = y from e2, w, List.append_nil], rfl⟩
theorem pu_add (ha : Pu a env h (IsL ds)) (hb : ∀ g, Pu b env (h ++ g) (IsL es)) (l1 : ds.length ≤ 1000) (l2 : es.length ≤ 1000) : Pu (m2 fAdd a b) env h (IsL (ds ++ es)) :=
  pu_2 ha hb mono_l fun h x y ⟨r, e1, q1⟩ ⟨s, e2, q2⟩ => ⟨.ref h.length, [.lst (ds ++ es)], by
    rw [e1, e2]
    unfold fAdd
    simp only [q1, q2]
    rw [if_pos (Nat.le_trans (Nat.add_le_add l1 l2) (by decide))], ⟨h.length, rfl, get_new⟩⟩
theorem pu_rep {k : Nat} (ha : Pu a env h (IsL ds)) (hb : ∀ g, Pu b env (h ++ g) (Is (.int (k : Int)))) (l1 : ds.length ≤ 1000) (l2 : k ≤ 1000) : Pu (m2 fMul a b) env h (IsL (List.replicate k ds).flatten) :=
  pu_2 ha hb mono_l fun h x y ⟨r, e1, q1⟩ e2 => ⟨.ref h.length, [.lst (List.replicate k ds).flatten], by
    rw [e1, show y = _ from e2]
    unfold fMul
    simp only [q1]
    rw [if_pos ⟨by omega, by omega, by rw [Int.toNat_natCast]; exact Nat.le_trans (Nat.mul_le_mul l1 l2) (by decide)⟩, Int.toNat_natCast], ⟨h.length, rfl, get_new⟩⟩
theorem pu_ix {j : Nat} (ha : Pu a env h (IsL ds)) (hb : ∀ g, Pu b env (h ++ g) (Is (.int (j : Int)))) (e : ds[j]? = some z) : Pu (m2 fIx a b) env h (Is z) :=
  pu_2 ha hb mono_l fun h x y ⟨r, e1, q1⟩ e2 => ⟨z, [], by
    rw [e1, show y = _ from e2, fIx_lst q1 e, List.append_nil], rfl⟩
theorem pu_lst1 (ha : Pu a env h (Is x)) : Pu (mLst (mCons a mNil)) env h (IsL [x]) := by
  obtain ⟨x', g, e, p⟩ := ha
  obtain rfl := (show x' = x from p)
  refine ⟨.ref (h ++ g).length, g ++ [.lst [x']], ?_, ⟨_, rfl, by rw [← List.append_assoc]; exact get_new⟩⟩
  rw [run_lst, run_lcons, e, bind_ok, run_lnil, bind_ok, bind_ok, List.append_assoc]
theorem pu_lst0 : Pu (mLst mNil) env h (IsL []) := ⟨.ref h.length, [.lst []], rfl, ⟨_, rfl, get_new⟩⟩
theorem pu_to {k : Nat} (ha : Pu a env h (IsL ds)) (hb : ∀ g, Pu b env (h ++ g) (Is (.int (k : Int)))) (hk : k ≤ ds.length) : Pu (mSl a mNo (mSome b)) env h (IsL (ds.take k)) := by
  obtain ⟨x, g1, e1, ⟨r, rfl, q1⟩⟩ := ha
  obtain ⟨y, g2, e2, p2⟩ := hb g1
  obtain rfl := (show y = _ from p2)
  refine ⟨.ref (h ++ g1 ++ g2).length, g1 ++ g2 ++ [.lst (ds.take k)], ?_, ⟨_, rfl, by rw [show h ++ (g1 ++ g2 ++ [O.lst (ds.take k)]) = h ++ g1 ++ g2 ++ [O.lst (ds.take k)] by simp]; exact get_new⟩⟩
  rw [run_sl, e1, bind_ok, run_no, bind_ok, run_some, e2, bind_ok]
  show fSl (.ref r) none (some (k : Int)) (h ++ g1 ++ g2) = _
  rw [fSl_lst (keep_app q1), cutD_to hk]
  simp
theorem cutD_from {ds : List D} {k : Nat} (hk : k ≤ ds.length) : cutD ds (some (k : Int)) none = ds.drop k := by
  unfold cutD
  rw [sIx_nat _ hk]
  show (ds.drop k).take (ds.length - k) = _
  rw [List.take_of_length_le (by rw [List.length_drop]; exact Nat.le_refl _)]
theorem pu_from {k : Nat} (ha : Pu a env h (IsL ds)) (hb : ∀ g, Pu b env (h ++ g) (Is (.int (k : Int)))) (hk : k ≤ ds.length) : Pu (mSl a (mSome b) mNo) env h (IsL (ds.drop k)) := by
  obtain ⟨x, g1, e1, ⟨r, rfl, q1⟩⟩ := ha
  obtain ⟨y, g2, e2, p2⟩ := hb g1
  obtain rfl := (show y = _ from p2)
  refine ⟨.ref (h ++ g1 ++ g2).length, g1 ++ g2 ++ [.lst (ds.drop k)], ?_, ⟨_, rfl, by rw [show h ++ (g1 ++ g2 ++ [O.lst (ds.drop k)]) = h ++ g1 ++ g2 ++ [O.lst (ds.drop k)] by simp]; exact get_new⟩⟩
  rw [run_sl, e1, bind_ok, run_some, e2, bind_ok]
  show (R.ok (some (k : Int)) (h ++ g1 ++ g2)).bind (fun lo h2 => (mNo env h2).bind fun hi h3 => fSl (.ref r) lo hi h3) = _
  rw [bind_ok, run_no, bind_ok, fSl_lst (keep_app q1), cutD_from hk]
  simp
theorem pu_listT (ha : Pu a env h (Is (.tup ds))) : Pu (mCall fList (mCons a mNil)) env h (IsL ds) := by
  obtain ⟨x', g, e, p⟩ := ha
  obtain rfl := (show x' = _ from p)
  refine ⟨.ref (h ++ g).length, g ++ [.lst ds], ?_, ⟨_, rfl, by rw [← List.append_assoc]; exact get_new⟩⟩
  rw [run_call, run_lcons, e, bind_ok, run_lnil, bind_ok, bind_ok, ← List.append_assoc]
  rfl
theorem pu_tupL (ha : Pu a env h (IsL ds)) : Pu (mCall fTuple (mCons a mNil)) env h (Is (.tup ds)) := by
  obtain ⟨x', g, e, ⟨r, rfl, q⟩⟩ := ha
  refine ⟨.tup ds, g, ?_, rfl⟩
  rw [run_call, run_lcons, e, bind_ok, run_lnil, bind_ok, bind_ok]
  exact fTuple_lst q
theorem pu_call1 {fn : Fc} (ha : Pu a env h P) (w : ∀ h x, P h x → ∃ z g, fn [x] h = .ok z (h ++ g) ∧ S (h ++ g) z) : Pu (mCallF 1 fn (mCons a mNil)) env h S := by
  obtain ⟨x, g1, e1, p1⟩ := ha
  obtain ⟨z, g2, e2, p2⟩ := w _ x p1
  refine ⟨z, g1 ++ g2, ?_, by rw [← List.append_assoc]; exact p2⟩
  rw [run_callF, run_lcons, e1, bind_ok, run_lnil, bind_ok, bind_ok, if_pos (show [x].length = 1 from rfl), e2, List.append_assoc]
theorem pu_call2 {fn : Fc} (ha : Pu a env h P) (hb : ∀ g, Pu b env (h ++ g) Q) (mp : Mono P) (w : ∀ h x y, P h x → Q h y → ∃ z g, fn [x, y] h = .ok z (h ++ g) ∧ S (h ++ g) z) : Pu (mCallF 2 fn (mCons a (mCons b mNil))) env h S := by
  obtain ⟨x, g1, e1, p1⟩ := ha
  obtain ⟨y, g2, e2, p2⟩ := hb g1
  obtain ⟨z, g3, e3, p3⟩ := w _ x y (mp _ g2 _ p1) p2
  refine ⟨z, g1 ++ g2 ++ g3, ?_, by rw [show h ++ (g1 ++ g2 ++ g3) = h ++ g1 ++ g2 ++ g3 by simp]; exact p3⟩
  rw [run_callF, run_lcons, e1, bind_ok, run_lcons, e2, bind_ok, run_lnil, bind_ok, bind_ok, bind_ok, if_pos (show [x, y].length = 2 from rfl), e3]
  simp
/-- a builtin of one value -/
theorem pu_fn1 {fn : Fc} (ha : Pu a env h P) (w : ∀ h x, P h x → ∃ z g, fn [x] h = .ok z (h ++ g) ∧ S (h ++ g) z) : Pu (mCall fn (mCons a mNil)) env h S := by
  obtain ⟨x, g1, e1, p1⟩ := ha
  obtain ⟨z, g2, e2, p2⟩ := w _ x p1
  refine ⟨z, g1 ++ g2, ?_, by rw [← List.append_assoc]; exact p2⟩
  rw [run_call, run_lcons, e1, bind_ok, run_lnil, bind_ok, bind_ok, e2, List.append_assoc]
theorem pu_len (ha : Pu a env h (IsL ds)) : Pu (mCall fLen (mCons a mNil)) env h (Is (.int (ds.length : Int))) :=
  pu_fn1 ha fun h x ⟨r, e, q⟩ => ⟨_, [], by rw [e, fLen_lst q, List.append_nil], rfl⟩
/-- comparisons -/
theorem pt_bool {k : Bool} (ha : Pu a env h (Is (.bl k))) : Pt (mBool a) env h k := by
  obtain ⟨x', g, e, p⟩ := ha
  obtain rfl := (show x' = _ from p)
  exact ⟨g, by rw [run_bool, e, bind_ok]⟩
theorem pt_neL {l : List Int} (ha : Pu a env h (IsL (l.map D.int))) (hb : ∀ g, Pu b env (h ++ g) (IsL (l.map D.int))) : Pt (mBool (m2 fNe a b)) env h false :=
  pt_bool (pu_2 ha hb mono_l fun h x y ⟨r, e1, q1⟩ ⟨s, e2, q2⟩ => ⟨.bl false, [], by rw [e1, e2, fNe_rints q1 q2, List.append_nil], rfl⟩)
theorem pt_neT {l : List Int} (ha : Pu a env h (Is (.tup (l.map D.int)))) (hb : ∀ g, Pu b env (h ++ g) (Is (.tup (l.map D.int)))) : Pt (mBool (m2 fNe a b)) env h false :=
  pt_bool (pu_op ha hb fun h => fNe_tints)
theorem pt_neI {k : Int} (ha : Pu a env h (Is (.int k))) (hb : ∀ g, Pu b env (h ++ g) (Is (.int k))) : Pt (mBool (m2 fNe a b)) env h false :=
  pt_bool (pu_op ha hb fun h => by rw [fNe_i]; simp)
theorem pt_or {s t : Ev → Hm → R Bool} (hs : Pt s env h false) (ht : ∀ g, Pt t env (h ++ g) false) : Pt (mOr s t) env h false := by
  obtain ⟨g1, e1⟩ := hs
  obtain ⟨g2, e2⟩ := ht g1
  exact ⟨g1 ++ g2, by rw [run_or, e1, bind_ok, if_neg (by simp), e2, List.append_assoc]⟩
theorem ps_no {t : Ev → Hm → R Bool} {s : Ev → Hm → SR} (ht : Pt t env h false) : Ps (sIf t s sNil) env h env := by
  obtain ⟨g1, e1⟩ := ht
  exact ⟨g1, by rw [run_if, e1, bindS_ok, if_neg (by simp)]; rfl⟩
theorem ps_seq {s t : Ev → Hm → SR} {e1 e2 : Ev} (hs : Ps s env h e1) (ht : ∀ g, Ps t e1 (h ++ g) e2) : Ps (sSeq s t) env h e2 := by
  obtain ⟨g1, q1⟩ := hs
  obtain ⟨g2, q2⟩ := ht g1
  exact ⟨g1 ++ g2, seq_next q1 (by rw [q2, List.append_assoc])⟩
/-- a pure comprehension -/
theorem pu_lc {vs : List Nat} {m : Ev → Hm → R Itr} {g : Gt} {t : Ev → Hm → R Bool} {α : Type} {gs : List (Nat × O)} (fk : α → D) (yk : α → Option D) (xs : List α) (hx : xs.length ≤ 1000) (hm : ∃ g, m env h = .ok (xs.map fk, gs) (h ++ g) ∧ gdOk gs (h ++ g) = true)
    (w : ∀ g0 (k : α), k ∈ xs → lcTurn g t a (wipeE env vs) (fk k) (h ++ g0) = .ok (yk k) (h ++ g0)) : Pu (mLc vs m g t a) env h (IsL (xs.filterMap yk)) := by
  obtain ⟨g1, e1, ok⟩ := hm
  have R := lcL_pure (g := g) (t := t) (e := a) (env := wipeE env vs) ok fk yk xs (w g1)
  refine ⟨.ref (h ++ g1).length, g1 ++ [.lst (xs.filterMap yk)], ?_, ⟨_, rfl, by rw [← List.append_assoc]; exact get_new⟩⟩
  rw [← List.append_assoc]
  exact lc_run (vs := vs) (ds := xs.map fk) (gs := gs) (it := (xs.map fk, gs)) e1 (by rw [List.length_map]; exact hx) R
end
end MM

namespace MM
open PySem L2

def kD : Key → D
  | .inl i => .int i
  | .inr s => .str s
theorem kD_V {K : PySem.W.Frag} {π : List Addr} {H : Hp} (k : Key) : DV K π H (kD k) (kV k) := by
  cases k <;> rfl
/-- the locked dict at slot i -/
def mKeysL (i : Nat) : Ev → Hm → R Itr := fun env h => match env[i]? with
  | some (some (.ref r)) => match h[r]? with
    | some (.dicL kvs) => .ok (kvs.map fun p => kD p.1, [(r, .dicL kvs)]) h
    | _ => .bad
  | _ => .bad
theorem DPs.key {κ : Type} {K : PySem.W.Frag} {π : List Addr} {H : Hp} : ∀ {ps : List (κ × D)} {xs : List (κ × V)} {i : Nat} {k : κ} {v : V}, DPs K π H ps xs → xs[i]? = some (k, v) → ∃ d, ps[i]? = some (k, d)
  | [], _, i, k, v, h, e => by
    rw [show _ = [] from h] at e
    cases e
  | p :: ps, _, 0, k, v, ⟨w, vs, ev, h, q⟩, e => by
    rw [ev] at e
    cases e
    exact ⟨p.2, rfl⟩
  | p :: ps, _, i + 1, k, v, ⟨w, vs, ev, h, q⟩, e => by
    rw [ev] at e
    exact DPs.key (i := i) q e
theorem im_keysL (i : Nat) {X : Cx} {T : List (Addr × Str)} {W : WX} {tg : Expr} {x : Str} {pos : Pos} (he : Em X T W (.Name x pos) (mVar i)) : Im X T W tg (.Name x pos) (mKeysL i) := PI.of (pi_keys he) fun σ H Q ⟨π, env, h, s, p⟩ => by
  unfold mKeysL at p
  cases e0 : env[i]? with
  | none => rw [e0] at p; exact p.elim
  | some od =>
    cases od with
    | none => rw [e0] at p; exact p.elim
    | some d =>
      rw [e0] at p
      cases d with
      | ref r =>
        simp only at p
        cases e1 : h[r]? with
        | none => rw [e1] at p; exact p.elim
        | some o =>
          rw [e1] at p
          cases o with
          | dicL kvs =>
            simp only at p
            refine ⟨π, env, h, s, ?_⟩
            have mv : mVar i env h = .ok (.ref r) h := by
              rw [run_var, e0]
            rw [mv]
            intro π1 H1 s1 g1 v dv
            obtain ⟨a, qa, rfl⟩ := dv
            obtain ⟨oo, xs, ha, q⟩ := g1.obj e1 qa
            refine ⟨a, oo, rfl, .inl ⟨xs, ha, p π1 H1 s1 g1 _ ⟨fun j π h2 H2 s2 g2 e hi => ?_, fun j π h2 H2 s2 g2 e hi => ?_, fun j π h2 H2 x H' s2 g2 e hi y => ?_⟩⟩⟩
            · exact ⟨s2.frz _ _ _ ha, by rw [q.len]; simpa using hi⟩
            · exact ⟨s2.frz _ _ _ ha, by rw [q.len, hi]; simp⟩
            · obtain ⟨rfl, k, v, hk, rfl⟩ := y
              obtain ⟨d, hd⟩ := q.key hk
              exact ⟨Step.refl, g2, kD k, by rw [List.getElem?_map, hd] <;> rfl, kD_V k⟩
          | _ => exact p.elim
      | _ => exact p.elim
def unlS (r : Nat) (kvs : List (Key × D)) : SR → SR
  | .next e h => if h[r]? = some (.dicL kvs) then .next e (h.set r (.dic kvs)) else .bad
  | .ret d h => if h[r]? = some (.dicL kvs) then .ret d (h.set r (.dic kvs)) else .bad
  | _ => .bad
/-- a statement that walks the dict at slot i -/
def sLock (i : Nat) (m : Ev → Hm → SR) : Ev → Hm → SR := fun env h => match env[i]? with
  | some (some (.ref r)) => match h[r]? with
    | some (.dic kvs) => unlS r kvs (m env (h.set r (.dicL kvs)))
    | _ => .bad
  | _ => .bad
def unlE (r : Nat) (kvs : List (Key × D)) : R D → R D
  | .ok d h => if h[r]? = some (.dicL kvs) then .ok d (h.set r (.dic kvs)) else .bad
  | _ => .bad
def mLock (i : Nat) (m : Ev → Hm → R D) : Ev → Hm → R D := fun env h => match env[i]? with
  | some (some (.ref r)) => match h[r]? with
    | some (.dic kvs) => unlE r kvs (m env (h.set r (.dicL kvs)))
    | _ => .bad
  | _ => .bad
section
variable {G : Gx} {π π' : List Addr} {h h' : Hm} {H H' : Hp} {a : Addr} {r : Nat} {kvs : List (Key × D)} {xs : List (Key × V)} {od : Obj}
theorem lock_good (g : Good G π h H) (qa : π[r]? = some a) (ha : H a = some (.dK xs)) (q : DPs G.K π H kvs xs) : Step π H π (upd H a (.frz od (.dK xs))) ∧ Good G π (h.set r (.dicL kvs)) (upd H a (.frz od (.dK xs))) := by
  have nf := nfz ha fun _ _ z => (by cases z)
  have s : Step π H π (upd H a (.frz od (.dK xs))) := Step.put qa nf
  exact ⟨s, g.put qa nf ⟨od, xs, upd_same, q.step s _ _⟩⟩
/-- from before the lock to behind it -/
theorem unlock_step (ha : H a = some (.dK xs)) (qa : π[r]? = some a) (s : Step π (upd H a (.frz od (.dK xs))) π' H') : Step π H π' (upd H' a (.dK xs)) := by
  have ma := List.mem_of_getElem? qa
  refine ⟨s.ext, fun b o e n t => s.out b o (by rw [upd_ne (show b ≠ a from fun z => n (by rw [z]; exact ma))]; exact e) n t, fun b o e n t => ?_, fun b o u e => ?_⟩
  · have ne : b ≠ a := fun z => n (by rw [z]; exact ma)
    rw [upd_ne ne]
    exact s.keep b o (by rw [upd_ne ne]; exact e) n t
  · have ne : b ≠ a := fun z => by rw [z, ha] at e; cases e
    rw [upd_ne ne]
    exact s.frz b o u (by rw [upd_ne ne]; exact e)
theorem unlock_dv (n : π'[r]? = some a) (e : H' a = some (.frz od (.dK xs))) : ∀ {K : PySem.W.Frag}, StepV π' H' π' (upd H' a (.dK xs)) := fun {K} => by
  have ma := List.mem_of_getElem? n
  exact ⟨⟨[], by simp⟩, fun b ys h1 h2 => ⟨by rw [upd_ne (show b ≠ a from fun z => h2 (by rw [z]; exact ma))]; exact h1, h2⟩, fun b o ys h1 h2 => ⟨by rw [upd_ne (show b ≠ a from fun z => h2 (by rw [z]; exact ma))]; exact h1, h2⟩⟩
theorem unlock_good (g : Good G π' h' H') (qa : π'[r]? = some a) (e : h'[r]? = some (.dicL kvs)) (ha : H' a = some (.frz od (.dK xs))) : Good G π' (h'.set r (.dic kvs)) (upd H' a (.dK xs)) := by
  have s : StepV π' H' π' (upd H' a (.dK xs)) := unlock_dv (K := G.K) qa ha
  have hi : r < h'.length := (List.getElem?_eq_some_iff.mp e).1
  refine ⟨by rw [List.length_set]; exact g.len, g.nd, fun j b v e1 e2 => ?_, g.tabs_upd (.inr ⟨_, ha, fun ⟨ps, z⟩ => (by cases z), fun c q z => (by unfold LamX.CodeO at z; cases z)⟩), g.tout⟩
  by_cases hj : j = r
  · subst hj
    rw [qa] at e1
    cases e1
    rw [List.getElem?_set_self hi] at e2
    cases e2
    obtain ⟨oo, ys, hb, q⟩ := g.obj e qa
    rw [ha] at hb
    cases hb
    exact ⟨xs, upd_same, q.stepV s _ _⟩
  · rw [List.getElem?_set_ne (Ne.symm hj)] at e2
    have ne : b ≠ a := fun z => hj (nodup_ix' g.nd e1 (by rw [z]; exact qa))
    exact (g.ob j b v e1 e2).stepV s (upd_ne ne)
end
theorem sm_lock (i : Nat) {X : Cx} {T : List (Addr × Str)} {W : WX} {st : Stmt} {m : Ev → Hm → SR} (hm : Sm X T W st m) : Sm X T W st (sLock i m) := PS.of (ps_lock hm) fun D σ H ⟨π, env, h, s, p⟩ => by
  unfold sLock at p
  cases e0 : env[i]? with
  | none => rw [e0] at p; exact p.elim
  | some o1 =>
    cases o1 with
    | none => rw [e0] at p; exact p.elim
    | some d =>
      rw [e0] at p
      cases d with
      | ref r =>
        simp only at p
        cases e1 : h[r]? with
        | none => rw [e1] at p; exact p.elim
        | some o =>
          rw [e1] at p
          cases o with
          | dic kvs =>
            simp only at p
            obtain ⟨v, hv, a, qa, rfl⟩ := s.env.get i _ e0
            obtain ⟨xs, ha, q⟩ := s.good.obj e1 qa
            refine ⟨a, _, ha, trivial, fun od => ?_⟩
            obtain ⟨s1, g1⟩ := lock_good (od := od) s.good qa ha q
            refine ⟨π, env, _, ⟨g1, s.env.step s1⟩, ?_⟩
            generalize m env (h.set r (.dicL kvs)) = z at p ⊢
            cases z with
            | next e2 h2 =>
              intro π2 σ2 H2 s2 x2
              rw [show unlS r kvs (.next e2 h2) = (if h2[r]? = some (.dicL kvs) then .next e2 (h2.set r (.dic kvs)) else .bad) from rfl] at p
              by_cases hr : h2[r]? = some (.dicL kvs)
              · rw [if_pos hr] at p
                have qa2 := s2.get qa
                have f2 := s2.frz a od _ upd_same
                have sv := unlock_dv (K := X.K) qa2 f2
                refine ⟨f2, p π2 σ2 _ (unlock_step ha qa s2) ⟨unlock_good x2.good qa2 hr f2, ⟨x2.env.len, fun j d e => ?_⟩⟩⟩
                obtain ⟨v, h1, h2⟩ := x2.env.get j d e
                exact ⟨v, h1, h2.stepV sv _ _⟩
              · rw [if_neg hr] at p
                exact (show False from p).elim
            | ret d h2 =>
              intro π2 H2 v s2 g2 dv
              rw [show unlS r kvs (.ret d h2) = (if h2[r]? = some (.dicL kvs) then .ret d (h2.set r (.dic kvs)) else .bad) from rfl] at p
              by_cases hr : h2[r]? = some (.dicL kvs)
              · rw [if_pos hr] at p
                have qa2 := s2.get qa
                have f2 := s2.frz a od _ upd_same
                have sv := unlock_dv (K := X.K) qa2 f2
                exact ⟨f2, p π2 _ v (unlock_step ha qa s2) (unlock_good g2 qa2 hr f2) (dv.stepV sv _ _)⟩
              · rw [if_neg hr] at p
                exact (show False from p).elim
            | brk e2 h2 => exact (show False from p).elim
            | cont e2 h2 => exact (show False from p).elim
            | exn y e2 h2 => exact (show False from p).elim
            | bad => exact (show False from p).elim
          | _ => exact p.elim
      | _ => exact p.elim
theorem em_lock (i : Nat) {X : Cx} {T : List (Addr × Str)} {W : WX} {ex : Expr} {m : Ev → Hm → R D} (hm : Em X T W ex m) : Em X T W ex (mLock i m) := PE.of (pe_lock hm) fun σ H Q ⟨π, env, h, s, p⟩ => by
  unfold mLock at p
  cases e0 : env[i]? with
  | none => rw [e0] at p; exact p.elim
  | some o1 =>
    cases o1 with
    | none => rw [e0] at p; exact p.elim
    | some d =>
      rw [e0] at p
      cases d with
      | ref r =>
        simp only at p
        cases e1 : h[r]? with
        | none => rw [e1] at p; exact p.elim
        | some o =>
          rw [e1] at p
          cases o with
          | dic kvs =>
            simp only at p
            obtain ⟨v, hv, a, qa, rfl⟩ := s.env.get i _ e0
            obtain ⟨xs, ha, q⟩ := s.good.obj e1 qa
            refine ⟨a, _, ha, trivial, fun od => ?_⟩
            obtain ⟨s1, g1⟩ := lock_good (od := od) s.good qa ha q
            refine ⟨π, env, _, ⟨g1, s.env.step s1⟩, ?_⟩
            generalize m env (h.set r (.dicL kvs)) = z at p ⊢
            cases z with
            | ok d h2 =>
              intro π2 H2 s2 g2 v dv
              rw [show unlE r kvs (.ok d h2) = (if h2[r]? = some (.dicL kvs) then .ok d (h2.set r (.dic kvs)) else .bad) from rfl] at p
              by_cases hr : h2[r]? = some (.dicL kvs)
              · rw [if_pos hr] at p
                have qa2 := s2.get qa
                have f2 := s2.frz a od _ upd_same
                have sv := unlock_dv (K := X.K) qa2 f2
                exact ⟨f2, p π2 _ (unlock_step ha qa s2) (unlock_good g2 qa2 hr f2) v (dv.stepV sv _ _)⟩
              · rw [if_neg hr] at p
                exact (show False from p).elim
            | exn y h2 => exact (show False from p).elim
            | bad => exact (show False from p).elim
          | _ => exact p.elim
      | _ => exact p.elim

def lookB : List (Str × Bool) → Str → Option Bool
  | [], _ => none
  | (c, b) :: r, x => if x = c then some b else lookB r x
def noExn : SR → SR
  | .exn _ _ _ => .bad
  | r => r
def sTry (cs : List (Str × Bool)) (m hm : Ev → Hm → SR) : Ev → Hm → SR := fun env h => match m env h with
  | .exn x e h1 => match lookB cs x.cls with
    | some true => noExn (hm e h1)
    | some false => .exn x e h1
    | none => .bad
  | r => r
theorem sm_try {X : Cx} {T : List (Addr × Str)} {W : WX} {cs : List (Str × Bool)} {x : Str} {CS : Addr} {body suite : List Stmt} {b₀ : Stmt} {np pos pos' : Pos} {mb mh : Ev → Hm → SR} (hs : X.stack = X.env :: X.outer) (hf : X.env.frame = some X.env.locals) (hg : Gl X x) (hm : X.mg x = some (.ref CS)) (hdb : (x == ("__debug__" : Str)) = false) (tk : Takes X W)
    (hcs : ∀ c b, lookB cs c = some b → ∀ C, X.mg c = some (.ref C) → PySem.W.exmOne X.K (.ref C) (.ref CS) = some b)
    (hb : ∀ (W : WX) (pn : List (Addr × Obj)) (xe : Value → Shared → Prop), Takes (X.tr pn xe) W → PassesOwn (model X.prog X.w) X.A X.env xe → Ssm (X.tr pn xe) T W body mb)
    (hsu : ∀ (a : Addr) (pn : List (Addr × Obj)), Takes (X.suite a pn) WF → Ssm (X.suite a pn) T WF (b₀ :: suite) mh) :
    Sm X T W (.Try body [.ExceptHandler (some (.Name x np)) none (b₀ :: suite) pos'] [] [] pos) (sTry cs mb mh) :=
  PS.of (ps_try_only (c := .ref CS) (tb := fun W => tS (gx X T) W mb) (ts := fun _ _ _ => tS (gx X T) WF mh) hs hf ⟨hg, hdb, .inl hm⟩ tk (fun W pn xe tk hp => hb W pn xe tk hp) (fun a oe cls d pn _ _ => hsu a _ takes0)) fun D σ H ⟨π, env, h, s, p⟩ => by
    refine ⟨π, env, h, s, ?_⟩
    unfold sTry at p
    generalize mb env h = z at p ⊢
    cases z with
    | exn y e h1 =>
      intro π' σ' H' cls d s' x' ev
      simp only at p
      obtain ⟨C, hC, rfl, w⟩ := id ev
      cases q : lookB cs y.cls with
      | none => rw [q] at p; exact p.elim
      | some b =>
        rw [q] at p
        refine ⟨b, hcs _ _ q C hC, fun hb a _ => ?_, fun hb => ?_⟩
        · subst hb
          refine ⟨π', e, h1, x', ?_⟩
          have p' : PostS (gx X T) W D π H (noExn (mh e h1)) := p
          generalize mh e h1 = u at p' ⊢
          cases u with
          | exn _ _ _ => exact (show False from p').elim
          | next e2 h2 => exact fun π2 σ2 H2 s2 x2 => p' π2 σ2 H2 (s'.trans s2) x2
          | ret d h2 => exact fun π2 H2 v s2 x2 e => p' π2 H2 v (s'.trans s2) x2 e
          | brk e2 h2 => exact fun π2 σ2 H2 s2 x2 => p' π2 σ2 H2 (s'.trans s2) x2
          | cont e2 h2 => exact fun π2 σ2 H2 s2 x2 => p' π2 σ2 H2 (s'.trans s2) x2
          | bad => exact p'
        · subst hb
          exact p π' σ' H' _ d s' x' ev
    | _ => exact p

def pairD : D → Option (Key × D)
  | .tup [k, v] => (keyD k).map fun k => (k, v)
  | _ => none
def fDict : Fc := fun ds h => match ds with
  | [.ref r] => match h[r]? with
    | some (.lst xs) => match mapO pairD xs with
      | some kvs => .ok (.ref h.length) (h ++ [.dic (kvs.foldl (fun c p => putDK c p.1 p.2) [])])
      | none => .bad
    | _ => .bad
  | _ => .bad
theorem pairs_V {K : PySem.W.Frag} {π : List Addr} {H : Hp} : ∀ {ds : List D} {xs : List V} {kvs : List (Key × D)}, DVs K π H ds xs → mapO pairD ds = some kvs → ∃ (ps : List Addr) (vs : List (Key × V)), xs = ps.map V.ref ∧ Paired (fun p kv => SqT K H p [kV kv.1, kv.2]) ps vs ∧ DPs K π H kvs vs
  | [], _, _, h, e => by
    cases e
    exact ⟨[], [], h, .nil, rfl⟩
  | d :: ds, _, kvs, ⟨v, ws, ev, dv, q⟩, e => by
    unfold mapO at e
    cases e1 : pairD d with
    | none => rw [e1] at e; cases e
    | some kv =>
      cases e2 : mapO pairD ds with
      | none => rw [e1, e2] at e; cases e
      | some r =>
        rw [e1, e2] at e
        cases e
        obtain ⟨ps, vs, rfl, pr, dp⟩ := pairs_V q e2
        unfold pairD at e1
        split at e1
        · rename_i k x
          obtain ⟨a, ys, rfl, t, w1, ws1, rfl, d1, w2, ws2, rfl, d2, e5⟩ := dv
          obtain rfl := (show ws2 = [] from e5)
          cases ek : keyD k with
          | none => rw [ek] at e1; cases e1
          | some κ =>
            rw [ek] at e1
            cases e1
            obtain rfl := keyD_V ek d1
            exact ⟨a :: ps, (κ, w2) :: vs, ev, .cons t.sq pr, w2, vs, rfl, d2, dp⟩
        · cases e1
theorem merge_V {K : PySem.W.Frag} {π : List Addr} {H : Hp} : ∀ {kvs : List (Key × D)} {vs : List (Key × V)} {c : List (Key × D)} {w : List (Key × V)}, DPs K π H kvs vs → DPs K π H c w → DPs K π H (kvs.foldl (fun c p => putDK c p.1 p.2) c) (mergeK w vs)
  | [], _, _, _, h, q => by rw [show _ = [] from h]; exact q
  | p :: ps, _, c, w, ⟨v, vs, e, d, q⟩, r => by
    rw [e]
    show DPs K π H (ps.foldl (fun c p => putDK c p.1 p.2) (putDK c p.1 p.2)) (mergeK (putK w p.1 v) vs)
    exact merge_V q (r.putK d)
theorem oc_dict {G : Gx} : OpC G (fun xs H Q => ∃ (a : Addr) (ps : List Addr) (kvs : List (Key × V)), xs = [.ref a] ∧ SqL G.K H a (ps.map V.ref) ∧ Paired (fun p kv => SqT G.K H p [kV kv.1, kv.2]) ps kvs ∧ ∀ p, H p = none → Q (.ref p) (upd H p (.dK (mergeK [] kvs)))) fDict := by
  intro W π σ h H ds xs Q g dx p
  unfold fDict at p
  split at p
  · obtain ⟨v, vs, rfl, ⟨a, qa, rfl⟩, e⟩ := dx
    obtain rfl := (show vs = [] from e)
    split at p
    · rename_i ys e0
      obtain ⟨zs, ha, q⟩ := g.lst e0 qa
      split at p
      · rename_i kvs e1
        obtain ⟨ps, ws, rfl, pr, dp⟩ := pairs_V q e1
        refine ⟨a, ps, ws, rfl, SqL.of ha, pr, fun b n => ?_⟩
        have st := Step.new (a := b) (u := .dK (mergeK [] ws)) g n
        refine p (π ++ [b]) _ st (g.new (o := .dic _) n ⟨_, upd_same, (merge_V (c := []) (w := []) dp rfl).step st _ _⟩) _ ⟨b, ?_, rfl⟩
        rw [List.getElem?_append_right (by rw [g.len]; exact Nat.le_refl _), g.len, Nat.sub_self] <;> rfl
      · exact p.elim
    · exact p.elim
  · exact p.elim
theorem em_dict {X : Cx} {T : List (Addr × Str)} {W : WX} {e : Expr} {mr : Ev → Hm → R (List D)} {p pos : Pos} (hc : X.calm = true) (hg : Gl X "dict") (hm : X.mg "dict" = none) (ha : Am X T W [e] mr) (he : starEach [e] X.env = (false, eval e X.env) :: starEach [] X.env := by rfl) (hpl : (backTo pos (starEach [] X.env)).any (·.1) = false := by rfl) : Em X T W (.Call (.Name "dict" p) [e] [] pos) (mCall fDict mr) :=
  em_callTy (call_dictP hc) oc_dict hg hm ha rfl (by decide) (by decide) he hpl
end MM

namespace MM
open PySem L2
section
variable {cs : List Str} {s c cn m : Str} {a mo : Ev → Hm → R D} {mr : Ev → Hm → R (List D)} {env : Ev} {h h1 h2 h3 : Hm} {P p : Nat} {fs fs' : List (Str × D)} {d x y z v : D} {ds : List D} {fn : Fc} {fo : F2}
theorem fld_run (e : a env h = .ok (.ref P) h1) (eP : h1[P]? = some (.ins c fs)) (hc : c ∈ cs) (l : fs.lookup s = some d) : mFld cs s a env h = .ok d h1 := by
  rw [run_fld, e, bind_ok]
  simp only [eP, if_pos hc, l]
theorem meth_run (e : mo env h = .ok (.ref P) h1) (eP : h1[P]? = some (.ins cn fs)) (l : fs.lookup m = none) (er : mr env h1 = .ok ds h2) (hl : ds.length + 1 = p) : mMethF cn m p fn mo mr env h = fn (.ref P :: ds) h2 := by
  rw [run_methF, e, bind_ok]
  simp only [eP]
  rw [if_pos ⟨trivial, l⟩, er, bind_ok, if_pos hl]
theorem fldA_run (e : mo env h = .ok (.ref P) h1) (eP : h1[P]? = some (.ins c fs)) (hc : c ∈ cs) (l : fs.lookup s = some v) (ea : a env h1 = .ok y h2) (ef : fo v y h2 = .ok z h3) (eP' : h3[P]? = some (.ins c fs')) (hl : fs'.length < 1000) :
    sFldA cs s fo mo a env h = .next env (h3.set P (.ins c (putD s z fs'))) := by
  rw [run_fldA, e, bindS_ok]
  simp only [eP, if_pos hc, l, ea, bindS_ok, ef, eP']
  rw [if_pos ⟨trivial, hl⟩]
theorem setF_run (eP : h[P]? = some (.ins c fs)) (hc : c ∈ cs) (hl : fs.length < 1000) : setF cs s (.ref P) y h = some (h.set P (.ins c (putD s y fs))) := by
  unfold setF
  simp only [eP]
  rw [if_pos ⟨hc, hl⟩]
theorem fldM_run (ea : a env h = .ok y h1) (e : mo env h1 = .ok (.ref P) h2) (eP : h2[P]? = some (.ins c fs)) (hc : c ∈ cs) (hl : fs.length < 1000) : sFldM cs s mo a env h = .next env (h2.set P (.ins c (putD s y fs))) := by
  rw [run_fldM, ea, bindS_ok, e, bindS_ok, setF_run eP hc hl]
theorem var_run {i : Nat} (e : env[i]? = some (some d)) : mVar i env h = .ok d h := by rw [run_var, e]
end
theorem forL_cont {gs : List (Nat × O)} {g : Gt} {b : Ev → Hm → SR} {d : D} {ds : List D} {env e1 e2 : Ev} {h h1 h2 : Hm} {r : SR} (hg : gdOk gs h = true) (a : g d env h = .next e1 h1) (w : b e1 h1 = .cont e2 h2) (k : forL gs g b ds e2 h2 = r) : forL gs g b (d :: ds) env h = r := by
  rw [forL, if_pos hg, a]
  simp only [only_next, w]
  exact k
end MM

namespace MM
open PySem L2

/-- the items are laid at the end of the list at r -/
def lcP (r : Nat) (gs : List (Nat × O)) (g : Gt) (t : Ev → Hm → R Bool) (e : Ev → Hm → R D) (env : Ev) : List D → Hm → R Unit
  | [], h => if gdOk gs h = true then .ok () h else .bad
  | d :: ds, h => if gdOk gs h = true then (match g d env h with
      | .next e1 h1 => (match t e1 h1 with
        | .ok true h2 => (match e e1 h2 with
          | .ok y h3 => (match h3[r]? with
            | some (.lst acc) => if acc.length < 16777216 then lcP r gs g t e env ds (h3.set r (.lst (acc ++ [y]))) else .bad
            | _ => .bad)
          | _ => .bad)
        | .ok false h2 => lcP r gs g t e env ds h2
        | _ => .bad)
      | _ => .bad) else .bad
def lcO (r : Nat) (vs1 : List Nat) (gs : List (Nat × O)) (g : Gt) (t : Ev → Hm → R Bool) (m1 : Ev → Hm → R Itr) (g1 : Gt) (t1 : Ev → Hm → R Bool) (e : Ev → Hm → R D) (env : Ev) : List D → Hm → R Unit
  | [], h => if gdOk gs h = true then .ok () h else .bad
  | d :: ds, h => if gdOk gs h = true then (match g d env h with
      | .next e1 h1 => (match t e1 h1 with
        | .ok true h2 => (match m1 e1 h2 with
          | .ok it h3 => (match lcP r it.2 g1 t1 e (wipeE e1 vs1) it.1 h3 with
            | .ok _ h4 => lcO r vs1 gs g t m1 g1 t1 e env ds h4
            | _ => .bad)
          | _ => .bad)
        | .ok false h2 => lcO r vs1 gs g t m1 g1 t1 e env ds h2
        | _ => .bad)
      | _ => .bad) else .bad
def mLc2 (vs vs1 : List Nat) (m : Ev → Hm → R Itr) (g : Gt) (t : Ev → Hm → R Bool) (m1 : Ev → Hm → R Itr) (g1 : Gt) (t1 : Ev → Hm → R Bool) (e : Ev → Hm → R D) : Ev → Hm → R D := fun env h => (m env h).bind fun it h1 => match lcO h1.length vs1 it.2 g t m1 g1 t1 e (wipeE env vs) it.1 (h1 ++ [.lst []]) with
  | .ok _ h2 => .ok (.ref h1.length) h2
  | _ => .bad
theorem lc2_of {G : Gx} {W : WX} {vs vs1 : List Nat} {m m1 : Ev → Hm → R Itr} {g g1 : Gt} {t t1 : Ev → Hm → R Bool} {e : Ev → Hm → R D} {σ : L2.St} {H : Hp} {Q : VK} (p : tE G W (mLc2 vs vs1 m g t m1 g1 t1 e) σ H Q) : tLc2 (tI G W m) (tGw G WF vs g) (tB' G WF t) (tI G WF m1) (tGw G WF vs1 g1) (tB' G WF t1) (tE G WF e) vs vs1 σ H Q := by
  obtain ⟨π, env, h, s, p⟩ := p
  refine ⟨π, env, h, s, p.bind.mono fun π1 H1 h1 it s1 gd1 p1 J w P hP => ?_⟩
  have stN : Step π1 H1 (π1 ++ [P]) (upd H1 P (.lst [])) := Step.new gd1 hP
  have gdN : Good G (π1 ++ [P]) (h1 ++ [.lst []]) (upd H1 P (.lst [])) := gd1.new hP ⟨[], upd_same, rfl⟩
  have aP : (π1 ++ [P])[h1.length]? = some P := by
    rw [List.getElem?_append_right (by rw [gd1.len]; exact Nat.le_refl _), gd1.len, Nat.sub_self] <;> rfl
  cases hr : lcO h1.length vs1 it.2 g t m1 g1 t1 e (wipeE env vs) it.1 (h1 ++ [.lst []]) with
  | exn x h' => rw [hr] at p1; exact p1.elim
  | bad => rw [hr] at p1; exact p1.elim
  | ok u hF =>
    rw [hr] at p1
    have p1' : Post G W π1 σ H1 (R.ok (D.ref h1.length) hF) (fun π' H' _ d => ∀ v, DV G.K π' H' d v → Q v H') := p1
    generalize h1.length = r0 at hr p1' aP
    have eW : EnvOk G (π1 ++ [P]) (upd H1 P (.lst [])) (wipeE env vs) (wipe σ vs) := ((s.env.step s1).wipe vs).step stN
    refine ⟨fun i n H' => i + n = it.1.length ∧ ∃ π' h', Step (π1 ++ [P]) (upd H1 P (.lst [])) π' H' ∧ Good G π' h' H' ∧ lcO r0 vs1 it.2 g t m1 g1 t1 e (wipeE env vs) (it.1.drop i) h' = .ok u hF,
      ⟨it.1.length, by simp, _, _, Step.refl, gdN, by rw [List.drop_zero]; exact hr⟩, ?_⟩
    rintro i n H2 ⟨hin, π2, h2, st2, g2, run⟩
    have st12 : Step π1 H1 π2 H2 := stN.trans st2
    by_cases hi : i < it.1.length
    · rw [List.drop_eq_getElem_cons hi] at run
      unfold lcO at run
      by_cases hk : gdOk it.2 h2 = true
      · rw [if_pos hk] at run
        refine .inr ⟨w.go i π2 h2 H2 st12 g2 hk hi, fun H' => (i + 1) + (n - 1) = it.1.length ∧ ∃ π' h', Step (π1 ++ [P]) (upd H1 P (.lst [])) π' H' ∧ Good G π' h' H' ∧ lcO r0 vs1 it.2 g t m1 g1 t1 e (wipeE env vs) (it.1.drop (i + 1)) h' = .ok u hF, fun H' z => ⟨n - 1, by omega, z⟩, fun x H' y => ?_⟩
        obtain ⟨s3, g3, d, ed, dv⟩ := w.yld i π2 h2 H2 x H' st12 g2 hk hi y
        rw [List.getElem?_eq_getElem hi] at ed
        cases ed
        refine ⟨π2, wipeE env vs, h2, _, ⟨g3, (eW.step st2).step s3⟩, dv, ?_⟩
        generalize g (it.1[i]) (wipeE env vs) h2 = z at run ⊢
        cases z with
        | next e4 h4 =>
          intro π4 σ4 H4 s4 x4 hw4
          have hw4' : wipe σ4 vs = wipe σ vs := hw4.trans (wipe_wipe fun v hv => hv)
          refine ⟨hw4', π4, e4, h4, x4, ?_⟩
          simp only at run
          cases ht : t e4 h4 with
          | exn x h' => rw [ht] at run; cases run
          | bad => rw [ht] at run; cases run
          | ok k h5 =>
            rw [ht] at run
            intro π5 H5 s5 g5
            have s25 := (s3.trans s4).trans s5
            cases k with
            | false => exact iteF ⟨by omega, π5, h5, st2.trans s25, g5, run⟩
            | true =>
              refine iteT ⟨π5, e4, h5, x4.step s5 g5, ?_⟩
              simp only at run
              cases hm1 : m1 e4 h5 with
              | exn x h' => rw [hm1] at run; cases run
              | bad => rw [hm1] at run; cases run
              | ok it1 h6 =>
                rw [hm1] at run
                simp only at run
                cases hin1 : lcP r0 it1.2 g1 t1 e (wipeE e4 vs1) it1.1 h6 with
                | exn x h' => rw [hin1] at run; cases run
                | bad => rw [hin1] at run; cases run
                | ok u1 h7 =>
                  rw [hin1] at run
                  simp only at run
                  intro π6 H6 s6 g6 J1 w1
                  have s26 := s25.trans s6
                  have eV : EnvOk G π6 H6 (wipeE e4 vs1) (wipe σ4 vs1) := (((x4.env.step s5).step s6)).wipe vs1
                  refine ⟨fun j k H' => j + k = it1.1.length ∧ ∃ π' h', Step π6 H6 π' H' ∧ Good G π' h' H' ∧ lcP r0 it1.2 g1 t1 e (wipeE e4 vs1) (it1.1.drop j) h' = .ok u1 h7,
                    ⟨it1.1.length, by simp, π6, h6, Step.refl, g6, by rw [List.drop_zero]; exact hin1⟩, ?_⟩
                  rintro j k H8 ⟨hjk, π8, h8, st8, g8, run8⟩
                  by_cases hj : j < it1.1.length
                  · rw [List.drop_eq_getElem_cons hj] at run8
                    unfold lcP at run8
                    by_cases hk8 : gdOk it1.2 h8 = true
                    · rw [if_pos hk8] at run8
                      refine .inr ⟨w1.go j π8 h8 H8 st8 g8 hk8 hj, fun H' => (j + 1) + (k - 1) = it1.1.length ∧ ∃ π' h', Step π6 H6 π' H' ∧ Good G π' h' H' ∧ lcP r0 it1.2 g1 t1 e (wipeE e4 vs1) (it1.1.drop (j + 1)) h' = .ok u1 h7, fun H' z => ⟨k - 1, by omega, z⟩, fun x H' y => ?_⟩
                      obtain ⟨s9, g9, d9, ed9, dv9⟩ := w1.yld j π8 h8 H8 x H' st8 g8 hk8 hj y
                      rw [List.getElem?_eq_getElem hj] at ed9
                      cases ed9
                      refine ⟨π8, wipeE e4 vs1, h8, _, ⟨g9, (eV.step st8).step s9⟩, dv9, ?_⟩
                      generalize g1 (it1.1[j]) (wipeE e4 vs1) h8 = z9 at run8 ⊢
                      cases z9 with
                      | next e10 h10 =>
                        intro π10 σ10 H10 s10 x10 hw10
                        have hw10' : wipe σ10 vs1 = wipe σ4 vs1 := hw10.trans (wipe_wipe fun v hv => hv)
                        refine ⟨hw10', π10, e10, h10, x10, ?_⟩
                        simp only at run8
                        cases ht1 : t1 e10 h10 with
                        | exn x h' => rw [ht1] at run8; cases run8
                        | bad => rw [ht1] at run8; cases run8
                        | ok k1 h11 =>
                          rw [ht1] at run8
                          intro π11 H11 s11 g11
                          have s8b := (s9.trans s10).trans s11
                          cases k1 with
                          | false => exact iteF ⟨by omega, π11, h11, st8.trans s8b, g11, run8⟩
                          | true =>
                            refine iteT ⟨π11, e10, h11, x10.step s11 g11, ?_⟩
                            simp only at run8
                            cases he : e e10 h11 with
                            | exn x h' => rw [he] at run8; cases run8
                            | bad => rw [he] at run8; cases run8
                            | ok y12 h12 =>
                              rw [he] at run8
                              simp only at run8
                              intro π12 H12 s12 g12 v12 dv12
                              cases hacc : h12[r0]? with
                              | none => rw [hacc] at run8; cases run8
                              | some o =>
                                rw [hacc] at run8
                                cases o with
                                | lst acc =>
                                  simp only at run8
                                  by_cases hlt : acc.length < 16777216
                                  · rw [if_pos hlt] at run8
                                    have s612 := (st8.trans s8b).trans s12
                                    have q12 : π12[r0]? = some P := s612.get (s26.get (st2.get aP))
                                    obtain ⟨xs, hx, dx⟩ := g12.lst hacc q12
                                    have nf := nfz hx fun _ _ z => (by cases z)
                                    exact ⟨xs, hx, szl' (by rw [dx.len]; exact hlt), by omega, π12, _, s612.trans (Step.put q12 nf), g12.put (o := .lst (acc ++ [y12])) q12 nf ⟨xs ++ [v12], upd_same, (dx.snoc dv12).step (Step.put q12 nf) _ _⟩, run8⟩
                                  · rw [if_neg hlt] at run8
                                    cases run8
                                | _ => cases run8
                      | ret d h => cases run8
                      | brk env h => cases run8
                      | cont env h => cases run8
                      | exn y env h => cases run8
                      | bad => cases run8
                    · rw [if_neg hk8] at run8
                      cases run8
                  · have hj' : j = it1.1.length := by omega
                    rw [List.drop_of_length_le (by omega)] at run8
                    unfold lcP at run8
                    by_cases hk8 : gdOk it1.2 h8 = true
                    · rw [if_pos hk8] at run8
                      simp only [R.ok.injEq] at run8
                      obtain ⟨_, r2⟩ := run8
                      subst r2
                      exact .inl ⟨w1.stop j π8 h8 H8 st8 g8 hk8 hj', by omega, π8, h8, (st2.trans s26).trans st8, g8, run⟩
                    · rw [if_neg hk8] at run8
                      cases run8
        | ret d h => cases run
        | brk env h => cases run
        | cont env h => cases run
        | exn y env h => cases run
        | bad => cases run
      · rw [if_neg hk] at run
        cases run
    · have hi' : i = it.1.length := by omega
      rw [List.drop_of_length_le (by omega)] at run
      unfold lcO at run
      by_cases hk : gdOk it.2 h2 = true
      · rw [if_pos hk] at run
        simp only [R.ok.injEq] at run
        obtain ⟨_, r2⟩ := run
        subst r2
        exact .inl ⟨w.stop i π2 h2 H2 st12 g2 hk hi', p1' π2 H2 st12 g2 _ ⟨P, st2.get aP, rfl⟩⟩
      · rw [if_neg hk] at run
        cases run
section
variable {X : Cx} {T : List (Addr × Str)} {W : WX} {elt tg iter tg1 iter1 : Expr} {ifs ifs1 : List Expr} {scope : Scope} {pos : Pos} {m m1 : Ev → Hm → R Itr} {g g1 : Gt} {t t1 : Ev → Hm → R Bool} {e : Ev → Hm → R D}
theorem em_lc2 (own : List (Str × Nat)) (vs1 : List Nat) (hc : X.calm = true) (hN : X.N.Nodup) (hi : Im X T W tg iter m) (ok : BlkOk X.N X.env.scope scope own) (hv : ∀ i ∈ vs1, i ∈ own.map (·.2))
    (hg : ∀ (s : Shared) (H : Hp) (C : Addr) (cl : List (Str × Addr)) (fp : List Addr), Gw (X.blk s H scope (compEnvC scope cl C X.env) fp) T WF (own.map (·.2)) tg g)
    (ht : ∀ (s : Shared) (H : Hp) (C : Addr) (cl : List (Str × Addr)) (fp : List Addr), Tsm (X.blk s H scope (compEnvC scope cl C X.env) fp) T WF ifs t)
    (hi1 : ∀ (s : Shared) (H : Hp) (C : Addr) (cl : List (Str × Addr)) (fp : List Addr), Im (X.blk s H scope (compEnvC scope cl C X.env) fp) T WF tg1 iter1 m1)
    (hg1 : ∀ (s : Shared) (H : Hp) (C : Addr) (cl : List (Str × Addr)) (fp : List Addr), Gw (X.blk s H scope (compEnvC scope cl C X.env) fp) T WF vs1 tg1 g1)
    (ht1 : ∀ (s : Shared) (H : Hp) (C : Addr) (cl : List (Str × Addr)) (fp : List Addr), Tsm (X.blk s H scope (compEnvC scope cl C X.env) fp) T WF ifs1 t1)
    (he : ∀ (s : Shared) (H : Hp) (C : Addr) (cl : List (Str × Addr)) (fp : List Addr), Em (X.blk s H scope (compEnvC scope cl C X.env) fp) T WF elt e) (hs : ∀ x, foldedSetIterable iter X.env x = pure x := by intro _; rfl) (hs1 : ∀ env x, foldedSetIterable iter1 env x = pure x := by intro _ _; rfl) :
    Em X T W (.ListComp elt [⟨tg, iter, ifs, 0⟩, ⟨tg1, iter1, ifs1, 0⟩] scope pos) (mLc2 (own.map (·.2)) vs1 m g t m1 g1 t1 e) :=
  PE.of (pe_lc2 hc hN hi ok hv hg ht hi1 hg1 ht1 he hs hs1) fun σ H Q p => lc2_of p
end
def insI (x : Int) : List Int → List Int
  | [] => [x]
  | y :: l => if x ≤ y then x :: y :: l else y :: insI x l
def sortI : List Int → List Int
  | [] => []
  | x :: l => insI x (sortI l)
theorem insI_perm (x : Int) : ∀ l : List Int, (insI x l).Perm (x :: l)
  | [] => .refl _
  | y :: l => by
    unfold insI
    split
    · exact .refl _
    · exact ((insI_perm x l).cons y).trans (.swap x y l)
theorem sortI_perm : ∀ l : List Int, (sortI l).Perm l
  | [] => .refl _
  | x :: l => (insI_perm x _).trans ((sortI_perm l).cons x)
theorem insI_sorted (x : Int) : ∀ l : List Int, l.Pairwise (· ≤ ·) → (insI x l).Pairwise (· ≤ ·)
  | [], _ => by simp [insI]
  | y :: l, h => by
    unfold insI
    rw [List.pairwise_cons] at h
    split
    · rename_i c
      exact List.pairwise_cons.mpr ⟨fun z hz => by
        rcases List.mem_cons.mp hz with rfl | hz
        · exact c
        · exact Int.le_trans c (h.1 z hz), List.pairwise_cons.mpr h⟩
    · rename_i c
      refine List.pairwise_cons.mpr ⟨fun z hz => ?_, insI_sorted x l h.2⟩
      rcases List.mem_cons.mp ((insI_perm x l).mem_iff.mp hz) with rfl | hz
      · omega
      · exact h.1 z hz
theorem sortI_sorted : ∀ l : List Int, (sortI l).Pairwise (· ≤ ·)
  | [] => .nil
  | x :: l => insI_sorted x _ (sortI_sorted l)
theorem sorted_eq : ∀ {a b : List Int}, a.Perm b → a.Pairwise (· ≤ ·) → b.Pairwise (· ≤ ·) → a = b
  | [], b, p, _, _ => (List.nil_perm.mp p).symm
  | x :: a, [], p, _, _ => absurd p.symm (by simp)
  | x :: a, y :: b, p, ha, hb => by
    rw [List.pairwise_cons] at ha hb
    have h1 : x ∈ y :: b := p.mem_iff.mp List.mem_cons_self
    have h2 : y ∈ x :: a := p.mem_iff.mpr List.mem_cons_self
    have e : x = y := by
      rcases List.mem_cons.mp h1 with h | h
      · exact h
      · rcases List.mem_cons.mp h2 with h' | h'
        · exact h'.symm
        · exact Int.le_antisymm (ha.1 y h') (hb.1 x h)
    subst e
    rw [sorted_eq ((List.perm_cons x).mp p) ha.2 hb.2]
def fSortedI : Fc := fun ds h => match ds with
  | [.ref r] => match h[r]? with
    | some (.lst xs) => match intsD xs with
      | some ns => .ok (.ref h.length) (h ++ [.lst ((sortI ns).map D.int)])
      | none => .bad
    | _ => .bad
  | _ => .bad
theorem oc_sortedI {G : Gx} : OpC G (rSortedI G.K) fSortedI := by
  intro W π σ h H ds xs Q g dx p
  unfold fSortedI at p
  split at p
  · obtain ⟨v, vs, rfl, ⟨a, qa, rfl⟩, e⟩ := dx
    obtain rfl := (show vs = [] from e)
    split at p
    · rename_i ys e0
      obtain ⟨zs, ha, q⟩ := g.lst e0 qa
      split at p
      · rename_i ns e1
        rw [intsD_eq e1] at q
        have e3 := q.ints
        subst e3
        refine ⟨a, ns, rfl, SqL.of ha, fun ns' b h1 h2 n => ?_⟩
        have : ns' = sortI ns := sorted_eq (h1.trans (sortI_perm ns).symm) h2 (sortI_sorted ns)
        subst this
        exact post_lst g p DVs.ofInts b n
      · exact p.elim
    · exact p.elim
  · exact p.elim
theorem em_sortedI {X : Cx} {T : List (Addr × Str)} {W : WX} {e : Expr} {mr : Ev → Hm → R (List D)} {p pos : Pos} (hg : Gl X "sorted") (hm : X.mg "sorted" = none) (ha : Am X T W [e] mr) (he : starEach [e] X.env = (false, eval e X.env) :: starEach [] X.env := by rfl) (hpl : (backTo pos (starEach [] X.env)).any (·.1) = false := by rfl) : Em X T W (.Call (.Name "sorted" p) [e] [] pos) (mCall fSortedI mr) :=
  em_callB cr_sortedI oc_sortedI hg hm ha rfl (by decide) (by decide) he hpl
end MM

namespace MM
open PySem L2
theorem fm {x y : Int} {h : Hm} (hy : 0 < y) : fMod (.int x) (.int y) h = .ok (.int (x % y)) h := by
  rw [fMod_ok (by omega), Int.fmod_eq_emod_of_nonneg _ (by omega)]
theorem fd {x y : Int} {h : Hm} (hy : 0 < y) (h2 : y < 1000000) : fDiv (.int x) (.int y) h = .ok (.int (x / y)) h := by
  rw [fDiv_ok ⟨by omega, by omega⟩, Int.fdiv_eq_ediv_of_nonneg _ (by omega)]
theorem mu {x y : Int} {h : Hm} (hy : -1000000 < y ∧ y < 1000000) : fMul (.int x) (.int y) h = .ok (.int (x * y)) h := fMul_ok (.inr ⟨by omega, by omega⟩)
theorem mu1 {x y : Int} {h : Hm} (hy : -1000000 < x ∧ x < 1000000) : fMul (.int x) (.int y) h = .ok (.int (x * y)) h := fMul_ok (.inl ⟨by omega, by omega⟩)
theorem ix_get {ws : List Int} {r : Nat} {h : Hm} {k : Int} (e : h[r]? = some (.lst (ws.map D.int))) (k0 : 0 ≤ k) (k1 : k < ws.length) : fIx (.ref r) (.int k) h = .ok (.int (ws.getD k.toNat 0)) h := by
  refine fIx_int e k0 ?_
  have : k.toNat < ws.length := by omega
  rw [List.getElem?_map, List.getElem?_eq_getElem this, List.getD_eq_getElem?_getD, List.getElem?_eq_getElem this]
  rfl
/-- what stood stands, but at S -/
def KL (S : List Nat) (h h' : Hm) : Prop := h.length ≤ h'.length ∧ ∀ j, j < h.length → j ∉ S → h'[j]? = h[j]?
theorem KL.refl {S : List Nat} {h : Hm} : KL S h h := ⟨Nat.le_refl _, fun _ _ _ => rfl⟩
theorem KL.trans {S : List Nat} {h h1 h2 : Hm} (a : KL S h h1) (b : KL S h1 h2) : KL S h h2 := ⟨Nat.le_trans a.1 b.1, fun j x y => (b.2 j (Nat.lt_of_lt_of_le x a.1) y).trans (a.2 j x y)⟩
theorem KL.get {S : List Nat} {j : Nat} {h h' : Hm} {o : O} (k : KL S h h') (e : h[j]? = some o) (n : j ∉ S) : h'[j]? = some o := (k.2 j (List.getElem?_eq_some_iff.mp e).1 n).trans e
theorem KL.set {S : List Nat} {n : Nat} {h : Hm} {o : O} (m : n ∈ S) : KL S h (h.set n o) := ⟨by rw [List.length_set]; exact Nat.le_refl _, fun j _ q => List.getElem?_set_ne fun z => q (by rw [← z]; exact m)⟩
theorem KL.app {S : List Nat} {h g : Hm} : KL S h (h ++ g) := ⟨by rw [List.length_append]; omega, fun j x _ => List.getElem?_append_left x⟩
theorem KL.sub {S S' : List Nat} {h h' : Hm} (k : KL S h h') (w : ∀ x ∈ S, x ∈ S') : KL S' h h' := ⟨k.1, fun j x y => k.2 j x fun z => y (w j z)⟩
theorem Fr.kl {i : Nat} {h h' : Hm} (f : Fr i h h') : KL [i] h h' := ⟨f.1, fun j x y => f.2 j x fun z => y (by simp [z])⟩
theorem fr_kl {i : Nat} {hb h h' : Hm} {S : List Nat} (f : Fr i hb h) (k : KL S h h') (w : ∀ x ∈ S, x = i ∨ hb.length ≤ x) : Fr i hb h' :=
  ⟨Nat.le_trans f.1 k.1, fun j x y => (k.2 j (Nat.lt_of_lt_of_le x f.1) fun z => (w j z).elim y fun q => absurd x (Nat.not_lt.mpr q)).trans (f.2 j x y)⟩
theorem IsDice.kl {h h' : Hm} {i : Nat} {S : List Nat} (d : IsDice h i) (k : KL S h h') (n : i ∉ S) : IsDice h' i := by
  obtain ⟨a, b, m, e⟩ := d
  exact ⟨a, b, m, k.get e n⟩
theorem inF_int (x : Int) : ∀ l : List Int, inF (.int x) (l.map D.int) = decide (x ∈ l)
  | [] => by simp [inF]
  | y :: l => by
    have ih := inF_int x l
    unfold inF at ih ⊢
    rw [List.map_cons, List.any_cons, ih]
    by_cases h : y = x
    · subst h
      simp [eqF]
    · have h2 : ¬ x = y := fun z => h z.symm
      simp [eqF, h, h2]
theorem flat_ints : ∀ l : List Int, (l.map D.int).all flatD = true
  | [] => rfl
  | y :: l => by rw [List.map_cons, List.all_cons, flat_ints l]; rfl
theorem fIn_t {h : Hm} {r : Nat} {l : List Int} (e : h[r]? = some (.lst (l.map D.int))) (x : Int) : fIn true (.int x) (.ref r) h = .ok (.bl (!decide (x ∈ l))) h := by
  unfold fIn
  simp only [e, flat_ints, flatD, inF_int, and_self, if_true]
theorem fm_congr {α β : Type} {f g : α → Option β} : ∀ {l : List α}, (∀ a ∈ l, f a = g a) → l.filterMap f = l.filterMap g
  | [], _ => rfl
  | a :: l, w => by
    rw [List.filterMap_cons, List.filterMap_cons, w a List.mem_cons_self, fm_congr fun b hb => w b (List.mem_cons_of_mem _ hb)]
theorem fNe_b (k : Bool) (h : Hm) : fNe (.bl k) (.bl k) h = .ok (.bl false) h := by
  show R.ok (D.bl (!decide (D.bl k = D.bl k))) h = _
  simp
theorem fIn_f {h : Hm} {r : Nat} {l : List Int} (e : h[r]? = some (.lst (l.map D.int))) (x : Int) : fIn false (.int x) (.ref r) h = .ok (.bl (decide (x ∈ l))) h := by
  unfold fIn
  simp only [e, flat_ints, flatD, inF_int, and_self, if_true, Bool.false_eq_true, if_false]
theorem KL.dice {h h' : Hm} {i : Nat} {S : List Nat} (d : IsDice h i) (k : KL S h h') (n : i ∉ S) : IsDice h' i := IsDice.kl d k n
theorem rep_flat (d : D) : ∀ m : Nat, (List.replicate m [d]).flatten = List.replicate m d
  | 0 => rfl
  | m + 1 => by rw [List.replicate_succ, List.flatten_cons, rep_flat d m, List.replicate_succ]; rfl
end MM

namespace MM
open PySem L2
section
variable {a b c m mo mi : Ev → Hm → R D} {ta tb : Ev → Hm → R Bool} {ml mh : Ev → Hm → R (Option Int)} {mr : Ev → Hm → R (List D)} {sa sb : Ev → Hm → SR} {env env1 : Ev} {h h1 h2 h3 h4 : Hm} {x y z d : D} {ds : List D} {i : Nat} {f f' : F2} {k k' : Bool} {fn : Fc} {fm : Fm} {r : SR} {p : Nat} {n lo hi : Int}
theorem c_run : mC d env h = .ok d h := rfl
theorem m2_run (ea : a env h = .ok x h1) (eb : b env h1 = .ok y h2) (ef : f x y h2 = .ok z h3) : m2 f a b env h = .ok z h3 := by rw [run_m2, ea, bind_ok, eb, bind_ok, ef]
theorem nil_run : mNil env h = .ok [] h := rfl
theorem cons_run (ea : a env h = .ok x h1) (er : mr env h1 = .ok ds h2) : mCons a mr env h = .ok (x :: ds) h2 := by rw [run_lcons, ea, bind_ok, er, bind_ok]
theorem tup_run (er : mr env h = .ok ds h1) : mTup mr env h = .ok (.tup ds) h1 := by rw [run_tup, er, bind_ok]
theorem lst_run (er : mr env h = .ok ds h1) : mLst mr env h = .ok (.ref h1.length) (h1 ++ [.lst ds]) := by rw [run_lst, er, bind_ok]
theorem bool_run (ea : a env h = .ok (.bl k) h1) : mBool a env h = .ok k h1 := by rw [run_bool, ea, bind_ok]
theorem tru_run (ea : a env h = .ok (.bl k) h1) : mTru a env h = .ok k h1 := by rw [run_tru, ea, bind_ok]; rfl
theorem and_run (ea : ta env h = .ok true h1) (eb : tb env h1 = .ok k h2) : mAnd ta tb env h = .ok k h2 := by rw [run_and, ea, bind_ok, if_pos rfl, eb]
theorem and_no (ea : ta env h = .ok false h1) : mAnd ta tb env h = .ok false h1 := by rw [run_and, ea, bind_ok, if_neg Bool.false_ne_true]
theorem or_run (ea : ta env h = .ok false h1) (eb : tb env h1 = .ok k h2) : mOr ta tb env h = .ok k h2 := by rw [run_or, ea, bind_ok, if_neg Bool.false_ne_true, eb]
theorem or_yes (ea : ta env h = .ok true h1) : mOr ta tb env h = .ok true h1 := by rw [run_or, ea, bind_ok, if_pos rfl]
theorem not_run (ea : ta env h = .ok k h1) : mNot ta env h = .ok (!k) h1 := by rw [run_not, ea, bind_ok]
theorem neg_run (ea : a env h = .ok (.int n) h1) : mNeg a env h = .ok (.int (-n)) h1 := by rw [run_neg, ea, bind_ok]
theorem ifE_t (ea : ta env h = .ok true h1) (eb : a env h1 = .ok x h2) : mIf ta a b env h = .ok x h2 := by rw [run_ifE, ea, bind_ok, if_pos rfl, eb]
theorem ifE_f (ea : ta env h = .ok false h1) (eb : b env h1 = .ok x h2) : mIf ta a b env h = .ok x h2 := by rw [run_ifE, ea, bind_ok, if_neg Bool.false_ne_true, eb]
theorem chain_run (ea : a env h = .ok x h1) (eb : b env h1 = .ok y h2) (ef : f x y h2 = .ok (.bl true) h2) (ec : c env h2 = .ok z h3) (ef' : f' y z h3 = .ok d h4) : mChain f f' a b c env h = .ok d h4 := by
  rw [run_chain, ea, bind_ok, eb, bind_ok, ef, bind_ok]
  simp only [if_true]
  rw [ec, bind_ok, ef']
theorem chain_no (ea : a env h = .ok x h1) (eb : b env h1 = .ok y h2) (ef : f x y h2 = .ok (.bl false) h2) : mChain f f' a b c env h = .ok (.bl false) h2 := by
  rw [run_chain, ea, bind_ok, eb, bind_ok, ef, bind_ok]
  simp only [Bool.false_eq_true, if_false]
theorem some_run (ea : a env h = .ok (.int n) h1) : mSome a env h = .ok (some n) h1 := by
  unfold mSome
  rw [ea, bind_ok]
theorem call_run (er : mr env h = .ok ds h1) (ef : fn ds h1 = .ok x h2) : mCall fn mr env h = .ok x h2 := by rw [run_call, er, bind_ok, ef]
theorem callF_run (er : mr env h = .ok ds h1) (ef : fn ds h1 = .ok x h2) (hl : ds.length = p := by rfl) : mCallF p fn mr env h = .ok x h2 := by rw [run_callF, er, bind_ok, if_pos hl, ef]
theorem methL_run {tg : Hm → D → Bool} (ea : a env h = .ok x h1) (ht : tg h1 x = true) (er : mr env h1 = .ok ds h2) (ef : fm x ds h2 = .ok y h3) : mMeth tg fm a mr env h = .ok y h3 := by rw [run_meth, ea, bind_ok, if_pos ht, er, bind_ok, ef]
theorem if_t (e : ta env h = .ok true h1) (s : sa env h1 = r) : sIf ta sa sb env h = r := by rw [run_if, e, bindS_ok, if_pos rfl, s]
theorem if_f (e : ta env h = .ok false h1) (s : sb env h1 = r) : sIf ta sa sb env h = r := by rw [run_if, e, bindS_ok, if_neg Bool.false_ne_true, s]
theorem nils_run : sNil env h = .next env h := rfl
theorem if_no (e : ta env h = .ok false h1) : sIf ta sa sNil env h = .next env h1 := if_f e rfl
theorem ret_run (e : a env h = .ok x h1) : sRet a env h = .ret x h1 := by rw [run_ret, e, bindS_ok]
theorem drop_run (e : a env h = .ok x h1) : sDrop a env h = .next env h1 := by rw [run_drop, e, bindS_ok]
theorem sub_run (em : m env h = .ok d h1) (eo : mo env h1 = .ok x h2) (ei : mi env h2 = .ok y h3) (es : fSet x y d h3 = some h4) : sAsg (gSubM mo mi) m env h = .next env h4 := by
  rw [run_asg, em, bindS_ok, run_subM, eo, bindS_ok, ei, bindS_ok]
  simp only [es, only_next]
theorem slM_run {xs ys : List D} {u t : Nat} (em : m env h = .ok (.ref t) h1) (eo : mo env h1 = .ok (.ref u) h2) (el : ml env h2 = .ok (some lo) h3) (eh : mh env h3 = .ok (some hi) h4) (eu : h4[u]? = some (.lst xs)) (et : h4[t]? = some (.lst ys)) (ne : u ≠ t)
    (c0 : 0 ≤ lo) (c1 : lo ≤ hi) (c2 : hi ≤ xs.length) (c3 : xs.length + ys.length ≤ 16777216) : sAsg (gSlM mo ml mh) m env h = .next env (h4.set u (.lst (xs.take lo.toNat ++ ys ++ xs.drop hi.toNat))) := by
  rw [run_asg, em, bindS_ok]
  unfold gSlM
  rw [eo, bindS_ok, el, bindS_ok, eh, bindS_ok]
  simp only [eu, et]
  rw [if_pos ⟨ne, c0, c1, c2, c3⟩]
  rfl
theorem enum_run {i : Nat} {ds : List D} (e : a env h = .ok (.ref i) h1) (ei : h1[i]? = some (.lst ds)) : mEnum (mCons a mNil) env h = .ok (enumD 0 ds, [(i, .lst ds)]) h1 := by
  rw [run_enum, run_lcons, e, bind_ok, run_lnil, bind_ok, bind_ok]
  simp only [itL_lst ei]
theorem itA_run {i : Nat} {ds : List D} (e : a env h = .ok (.ref i) h1) (ei : h1[i]? = some (.lst ds)) : mItA a env h = .ok (ds, [(i, .lst ds)]) h1 := by
  rw [run_itA, e, bind_ok]
  simp only [itL_lst ei]
  rfl
theorem make_run {cn : Str} (er : mr env h = .ok ds h1) (hl : ds.length + 1 = p) (ef : fn (.ref h1.length :: ds) (h1 ++ [.ins cn []]) = .ok .non h2) : mMake cn p fn mr env h = .ok (.ref h1.length) h2 := by
  rw [run_make, er, bind_ok, if_pos hl, ef]
theorem sl_run {lo hi : Option Int} (ea : a env h = .ok x h1) (el : ml env h1 = .ok lo h2) (eh : mh env h2 = .ok hi h3) (ef : fSl x lo hi h3 = .ok y h4) : mSl a ml mh env h = .ok y h4 := by
  rw [run_sl, ea, bind_ok, el, bind_ok, eh, bind_ok, ef]
theorem no_run : mNo env h = .ok none h := rfl
end
theorem fEq_k {h : Hm} {x y : Int} {k : Bool} (e : decide (x = y) = k) : fEq (.int x) (.int y) h = .ok (.bl k) h := by rw [fEq_i, e]
theorem fNe_k {h : Hm} {x y : Int} (e : x = y) : fNe (.int x) (.int y) h = .ok (.bl false) h := by
  rw [fNe_i, e]
  simp
theorem fLt_k {h : Hm} {x y : Int} {k : Bool} (e : decide (x < y) = k) : fLt (.int x) (.int y) h = .ok (.bl k) h := by rw [fLt_i, e]
theorem fLe_k {h : Hm} {x y : Int} {k : Bool} (e : decide (x ≤ y) = k) : fLe (.int x) (.int y) h = .ok (.bl k) h := by rw [fLe_i, e]
end MM

namespace MM
namespace K09
open PySem L2
noncomputable section
def told_cs : List (Str × Str) := [("BadOrder", "order"), ("BadProgram", "program"), ("NoWay", "no way"), ("TooLarge", "large")]
def cs_words : List Str := ["Cache"]
def cs_sets : List Str := ["Cache", "Levels"]
def cs_ways : List Str := ["Cache", "Levels"]
def cs_long : List Str := ["Cache"]
def cs_through : List Str := ["Cache"]
def cs_hits : List Str := ["Cache", "Levels"]
def cs_misses : List Str := ["Cache", "Levels"]
def cs_put_out : List Str := ["Cache"]
def cs_under : List Str := ["Levels"]
/-- _law_dice: 0 cell -/
def b__law_dice : Ev → Hm → SR := (sSeq (sIf (mBool (mChain fLt fLt (m2 fSub (mC (.int 0)) (mC (.int 10))) (mVar 0) (mC (.int 10))))
  (sRet (mLst (mCons (mCall fAbs (mCons (mVar 0) mNil)) (mCons (mC (.int 0)) (mCons (mC (.int 2)) mNil)))))
  sNil)
  (sRet (mLst (mCons (mVar 0) (mCons (m2 fAdd (mC (.int 1)) (m2 fMod (mCall fInt (mCons (mVar 0) mNil)) (mC (.int 1009)))) (mCons (mCall fInt (mCons (m2 fGe (mVar 0) (m2 fPow (mC (.int 10)) (mC (.int 18)))) mNil)) mNil))))))
def f__law_dice : Fc := callM 1 1 b__law_dice
/-- _law_rounds: 0 script, 1 most, 2 cells, 3 cell -/
def b__law_rounds : Ev → Hm → SR := (sSeq (sAsg (gN 2) (mSl (mVar 0) mNo (mSome (mVar 1))))
  (sSeq (sIf (mBool (m2 fEq (mVar 2) (mLst mNil)))
  (sAsg (gN 2) (mLst (mCons (mC (.int 0)) mNil)))
  sNil)
  (sRet (mLc [3] (mItA (mVar 2)) (gN 3) tYesM (mCallF 1 f__law_dice (mCons (mVar 3) mNil))))))
def f__law_rounds : Fc := callM 4 2 b__law_rounds
/-- _law_roll: 0 dice, 1 many, 2 found -/
def b__law_roll : Ev → Hm → SR := (sSeq (sIf (mOr (mBool (m2 fEq (m2 fIx (mVar 0) (mC (.int 2))) (mC (.int 2)))) (mAnd (mBool (m2 fEq (m2 fIx (mVar 0) (mC (.int 2))) (mC (.int 1)))) (mBool (m2 fGt (m2 fIx (mVar 0) (mC (.int 0))) (mC (.int 0))))))
  (sSeq (sAsg (gN 2) (m2 fMod (mCall fInt (mCons (m2 fIx (mVar 0) (mC (.int 0))) mNil)) (mVar 1)))
  (sSeq (sAsg (gSubM (mVar 0) (mC (.int 0))) (m2 fDiv (m2 fIx (mVar 0) (mC (.int 0))) (mVar 1)))
  (sRet (mVar 2))))
  sNil)
  (sSeq (sAsg (gSubM (mVar 0) (mC (.int 2))) (mC (.int 0)))
  (sSeq (sAsg (gSubM (mVar 0) (mC (.int 0))) (m2 fMod (mCall fInt (mCons (m2 fAdd (m2 fAdd (m2 fMul (m2 fIx (mVar 0) (mC (.int 0))) (mC (.int 48271))) (m2 fMul (m2 fIx (mVar 0) (mC (.int 1))) (mC (.int 69621)))) (mC (.int 11))) mNil)) (mC (.int 2147483647))))
  (sSeq (sAsg (gSubM (mVar 0) (mC (.int 1))) (m2 fAdd (m2 fIx (mVar 0) (mC (.int 1))) (mC (.int 1))))
  (sRet (m2 fMod (mCall fInt (mCons (m2 fAdd (m2 fDiv (m2 fIx (mVar 0) (mC (.int 0))) (mC (.int 7))) (m2 fIx (mVar 0) (mC (.int 0)))) mNil)) (mVar 1)))))))
def f__law_roll : Fc := callM 3 2 b__law_roll
/-- Cache___init__: 0 self, 1 words, 2 sets, 3 ways, 4 long, 5 through, 6 k -/
def b_Cache___init__ : Ev → Hm → SR := (sSeq (sIf (mOr (mBool (m2 fLt (mVar 2) (mC (.int 1)))) (mOr (mBool (m2 fLt (mVar 3) (mC (.int 1)))) (mOr (mBool (m2 fLt (mVar 4) (mC (.int 1)))) (mBool (m2 fNe (m2 fMod (mCall fLen (mCons (mVar 1) mNil)) (mVar 4)) (mC (.int 0)))))))
  (sRaise "BadOrder")
  sNil)
  (sSeq (sFldM cs_words "words" (mVar 0) (mCall fList (mCons (mVar 1) mNil)))
  (sSeq (sFldM cs_sets "sets" (mVar 0) (mLc [6] (mRg1 (mCons (mVar 2) mNil)) (gN 6) tYesM (mLst mNil)))
  (sSeq (sFldM cs_ways "ways" (mVar 0) (mVar 3))
  (sSeq (sFldM cs_long "long" (mVar 0) (mVar 4))
  (sSeq (sFldM cs_through "through" (mVar 0) (mVar 5))
  (sSeq (sFldM cs_hits "hits" (mVar 0) (mC (.int 0)))
  (sSeq (sFldM cs_misses "misses" (mVar 0) (mC (.int 0)))
  (sFldM cs_put_out "put_out" (mVar 0) (mC (.int 0)))))))))))
theorem o_Cache___init__ : ∃ f : Fc, f = callM 7 6 b_Cache___init__ := ⟨_, rfl⟩
def f_Cache___init__ : Fc := o_Cache___init__.choose
theorem f_Cache___init___eq : f_Cache___init__ = callM 7 6 b_Cache___init__ := o_Cache___init__.choose_spec
/-- Levels___init__: 0 self, 1 words, 2 first, 3 second, 4 k -/
def b_Levels___init__ : Ev → Hm → SR := (sSeq (sFldM cs_under "under" (mVar 0) (mMake "Cache" 6 f_Cache___init__ (mCons (mVar 1) (mCons (m2 fIx (mVar 3) (mC (.int 0))) (mCons (m2 fIx (mVar 3) (mC (.int 1))) (mCons (m2 fIx (mVar 3) (mC (.int 2))) (mCons (mC (.bl false)) mNil)))))))
  (sSeq (sFldM cs_sets "sets" (mVar 0) (mLc [4] (mRg1 (mCons (m2 fIx (mVar 2) (mC (.int 0))) mNil)) (gN 4) tYesM (mLst mNil)))
  (sSeq (sFldM cs_ways "ways" (mVar 0) (m2 fIx (mVar 2) (mC (.int 1))))
  (sSeq (sFldM cs_hits "hits" (mVar 0) (mC (.int 0)))
  (sFldM cs_misses "misses" (mVar 0) (mC (.int 0)))))))
theorem o_Levels___init__ : ∃ f : Fc, f = callM 5 4 b_Levels___init__ := ⟨_, rfl⟩
def f_Levels___init__ : Fc := o_Levels___init__.choose
theorem f_Levels___init___eq : f_Levels___init__ = callM 5 4 b_Levels___init__ := o_Levels___init__.choose_spec
/-- Cache_write_back: 0 self, 1 line, 2 start -/
def b_Cache_write_back : Ev → Hm → SR := (sIf (mTru (m2 fIx (mVar 1) (mC (.int 2))))
  (sSeq (sFldA cs_put_out "put_out" fIAdd (mVar 0) (mC (.int 1)))
  (sSeq (sAsg (gN 2) (m2 fMul (m2 fIx (mVar 1) (mC (.int 0))) (mFld cs_long "long" (mVar 0))))
  (sSeq (sAsg (gSlM (mFld cs_words "words" (mVar 0)) (mSome (mVar 2)) (mSome (m2 fAdd (mVar 2) (mFld cs_long "long" (mVar 0))))) (m2 fIx (mVar 1) (mC (.int 1))))
  (sAsg (gSubM (mVar 1) (mC (.int 2))) (mC (.bl false))))))
  sNil)
theorem o_Cache_write_back : ∃ f : Fc, f = callM 3 2 b_Cache_write_back := ⟨_, rfl⟩
def f_Cache_write_back : Fc := o_Cache_write_back.choose
theorem f_Cache_write_back_eq : f_Cache_write_back = callM 3 2 b_Cache_write_back := o_Cache_write_back.choose_spec
/-- Cache_line_at: 0 self, 1 address, 2 number, 3 row, 4 there, 5 start, 6 k, 7 line -/
def p_Cache_line_at_0 : Ev → Hm → SR := (sIf (mNot (mBool (mChain fLe fLt (mC (.int 0)) (mVar 1) (mCall fLen (mCons (mFld cs_words "words" (mVar 0)) mNil)))))
  (sRaise "BadOrder")
  sNil)
def p_Cache_line_at_1 : Ev → Hm → SR := (sAsg (gN 2) (m2 fDiv (mVar 1) (mFld cs_long "long" (mVar 0))))
def p_Cache_line_at_2 : Ev → Hm → SR := (sAsg (gN 3) (m2 fIx (mFld cs_sets "sets" (mVar 0)) (m2 fMod (mVar 2) (mCall fLen (mCons (mFld cs_sets "sets" (mVar 0)) mNil)))))
def p_Cache_line_at_3 : Ev → Hm → SR := (sAsg (gN 4) (mLc [6, 7] (mEnum (mCons (mVar 3) mNil)) (gU 2 (gsCons (gN 6) (gsCons (gN 7) gsNil))) (mBool (m2 fEq (m2 fIx (mVar 7) (mC (.int 0))) (mVar 2))) (mVar 6)))
def t_Cache_line_at_0 : Ev → Hm → SR := (sFldA cs_hits "hits" fIAdd (mVar 0) (mC (.int 1)))
def t_Cache_line_at_1 : Ev → Hm → SR := (sDrop (mMeth isL fAppend (mVar 3) (mCons (mMeth isL fPop (mVar 3) (mCons (m2 fIx (mVar 4) (mC (.int 0))) mNil)) mNil)))
def t_Cache_line_at_2 : Ev → Hm → SR := (sRet (m2 fIx (mVar 3) (mNeg (mC (.int 1)))))
def p_Cache_line_at_4 : Ev → Hm → SR := (sIf (mBool (m2 fNe (mVar 4) (mLst mNil)))
  (sSeq t_Cache_line_at_0
  (sSeq t_Cache_line_at_1
  t_Cache_line_at_2))
  sNil)
def p_Cache_line_at_5 : Ev → Hm → SR := (sFldA cs_misses "misses" fIAdd (mVar 0) (mC (.int 1)))
def t_Cache_line_at_3 : Ev → Hm → SR := (sDrop (mMethF "Cache" "write_back" 2 f_Cache_write_back (mVar 0) (mCons (mMeth isL fPop (mVar 3) (mCons (mC (.int 0)) mNil)) mNil)))
def p_Cache_line_at_6 : Ev → Hm → SR := (sIf (mBool (m2 fEq (mCall fLen (mCons (mVar 3) mNil)) (mFld cs_ways "ways" (mVar 0))))
  t_Cache_line_at_3
  sNil)
def p_Cache_line_at_7 : Ev → Hm → SR := (sAsg (gN 5) (m2 fMul (mVar 2) (mFld cs_long "long" (mVar 0))))
def p_Cache_line_at_8 : Ev → Hm → SR := (sDrop (mMeth isL fAppend (mVar 3) (mCons (mLst (mCons (mVar 2) (mCons (mSl (mFld cs_words "words" (mVar 0)) (mSome (mVar 5)) (mSome (m2 fAdd (mVar 5) (mFld cs_long "long" (mVar 0))))) (mCons (mC (.bl false)) mNil)))) mNil)))
def p_Cache_line_at_9 : Ev → Hm → SR := (sRet (m2 fIx (mVar 3) (mNeg (mC (.int 1)))))
def b_Cache_line_at : Ev → Hm → SR := (sSeq p_Cache_line_at_0 (sSeq p_Cache_line_at_1 (sSeq p_Cache_line_at_2 (sSeq p_Cache_line_at_3 (sSeq p_Cache_line_at_4 (sSeq p_Cache_line_at_5 (sSeq p_Cache_line_at_6 (sSeq p_Cache_line_at_7 (sSeq p_Cache_line_at_8 p_Cache_line_at_9)))))))))
theorem o_Cache_line_at : ∃ f : Fc, f = callM 8 2 b_Cache_line_at := ⟨_, rfl⟩
def f_Cache_line_at : Fc := o_Cache_line_at.choose
theorem f_Cache_line_at_eq : f_Cache_line_at = callM 8 2 b_Cache_line_at := o_Cache_line_at.choose_spec
/-- Cache_store: 0 self, 1 address, 2 word, 3 line -/
def b_Cache_store : Ev → Hm → SR := (sSeq (sAsg (gN 3) (mMethF "Cache" "line_at" 2 f_Cache_line_at (mVar 0) (mCons (mVar 1) mNil)))
  (sSeq (sAsg (gSubM (m2 fIx (mVar 3) (mC (.int 1))) (m2 fMod (mVar 1) (mFld cs_long "long" (mVar 0)))) (mVar 2))
  (sIf (mTru (mFld cs_through "through" (mVar 0)))
  (sAsg (gSubM (mFld cs_words "words" (mVar 0)) (mVar 1)) (mVar 2))
  (sAsg (gSubM (mVar 3) (mC (.int 2))) (mC (.bl true))))))
theorem o_Cache_store : ∃ f : Fc, f = callM 4 3 b_Cache_store := ⟨_, rfl⟩
def f_Cache_store : Fc := o_Cache_store.choose
theorem f_Cache_store_eq : f_Cache_store = callM 4 3 b_Cache_store := o_Cache_store.choose_spec
/-- Levels_find: 0 self, 1 address, 2 row, 3 k, 4 pair -/
def l_Levels_find_0 : Ev → Hm → SR := (sIf (mBool (m2 fEq (m2 fIx (mVar 4) (mC (.int 0))) (mVar 1)))
  (sRet (mTup (mCons (mVar 2) (mCons (mVar 3) mNil))))
  sNil)
def b_Levels_find : Ev → Hm → SR := (sSeq (sAsg (gN 2) (m2 fIx (mFld cs_sets "sets" (mVar 0)) (m2 fMod (mVar 1) (mCall fLen (mCons (mFld cs_sets "sets" (mVar 0)) mNil)))))
  (sSeq (sFor (mEnum (mCons (mVar 2) mNil)) (gU 2 (gsCons (gN 3) (gsCons (gN 4) gsNil)))
  l_Levels_find_0)
  (sRet (mTup (mCons (mVar 2) (mCons (mC .non) mNil))))))
theorem o_Levels_find : ∃ f : Fc, f = callM 5 2 b_Levels_find := ⟨_, rfl⟩
def f_Levels_find : Fc := o_Levels_find.choose
theorem f_Levels_find_eq : f_Levels_find = callM 5 2 b_Levels_find := o_Levels_find.choose_spec
/-- Levels_put: 0 self, 1 row, 2 address, 3 word -/
def b_Levels_put : Ev → Hm → SR := (sSeq (sIf (mBool (m2 fEq (mCall fLen (mCons (mVar 1) mNil)) (mFld cs_ways "ways" (mVar 0))))
  (sDrop (mMeth isL fPop (mVar 1) (mCons (mC (.int 0)) mNil)))
  sNil)
  (sDrop (mMeth isL fAppend (mVar 1) (mCons (mTup (mCons (mVar 2) (mCons (mVar 3) mNil))) mNil))))
theorem o_Levels_put : ∃ f : Fc, f = callM 4 4 b_Levels_put := ⟨_, rfl⟩
def f_Levels_put : Fc := o_Levels_put.choose
theorem f_Levels_put_eq : f_Levels_put = callM 4 4 b_Levels_put := o_Levels_put.choose_spec
/-- Levels_store: 0 self, 1 address, 2 word, 3 row, 4 k -/
def p_Levels_store_0 : Ev → Hm → SR := (sAsg (gU 2 (gsCons (gN 3) (gsCons (gN 4) gsNil))) (mMethF "Levels" "find" 2 f_Levels_find (mVar 0) (mCons (mVar 1) mNil)))
def t_Levels_store_0 : Ev → Hm → SR := (sDrop (mMeth isL fPop (mVar 3) (mCons (mVar 4) mNil)))
def p_Levels_store_1 : Ev → Hm → SR := (sIf (mBool (m2 (fIs true) (mVar 4) (mC .non)))
  t_Levels_store_0
  sNil)
def p_Levels_store_2 : Ev → Hm → SR := (sDrop (mMethF "Levels" "put" 4 f_Levels_put (mVar 0) (mCons (mVar 3) (mCons (mVar 1) (mCons (mVar 2) mNil)))))
def p_Levels_store_3 : Ev → Hm → SR := (sDrop (mMethF "Cache" "store" 3 f_Cache_store (mFld cs_under "under" (mVar 0)) (mCons (mVar 1) (mCons (mVar 2) mNil))))
def b_Levels_store : Ev → Hm → SR := (sSeq p_Levels_store_0 (sSeq p_Levels_store_1 (sSeq p_Levels_store_2 p_Levels_store_3)))
theorem o_Levels_store : ∃ f : Fc, f = callM 5 3 b_Levels_store := ⟨_, rfl⟩
def f_Levels_store : Fc := o_Levels_store.choose
theorem f_Levels_store_eq : f_Levels_store = callM 5 3 b_Levels_store := o_Levels_store.choose_spec
/-- Cache_load: 0 self, 1 address -/
def b_Cache_load : Ev → Hm → SR := (sRet (m2 fIx (m2 fIx (mMethF "Cache" "line_at" 2 f_Cache_line_at (mVar 0) (mCons (mVar 1) mNil)) (mC (.int 1))) (m2 fMod (mVar 1) (mFld cs_long "long" (mVar 0)))))
theorem o_Cache_load : ∃ f : Fc, f = callM 2 2 b_Cache_load := ⟨_, rfl⟩
def f_Cache_load : Fc := o_Cache_load.choose
theorem f_Cache_load_eq : f_Cache_load = callM 2 2 b_Cache_load := o_Cache_load.choose_spec
/-- Levels_load: 0 self, 1 address, 2 row, 3 k, 4 word -/
def p_Levels_load_0 : Ev → Hm → SR := (sAsg (gU 2 (gsCons (gN 2) (gsCons (gN 3) gsNil))) (mMethF "Levels" "find" 2 f_Levels_find (mVar 0) (mCons (mVar 1) mNil)))
def t_Levels_load_0 : Ev → Hm → SR := (sFldA cs_hits "hits" fIAdd (mVar 0) (mC (.int 1)))
def t_Levels_load_1 : Ev → Hm → SR := (sDrop (mMeth isL fAppend (mVar 2) (mCons (mMeth isL fPop (mVar 2) (mCons (mVar 3) mNil)) mNil)))
def t_Levels_load_2 : Ev → Hm → SR := (sRet (m2 fIx (m2 fIx (mVar 2) (mNeg (mC (.int 1)))) (mC (.int 1))))
def p_Levels_load_1 : Ev → Hm → SR := (sIf (mBool (m2 (fIs true) (mVar 3) (mC .non)))
  (sSeq t_Levels_load_0
  (sSeq t_Levels_load_1
  t_Levels_load_2))
  sNil)
def p_Levels_load_2 : Ev → Hm → SR := (sFldA cs_misses "misses" fIAdd (mVar 0) (mC (.int 1)))
def p_Levels_load_3 : Ev → Hm → SR := (sAsg (gN 4) (mMethF "Cache" "load" 2 f_Cache_load (mFld cs_under "under" (mVar 0)) (mCons (mVar 1) mNil)))
def p_Levels_load_4 : Ev → Hm → SR := (sDrop (mMethF "Levels" "put" 4 f_Levels_put (mVar 0) (mCons (mVar 2) (mCons (mVar 1) (mCons (mVar 4) mNil)))))
def p_Levels_load_5 : Ev → Hm → SR := (sRet (mVar 4))
def b_Levels_load : Ev → Hm → SR := (sSeq p_Levels_load_0 (sSeq p_Levels_load_1 (sSeq p_Levels_load_2 (sSeq p_Levels_load_3 (sSeq p_Levels_load_4 p_Levels_load_5)))))
theorem o_Levels_load : ∃ f : Fc, f = callM 5 2 b_Levels_load := ⟨_, rfl⟩
def f_Levels_load : Fc := o_Levels_load.choose
theorem f_Levels_load_eq : f_Levels_load = callM 5 2 b_Levels_load := o_Levels_load.choose_spec
/-- Cache_lines_held: 0 self, 1 row, 2 line -/
def b_Cache_lines_held : Ev → Hm → SR := (sRet (mCall fTuple (mCons (mCall fSortedI (mCons (mLc2 [1, 2] [2] (mItA (mFld cs_sets "sets" (mVar 0))) (gN 1) tYesM (mItA (mVar 1)) (gN 2) tYesM (m2 fIx (mVar 2) (mC (.int 0)))) mNil)) mNil)))
theorem o_Cache_lines_held : ∃ f : Fc, f = callM 3 1 b_Cache_lines_held := ⟨_, rfl⟩
def f_Cache_lines_held : Fc := o_Cache_lines_held.choose
theorem f_Cache_lines_held_eq : f_Cache_lines_held = callM 3 1 b_Cache_lines_held := o_Cache_lines_held.choose_spec
/-- _law_flat: 0 rows, 1 found, 2 row -/
def l__law_flat_0 : Ev → Hm → SR := (sAsg (gN 1) (m2 fAdd (mVar 1) (mVar 2)))
def b__law_flat : Ev → Hm → SR := (sSeq (sAsg (gN 1) (mLst mNil))
  (sSeq (sFor (mItA (mVar 0)) (gN 2)
  l__law_flat_0)
  (sRet (mVar 1))))
theorem o__law_flat : ∃ f : Fc, f = callM 3 1 b__law_flat := ⟨_, rfl⟩
def f__law_flat : Fc := o__law_flat.choose
theorem f__law_flat_eq : f__law_flat = callM 3 1 b__law_flat := o__law_flat.choose_spec
/-- Cache_flush: 0 self, 1 row, 2 line -/
def l_Cache_flush_0 : Ev → Hm → SR := (sDrop (mMethF "Cache" "write_back" 2 f_Cache_write_back (mVar 0) (mCons (mVar 2) mNil)))
def l_Cache_flush_1 : Ev → Hm → SR := (sSeq (sFor (mItA (mVar 1)) (gN 2)
  l_Cache_flush_0)
  (sDrop (mMeth isL fClear (mVar 1) mNil)))
def b_Cache_flush : Ev → Hm → SR := (sFor (mItA (mFld cs_sets "sets" (mVar 0))) (gN 1)
  l_Cache_flush_1)
theorem o_Cache_flush : ∃ f : Fc, f = callM 3 1 b_Cache_flush := ⟨_, rfl⟩
def f_Cache_flush : Fc := o_Cache_flush.choose
theorem f_Cache_flush_eq : f_Cache_flush = callM 3 1 b_Cache_flush := o_Cache_flush.choose_spec
/-- Levels_all_words: 0 self -/
def b_Levels_all_words : Ev → Hm → SR := (sSeq (sDrop (mMethF "Cache" "flush" 1 f_Cache_flush (mFld cs_under "under" (mVar 0)) mNil))
  (sRet (mCall fTuple (mCons (mFld cs_words "words" (mFld cs_under "under" (mVar 0))) mNil))))
theorem o_Levels_all_words : ∃ f : Fc, f = callM 1 1 b_Levels_all_words := ⟨_, rfl⟩
def f_Levels_all_words : Fc := o_Levels_all_words.choose
theorem f_Levels_all_words_eq : f_Levels_all_words = callM 1 1 b_Levels_all_words := o_Levels_all_words.choose_spec
/-- law: 0 script, 1 dice, 2 sets, 3 ways, 4 long, 5 through, 6 words, 7 cache, 8 levels, 9 rows, 10 hits, 11 count, 12 k, 13 address, 14 number, 15 row, 16 one, 17 each -/
def q_0 : Ev → Hm → SR := (sAsg (gU 4 (gsCons (gN 2) (gsCons (gN 3) (gsCons (gN 4) (gsCons (gN 5) gsNil))))) (mTup (mCons (m2 fIx (mLst (mCons (mC (.int 1)) (mCons (mC (.int 2)) (mCons (mC (.int 4)) mNil)))) (mCallF 2 f__law_roll (mCons (mVar 1) (mCons (mC (.int 3)) mNil)))) (mCons (m2 fAdd (mC (.int 1)) (mCallF 2 f__law_roll (mCons (mVar 1) (mCons (mC (.int 2)) mNil)))) (mCons (m2 fIx (mLst (mCons (mC (.int 1)) (mCons (mC (.int 2)) (mCons (mC (.int 4)) mNil)))) (mCallF 2 f__law_roll (mCons (mVar 1) (mCons (mC (.int 3)) mNil)))) (mCons (m2 fEq (mCallF 2 f__law_roll (mCons (mVar 1) (mCons (mC (.int 2)) mNil))) (mC (.int 0))) mNil))))))
def q_1 : Ev → Hm → SR := (sAsg (gN 6) (mLc [12] (mRg1 (mCons (mC (.int 32)) mNil)) (gN 12) tYesM (mCallF 2 f__law_roll (mCons (mVar 1) (mCons (mC (.int 99)) mNil)))))
def q_2 : Ev → Hm → SR := (sAsg (gU 2 (gsCons (gN 7) (gsCons (gN 8) gsNil))) (mTup (mCons (mMake "Cache" 6 f_Cache___init__ (mCons (mVar 6) (mCons (mVar 2) (mCons (mVar 3) (mCons (mVar 4) (mCons (mVar 5) mNil)))))) (mCons (mMake "Levels" 4 f_Levels___init__ (mCons (mVar 6) (mCons (mTup (mCons (mC (.int 2)) (mCons (mC (.int 2)) mNil))) (mCons (mTup (mCons (mC (.int 2)) (mCons (mC (.int 2)) (mCons (mC (.int 4)) mNil)))) mNil)))) mNil))))
def q_3 : Ev → Hm → SR := (sPar 9 10 (mCons (mLc [12] (mRg1 (mCons (mVar 2) mNil)) (gN 12) tYesM (mLst mNil)) (mCons (mC (.int 0)) mNil)))
def q_4 : Ev → Hm → SR := (sAsg (gN 11) (mCallF 2 f__law_roll (mCons (mVar 1) (mCons (mC (.int 41)) mNil))))
def q_5 : Ev → Hm → SR := (sAsg (gN 13) (mCallF 2 f__law_roll (mCons (mVar 1) (mCons (mC (.int 32)) mNil))))
def q_6 : Ev → Hm → SR := (sAsg (gN 14) (m2 fDiv (mVar 13) (mVar 4)))
def q_7 : Ev → Hm → SR := (sAsg (gN 15) (m2 fIx (mVar 9) (m2 fMod (mVar 14) (mVar 2))))
def q_8 : Ev → Hm → SR := (sAsg (gN 10) (m2 fAdd (mVar 10) (mCall fInt (mCons (m2 (fIn false) (mVar 14) (mVar 15)) mNil))))
def q_9 : Ev → Hm → SR := (sAsg (gN 15) (m2 fAdd (mLc [16] (mItA (mVar 15)) (gN 16) (mBool (m2 fNe (mVar 16) (mVar 14))) (mVar 16)) (mLst (mCons (mVar 14) mNil))))
def q_10 : Ev → Hm → SR := (sAsg (gSubM (mVar 9) (m2 fMod (mVar 14) (mVar 2))) (mIf (mBool (m2 fGt (mCall fLen (mCons (mVar 15) mNil)) (mVar 3))) (mSl (mVar 15) (mSome (m2 fSub (mCall fLen (mCons (mVar 15) mNil)) (mVar 3))) mNo) (mVar 15)))
def t_law_0 : Ev → Hm → SR := (sAsg (gSubM (mVar 6) (mVar 13)) (mCallF 2 f__law_roll (mCons (mVar 1) (mCons (mC (.int 99)) mNil))))
def t_law_1 : Ev → Hm → SR := (sDrop (mMethF "Cache" "store" 3 f_Cache_store (mVar 7) (mCons (mVar 13) (mCons (m2 fIx (mVar 6) (mVar 13)) mNil))))
def t_law_2 : Ev → Hm → SR := (sDrop (mMethF "Levels" "store" 3 f_Levels_store (mVar 8) (mCons (mVar 13) (mCons (m2 fIx (mVar 6) (mVar 13)) mNil))))
def t_law_3 : Ev → Hm → SR := (sIf (mAnd (mTru (mVar 5)) (mBool (m2 fNe (m2 fIx (mFld cs_words "words" (mVar 7)) (mVar 13)) (m2 fIx (mVar 6) (mVar 13)))))
  (sRet (mC (.bl false)))
  sNil)
def t_law_4 : Ev → Hm → SR := (sIf (mOr (mBool (m2 fNe (mMethF "Cache" "load" 2 f_Cache_load (mVar 7) (mCons (mVar 13) mNil)) (m2 fIx (mVar 6) (mVar 13)))) (mBool (m2 fNe (mMethF "Levels" "load" 2 f_Levels_load (mVar 8) (mCons (mVar 13) mNil)) (m2 fIx (mVar 6) (mVar 13)))))
  (sRet (mC (.bl false)))
  sNil)
def q_11 : Ev → Hm → SR := (sIf (mBool (m2 fEq (mCallF 2 f__law_roll (mCons (mVar 1) (mCons (mC (.int 2)) mNil))) (mC (.int 0))))
  (sSeq t_law_0
  (sSeq t_law_1
  (sSeq t_law_2
  t_law_3)))
  t_law_4)
def q_12 : Ev → Hm → SR := (sIf (mBool (m2 fNe (mCall fList (mCons (mMethF "Cache" "lines_held" 1 f_Cache_lines_held (mVar 7) mNil) mNil)) (mCall fSortedI (mCons (mCallF 1 f__law_flat (mCons (mLc [17] (mItA (mVar 9)) (gN 17) tYesM (mLc [16] (mItA (mVar 17)) (gN 16) tYesM (mVar 16))) mNil)) mNil))))
  (sRet (mC (.bl false)))
  sNil)
def l_law_0 : Ev → Hm → SR := (sSeq q_5 (sSeq q_6 (sSeq q_7 (sSeq q_8 (sSeq q_9 (sSeq q_10 (sSeq q_11 q_12)))))))
def q_13 : Ev → Hm → SR := (sFor (mRg1 (mCons (mVar 11) mNil)) (gN 12)
  l_law_0)
def q_14 : Ev → Hm → SR := (sIf (mOr (mBool (m2 fNe (mFld cs_hits "hits" (mVar 7)) (mVar 10))) (mBool (m2 fNe (mFld cs_misses "misses" (mVar 7)) (m2 fSub (mVar 11) (mVar 10)))))
  (sRet (mC (.bl false)))
  sNil)
def q_15 : Ev → Hm → SR := (sIf (mAnd (mTru (mVar 5)) (mOr (mBool (m2 fNe (mFld cs_words "words" (mVar 7)) (mVar 6))) (mBool (m2 fNe (mFld cs_put_out "put_out" (mVar 7)) (mC (.int 0))))))
  (sRet (mC (.bl false)))
  sNil)
def q_16 : Ev → Hm → SR := (sDrop (mMethF "Cache" "flush" 1 f_Cache_flush (mVar 7) mNil))
def q_17 : Ev → Hm → SR := (sIf (mOr (mBool (m2 fNe (mFld cs_words "words" (mVar 7)) (mVar 6))) (mOr (mBool (m2 fNe (mCall fList (mCons (mMethF "Levels" "all_words" 1 f_Levels_all_words (mVar 8) mNil) mNil)) (mVar 6))) (mBool (m2 fNe (mMethF "Cache" "lines_held" 1 f_Cache_lines_held (mVar 7) mNil) (mTup mNil)))))
  (sRet (mC (.bl false)))
  sNil)
def q_18 : Ev → Hm → SR := (sIf (mBool (m2 fNe (mTold told_cs (mMethF "Cache" "load" 2 f_Cache_load (mVar 7) (mCons (mC (.int 32)) mNil))) (mC (.str "order"))))
  (sRet (mC (.bl false)))
  sNil)
def q_19 : Ev → Hm → SR := (sIf (mBool (m2 fNe (mTold told_cs (mMake "Cache" 6 f_Cache___init__ (mCons (m2 fMul (mLst (mCons (mC (.int 0)) mNil)) (mC (.int 5))) (mCons (mC (.int 1)) (mCons (mC (.int 1)) (mCons (mC (.int 2)) (mCons (mC (.bl true)) mNil))))))) (mC (.str "order"))))
  (sRet (mC (.bl false)))
  sNil)
def l_law_1 : Ev → Hm → SR := (sSeq q_0 (sSeq q_1 (sSeq q_2 (sSeq q_3 (sSeq q_4 (sSeq q_13 (sSeq q_14 (sSeq q_15 (sSeq q_16 (sSeq q_17 (sSeq q_18 q_19)))))))))))
def t_law_5 : Ev → Hm → SR := (sFor (mItA (mCallF 2 f__law_rounds (mCons (mVar 0) (mCons (mC (.int 3)) mNil)))) (gN 1)
  l_law_1)
def b_law : Ev → Hm → SR := (sSeq t_law_5
  (sRet (mC (.bl true))))
def f_law : Fc := callM 18 1 b_law
end
end K09
end MM

namespace MM
namespace K09
open PySem L2
def top (i : Nat) : Stmt := PySem.Challenge.pw_corehall_k09_caches_over_memory.main.body.getD i (.Pass ⟨0, 0, 0, 0⟩)
def clsB (s : Stmt) : List Stmt := match s with
  | .ClassDef _ _ _ b _ _ _ _ _ _ _ => b
  | _ => []
def inC (i j : Nat) : Stmt := (clsB (top i)).getD j (.Pass ⟨0, 0, 0, 0⟩)
abbrev s__law_dice : Stmt := top 11
def df__law_dice : He.DefD := ⟨("_law_dice", none), "_law_dice", "_law_dice", defArgs s__law_dice, defBody s__law_dice, defScope s__law_dice, [], []⟩
abbrev s__law_rounds : Stmt := top 13
def df__law_rounds : He.DefD := ⟨("_law_rounds", none), "_law_rounds", "_law_rounds", defArgs s__law_rounds, defBody s__law_rounds, defScope s__law_rounds, [], []⟩
abbrev s__law_roll : Stmt := top 12
def df__law_roll : He.DefD := ⟨("_law_roll", none), "_law_roll", "_law_roll", defArgs s__law_roll, defBody s__law_roll, defScope s__law_roll, [], []⟩
abbrev s_Cache___init__ : Stmt := inC 7 0
def df_Cache___init__ : He.DefD := ⟨("Cache", some "__init__"), "__init__", "Cache.__init__", defArgs s_Cache___init__, defBody s_Cache___init__, defScope s_Cache___init__, [], []⟩
abbrev s_Levels___init__ : Stmt := inC 8 0
def df_Levels___init__ : He.DefD := ⟨("Levels", some "__init__"), "__init__", "Levels.__init__", defArgs s_Levels___init__, defBody s_Levels___init__, defScope s_Levels___init__, [], []⟩
abbrev s_Cache_write_back : Stmt := inC 7 2
def df_Cache_write_back : He.DefD := ⟨("Cache", some "write_back"), "write_back", "Cache.write_back", defArgs s_Cache_write_back, defBody s_Cache_write_back, defScope s_Cache_write_back, [], []⟩
abbrev s_Cache_line_at : Stmt := inC 7 1
def df_Cache_line_at : He.DefD := ⟨("Cache", some "line_at"), "line_at", "Cache.line_at", defArgs s_Cache_line_at, defBody s_Cache_line_at, defScope s_Cache_line_at, [], []⟩
abbrev s_Cache_store : Stmt := inC 7 4
def df_Cache_store : He.DefD := ⟨("Cache", some "store"), "store", "Cache.store", defArgs s_Cache_store, defBody s_Cache_store, defScope s_Cache_store, [], []⟩
abbrev s_Levels_find : Stmt := inC 8 1
def df_Levels_find : He.DefD := ⟨("Levels", some "find"), "find", "Levels.find", defArgs s_Levels_find, defBody s_Levels_find, defScope s_Levels_find, [], []⟩
abbrev s_Levels_put : Stmt := inC 8 3
def df_Levels_put : He.DefD := ⟨("Levels", some "put"), "put", "Levels.put", defArgs s_Levels_put, defBody s_Levels_put, defScope s_Levels_put, [], []⟩
abbrev s_Levels_store : Stmt := inC 8 4
def df_Levels_store : He.DefD := ⟨("Levels", some "store"), "store", "Levels.store", defArgs s_Levels_store, defBody s_Levels_store, defScope s_Levels_store, [], []⟩
abbrev s_Cache_load : Stmt := inC 7 3
def df_Cache_load : He.DefD := ⟨("Cache", some "load"), "load", "Cache.load", defArgs s_Cache_load, defBody s_Cache_load, defScope s_Cache_load, [], []⟩
abbrev s_Levels_load : Stmt := inC 8 2
def df_Levels_load : He.DefD := ⟨("Levels", some "load"), "load", "Levels.load", defArgs s_Levels_load, defBody s_Levels_load, defScope s_Levels_load, [], []⟩
abbrev s_Cache_lines_held : Stmt := inC 7 6
def df_Cache_lines_held : He.DefD := ⟨("Cache", some "lines_held"), "lines_held", "Cache.lines_held", defArgs s_Cache_lines_held, defBody s_Cache_lines_held, defScope s_Cache_lines_held, [], []⟩
abbrev s__law_flat : Stmt := top 10
def df__law_flat : He.DefD := ⟨("_law_flat", none), "_law_flat", "_law_flat", defArgs s__law_flat, defBody s__law_flat, defScope s__law_flat, [], []⟩
abbrev s_Cache_flush : Stmt := inC 7 5
def df_Cache_flush : He.DefD := ⟨("Cache", some "flush"), "flush", "Cache.flush", defArgs s_Cache_flush, defBody s_Cache_flush, defScope s_Cache_flush, [], []⟩
abbrev s_Levels_all_words : Stmt := inC 8 5
def df_Levels_all_words : He.DefD := ⟨("Levels", some "all_words"), "all_words", "Levels.all_words", defArgs s_Levels_all_words, defBody s_Levels_all_words, defScope s_Levels_all_words, [], []⟩
abbrev s_law : Stmt := top 15
def df_law : He.DefD := ⟨("law", none), "law", "law", defArgs s_law, defBody s_law, defScope s_law, [], []⟩
abbrev s__law_told : Stmt := top 14
def df__law_told : He.DefD := ⟨("_law_told", none), "_law_told", "_law_told", defArgs s__law_told, defBody s__law_told, defScope s__law_told, [], []⟩
def fa : List He.Fa := [.free "abs", .free "int", .glo "_law_dice", .glo "_law_rounds", .glo "_law_roll", .free "range", .free "len", .glo "BadOrder", .exc "BadOrder", .free "list", .cls "Cache", .noat "Cache" "words", .glo "Cache", .noat "Cache" "sets", .cls "Levels", .noat "Levels" "sets", .glo "Levels", .noat "Cache" "ways", .noat "Levels" "ways", .noat "Cache" "long", .noat "Cache" "through", .noat "Cache" "hits", .noat "Levels" "hits", .noat "Cache" "misses", .noat "Levels" "misses", .noat "Cache" "put_out", .mkr "Cache", .noat "Levels" "under", .mkr "Levels", .free "enumerate", .meth "Cache" "write_back", .meth "Cache" "line_at", .meth "Cache" "store", .meth "Levels" "find", .meth "Levels" "put", .meth "Levels" "store", .meth "Cache" "load", .meth "Levels" "load", .free "tuple", .free "sorted", .meth "Cache" "lines_held", .glo "_law_flat", .meth "Cache" "flush", .meth "Levels" "all_words", .glo "_law_told", .exm "BadOrder" "BadOrder" true, .glo "BadProgram", .exm "BadProgram" "BadOrder" false, .exm "BadProgram" "BadProgram" true, .glo "NoWay", .exm "NoWay" "BadOrder" false, .exm "NoWay" "BadProgram" false, .exm "NoWay" "NoWay" true, .glo "TooLarge", .exm "TooLarge" "BadOrder" false, .exm "TooLarge" "BadProgram" false, .exm "TooLarge" "NoWay" false, .exm "TooLarge" "TooLarge" true, .glo "law"]
def fn : List He.DefD := [df__law_dice, df__law_rounds, df__law_roll, df_Cache___init__, df_Levels___init__, df_Cache_write_back, df_Cache_line_at, df_Cache_store, df_Levels_find, df_Levels_put, df_Levels_store, df_Cache_load, df_Levels_load, df_Cache_lines_held, df__law_flat, df_Cache_flush, df_Levels_all_words, df_law, df__law_told]
abbrev tfp_0 : He.Defn × Str := (("law", none), ("law" : Str) ++ ".<locals>." ++ "<lambda>")
def tf : List (He.Defn × Str) := [tfp_0]
theorem tfm (i : Nat) {p : He.Defn × Str} (h : tf[i]? = some p := by rfl) : p ∈ tf := List.mem_of_getElem? h
def ex (K : PySem.W.Frag) : Bool := true && tabNd K tf
section
variable {P : Program} {w : World} {K : PySem.W.Frag} {mg : Str → Option Value} {base h : Heap} {T : List (Addr × Str)}
/-- what the head tells -/
structure Cf (K : PySem.W.Frag) : Prop where
  d : He.SaysD fa fn K
  e : ex K = true
section
variable (XI : K.In h) (G : h.Ns mainGlobals mg) (c : Cf K) (TB : ∀ p ∈ tf, LamX.TabB base mg (He.cT K p.1).1 (He.cT K p.1).2)
include c
theorem x_BadOrder : (He.Fa.exc "BadOrder").ok K = true := c.d.fact 8 (f := .exc "BadOrder") rfl
theorem c_Cache : (He.Fa.cls "Cache").ok K = true := c.d.fact 10 (f := .cls "Cache") rfl
theorem a_Cache_words : (He.Fa.noat "Cache" "words").ok K = true := c.d.fact 11 (f := .noat "Cache" "words") rfl
theorem a_Cache_sets : (He.Fa.noat "Cache" "sets").ok K = true := c.d.fact 13 (f := .noat "Cache" "sets") rfl
theorem c_Levels : (He.Fa.cls "Levels").ok K = true := c.d.fact 14 (f := .cls "Levels") rfl
theorem a_Levels_sets : (He.Fa.noat "Levels" "sets").ok K = true := c.d.fact 15 (f := .noat "Levels" "sets") rfl
theorem a_Cache_ways : (He.Fa.noat "Cache" "ways").ok K = true := c.d.fact 17 (f := .noat "Cache" "ways") rfl
theorem a_Levels_ways : (He.Fa.noat "Levels" "ways").ok K = true := c.d.fact 18 (f := .noat "Levels" "ways") rfl
theorem a_Cache_long : (He.Fa.noat "Cache" "long").ok K = true := c.d.fact 19 (f := .noat "Cache" "long") rfl
theorem a_Cache_through : (He.Fa.noat "Cache" "through").ok K = true := c.d.fact 20 (f := .noat "Cache" "through") rfl
theorem a_Cache_hits : (He.Fa.noat "Cache" "hits").ok K = true := c.d.fact 21 (f := .noat "Cache" "hits") rfl
theorem a_Levels_hits : (He.Fa.noat "Levels" "hits").ok K = true := c.d.fact 22 (f := .noat "Levels" "hits") rfl
theorem a_Cache_misses : (He.Fa.noat "Cache" "misses").ok K = true := c.d.fact 23 (f := .noat "Cache" "misses") rfl
theorem a_Levels_misses : (He.Fa.noat "Levels" "misses").ok K = true := c.d.fact 24 (f := .noat "Levels" "misses") rfl
theorem a_Cache_put_out : (He.Fa.noat "Cache" "put_out").ok K = true := c.d.fact 25 (f := .noat "Cache" "put_out") rfl
theorem k_Cache : (He.Fa.mkr "Cache").ok K = true := c.d.fact 26 (f := .mkr "Cache") rfl
theorem a_Levels_under : (He.Fa.noat "Levels" "under").ok K = true := c.d.fact 27 (f := .noat "Levels" "under") rfl
theorem k_Levels : (He.Fa.mkr "Levels").ok K = true := c.d.fact 28 (f := .mkr "Levels") rfl
theorem m_Cache_write_back : (He.Fa.meth "Cache" "write_back").ok K = true := c.d.fact 30 (f := .meth "Cache" "write_back") rfl
theorem m_Cache_line_at : (He.Fa.meth "Cache" "line_at").ok K = true := c.d.fact 31 (f := .meth "Cache" "line_at") rfl
theorem m_Cache_store : (He.Fa.meth "Cache" "store").ok K = true := c.d.fact 32 (f := .meth "Cache" "store") rfl
theorem m_Levels_find : (He.Fa.meth "Levels" "find").ok K = true := c.d.fact 33 (f := .meth "Levels" "find") rfl
theorem m_Levels_put : (He.Fa.meth "Levels" "put").ok K = true := c.d.fact 34 (f := .meth "Levels" "put") rfl
theorem m_Levels_store : (He.Fa.meth "Levels" "store").ok K = true := c.d.fact 35 (f := .meth "Levels" "store") rfl
theorem m_Cache_load : (He.Fa.meth "Cache" "load").ok K = true := c.d.fact 36 (f := .meth "Cache" "load") rfl
theorem m_Levels_load : (He.Fa.meth "Levels" "load").ok K = true := c.d.fact 37 (f := .meth "Levels" "load") rfl
theorem m_Cache_lines_held : (He.Fa.meth "Cache" "lines_held").ok K = true := c.d.fact 40 (f := .meth "Cache" "lines_held") rfl
theorem m_Cache_flush : (He.Fa.meth "Cache" "flush").ok K = true := c.d.fact 42 (f := .meth "Cache" "flush") rfl
theorem m_Levels_all_words : (He.Fa.meth "Levels" "all_words").ok K = true := c.d.fact 43 (f := .meth "Levels" "all_words") rfl
theorem e_BadOrder_BadOrder : (He.Fa.exm "BadOrder" "BadOrder" true).ok K = true := c.d.fact 45 (f := .exm "BadOrder" "BadOrder" true) rfl
theorem e_BadProgram_BadOrder : (He.Fa.exm "BadProgram" "BadOrder" false).ok K = true := c.d.fact 47 (f := .exm "BadProgram" "BadOrder" false) rfl
theorem e_BadProgram_BadProgram : (He.Fa.exm "BadProgram" "BadProgram" true).ok K = true := c.d.fact 48 (f := .exm "BadProgram" "BadProgram" true) rfl
theorem e_NoWay_BadOrder : (He.Fa.exm "NoWay" "BadOrder" false).ok K = true := c.d.fact 50 (f := .exm "NoWay" "BadOrder" false) rfl
theorem e_NoWay_BadProgram : (He.Fa.exm "NoWay" "BadProgram" false).ok K = true := c.d.fact 51 (f := .exm "NoWay" "BadProgram" false) rfl
theorem e_NoWay_NoWay : (He.Fa.exm "NoWay" "NoWay" true).ok K = true := c.d.fact 52 (f := .exm "NoWay" "NoWay" true) rfl
theorem e_TooLarge_BadOrder : (He.Fa.exm "TooLarge" "BadOrder" false).ok K = true := c.d.fact 54 (f := .exm "TooLarge" "BadOrder" false) rfl
theorem e_TooLarge_BadProgram : (He.Fa.exm "TooLarge" "BadProgram" false).ok K = true := c.d.fact 55 (f := .exm "TooLarge" "BadProgram" false) rfl
theorem e_TooLarge_NoWay : (He.Fa.exm "TooLarge" "NoWay" false).ok K = true := c.d.fact 56 (f := .exm "TooLarge" "NoWay" false) rfl
theorem e_TooLarge_TooLarge : (He.Fa.exm "TooLarge" "TooLarge" true).ok K = true := c.d.fact 57 (f := .exm "TooLarge" "TooLarge" true) rfl
include XI G
theorem n_abs : mg "abs" = none := He.free_ok XI G (c.d.fact 0 (f := .free "abs") rfl)
theorem n_int : mg "int" = none := He.free_ok XI G (c.d.fact 1 (f := .free "int") rfl)
theorem g__law_dice : mg "_law_dice" = some (.ref (He.ga K "_law_dice")) := He.glo_ok XI G (c.d.fact 2 (f := .glo "_law_dice") rfl)
theorem g__law_rounds : mg "_law_rounds" = some (.ref (He.ga K "_law_rounds")) := He.glo_ok XI G (c.d.fact 3 (f := .glo "_law_rounds") rfl)
theorem g__law_roll : mg "_law_roll" = some (.ref (He.ga K "_law_roll")) := He.glo_ok XI G (c.d.fact 4 (f := .glo "_law_roll") rfl)
theorem n_range : mg "range" = none := He.free_ok XI G (c.d.fact 5 (f := .free "range") rfl)
theorem n_len : mg "len" = none := He.free_ok XI G (c.d.fact 6 (f := .free "len") rfl)
theorem g_BadOrder : mg "BadOrder" = some (.ref (He.ga K "BadOrder")) := He.glo_ok XI G (c.d.fact 7 (f := .glo "BadOrder") rfl)
theorem n_list : mg "list" = none := He.free_ok XI G (c.d.fact 9 (f := .free "list") rfl)
theorem g_Cache : mg "Cache" = some (.ref (He.ga K "Cache")) := He.glo_ok XI G (c.d.fact 12 (f := .glo "Cache") rfl)
theorem g_Levels : mg "Levels" = some (.ref (He.ga K "Levels")) := He.glo_ok XI G (c.d.fact 16 (f := .glo "Levels") rfl)
theorem n_enumerate : mg "enumerate" = none := He.free_ok XI G (c.d.fact 29 (f := .free "enumerate") rfl)
theorem n_tuple : mg "tuple" = none := He.free_ok XI G (c.d.fact 38 (f := .free "tuple") rfl)
theorem n_sorted : mg "sorted" = none := He.free_ok XI G (c.d.fact 39 (f := .free "sorted") rfl)
theorem g__law_flat : mg "_law_flat" = some (.ref (He.ga K "_law_flat")) := He.glo_ok XI G (c.d.fact 41 (f := .glo "_law_flat") rfl)
theorem g__law_told : mg "_law_told" = some (.ref (He.ga K "_law_told")) := He.glo_ok XI G (c.d.fact 44 (f := .glo "_law_told") rfl)
theorem g_BadProgram : mg "BadProgram" = some (.ref (He.ga K "BadProgram")) := He.glo_ok XI G (c.d.fact 46 (f := .glo "BadProgram") rfl)
theorem g_NoWay : mg "NoWay" = some (.ref (He.ga K "NoWay")) := He.glo_ok XI G (c.d.fact 49 (f := .glo "NoWay") rfl)
theorem g_TooLarge : mg "TooLarge" = some (.ref (He.ga K "TooLarge")) := He.glo_ok XI G (c.d.fact 53 (f := .glo "TooLarge") rfl)
theorem g_law : mg "law" = some (.ref (He.ga K "law")) := He.glo_ok XI G (c.d.fact 58 (f := .glo "law") rfl)
theorem fo_words : ∀ c ∈ cs_words, ∀ C, mg c = some (.ref C) → Cls K C ∧ NoAttr K C "words" := by
  intro x hx C e
  unfold cs_words at hx
  simp only [List.mem_cons, List.not_mem_nil, or_false] at hx
  rcases hx with rfl
  · rw [g_Cache XI G c] at e
    cases e
    exact ⟨He.cls_ok (c_Cache c), He.noat_ok (a_Cache_words c)⟩
theorem fo_sets : ∀ c ∈ cs_sets, ∀ C, mg c = some (.ref C) → Cls K C ∧ NoAttr K C "sets" := by
  intro x hx C e
  unfold cs_sets at hx
  simp only [List.mem_cons, List.not_mem_nil, or_false] at hx
  rcases hx with rfl | rfl
  · rw [g_Cache XI G c] at e
    cases e
    exact ⟨He.cls_ok (c_Cache c), He.noat_ok (a_Cache_sets c)⟩
  · rw [g_Levels XI G c] at e
    cases e
    exact ⟨He.cls_ok (c_Levels c), He.noat_ok (a_Levels_sets c)⟩
theorem fo_ways : ∀ c ∈ cs_ways, ∀ C, mg c = some (.ref C) → Cls K C ∧ NoAttr K C "ways" := by
  intro x hx C e
  unfold cs_ways at hx
  simp only [List.mem_cons, List.not_mem_nil, or_false] at hx
  rcases hx with rfl | rfl
  · rw [g_Cache XI G c] at e
    cases e
    exact ⟨He.cls_ok (c_Cache c), He.noat_ok (a_Cache_ways c)⟩
  · rw [g_Levels XI G c] at e
    cases e
    exact ⟨He.cls_ok (c_Levels c), He.noat_ok (a_Levels_ways c)⟩
theorem fo_long : ∀ c ∈ cs_long, ∀ C, mg c = some (.ref C) → Cls K C ∧ NoAttr K C "long" := by
  intro x hx C e
  unfold cs_long at hx
  simp only [List.mem_cons, List.not_mem_nil, or_false] at hx
  rcases hx with rfl
  · rw [g_Cache XI G c] at e
    cases e
    exact ⟨He.cls_ok (c_Cache c), He.noat_ok (a_Cache_long c)⟩
theorem fo_through : ∀ c ∈ cs_through, ∀ C, mg c = some (.ref C) → Cls K C ∧ NoAttr K C "through" := by
  intro x hx C e
  unfold cs_through at hx
  simp only [List.mem_cons, List.not_mem_nil, or_false] at hx
  rcases hx with rfl
  · rw [g_Cache XI G c] at e
    cases e
    exact ⟨He.cls_ok (c_Cache c), He.noat_ok (a_Cache_through c)⟩
theorem fo_hits : ∀ c ∈ cs_hits, ∀ C, mg c = some (.ref C) → Cls K C ∧ NoAttr K C "hits" := by
  intro x hx C e
  unfold cs_hits at hx
  simp only [List.mem_cons, List.not_mem_nil, or_false] at hx
  rcases hx with rfl | rfl
  · rw [g_Cache XI G c] at e
    cases e
    exact ⟨He.cls_ok (c_Cache c), He.noat_ok (a_Cache_hits c)⟩
  · rw [g_Levels XI G c] at e
    cases e
    exact ⟨He.cls_ok (c_Levels c), He.noat_ok (a_Levels_hits c)⟩
theorem fo_misses : ∀ c ∈ cs_misses, ∀ C, mg c = some (.ref C) → Cls K C ∧ NoAttr K C "misses" := by
  intro x hx C e
  unfold cs_misses at hx
  simp only [List.mem_cons, List.not_mem_nil, or_false] at hx
  rcases hx with rfl | rfl
  · rw [g_Cache XI G c] at e
    cases e
    exact ⟨He.cls_ok (c_Cache c), He.noat_ok (a_Cache_misses c)⟩
  · rw [g_Levels XI G c] at e
    cases e
    exact ⟨He.cls_ok (c_Levels c), He.noat_ok (a_Levels_misses c)⟩
theorem fo_put_out : ∀ c ∈ cs_put_out, ∀ C, mg c = some (.ref C) → Cls K C ∧ NoAttr K C "put_out" := by
  intro x hx C e
  unfold cs_put_out at hx
  simp only [List.mem_cons, List.not_mem_nil, or_false] at hx
  rcases hx with rfl
  · rw [g_Cache XI G c] at e
    cases e
    exact ⟨He.cls_ok (c_Cache c), He.noat_ok (a_Cache_put_out c)⟩
theorem fo_under : ∀ c ∈ cs_under, ∀ C, mg c = some (.ref C) → Cls K C ∧ NoAttr K C "under" := by
  intro x hx C e
  unfold cs_under at hx
  simp only [List.mem_cons, List.not_mem_nil, or_false] at hx
  rcases hx with rfl
  · rw [g_Levels XI G c] at e
    cases e
    exact ⟨He.cls_ok (c_Levels c), He.noat_ok (a_Levels_under c)⟩
omit XI G in
theorem tnd : tabNd K tf = true := (He.ba c.e).2
omit XI G c in
theorem sc__law_told : FnScope ["what"] ["what"] (defScope s__law_told) := ⟨rfl, rfl, rfl, by decide +kernel, rfl, by decide +kernel, by decide +kernel⟩
theorem td : ToldOk K mg "_law_told" (He.ga K "_law_told") told_cs := by
  obtain ⟨fd, F⟩ := c.d.def_ 18 (d := df__law_told) rfl
  refine ⟨"what", _, _, _, _, _, _, _, _, ["what"], _, fd, F, F.bindsN (fun _ _ _ _ _ _ us hl => match us, hl with | [_], _ => rfl), sc__law_told, rfl, Or.inl rfl, (Hds.cons rfl (g_BadOrder XI G c) rfl (Hds.cons rfl (g_BadProgram XI G c) rfl (Hds.cons rfl (g_NoWay XI G c) rfl (Hds.cons rfl (g_TooLarge XI G c) rfl .nil)))), fun f => rfl, ?_, rfl, rfl⟩
  intro x t e C eC Q H qq
  unfold told_cs at e
  simp only [tellL] at e
  split at e
  · rename_i hx
    subst hx
    cases e
    rw [g_BadOrder XI G c] at eC
    cases eC
    exact ⟨true, He.exm_ok (e_BadOrder_BadOrder c), fun _ => qq, fun z => by cases z⟩
  split at e
  · rename_i hx
    subst hx
    cases e
    rw [g_BadProgram XI G c] at eC
    cases eC
    exact ⟨false, He.exm_ok (e_BadProgram_BadOrder c), fun z => (by cases z), fun _ => ⟨true, He.exm_ok (e_BadProgram_BadProgram c), fun _ => qq, fun z => by cases z⟩⟩
  split at e
  · rename_i hx
    subst hx
    cases e
    rw [g_NoWay XI G c] at eC
    cases eC
    exact ⟨false, He.exm_ok (e_NoWay_BadOrder c), fun z => (by cases z), fun _ => ⟨false, He.exm_ok (e_NoWay_BadProgram c), fun z => (by cases z), fun _ => ⟨true, He.exm_ok (e_NoWay_NoWay c), fun _ => qq, fun z => by cases z⟩⟩⟩
  split at e
  · rename_i hx
    subst hx
    cases e
    rw [g_TooLarge XI G c] at eC
    cases eC
    exact ⟨false, He.exm_ok (e_TooLarge_BadOrder c), fun z => (by cases z), fun _ => ⟨false, He.exm_ok (e_TooLarge_BadProgram c), fun z => (by cases z), fun _ => ⟨false, He.exm_ok (e_TooLarge_NoWay c), fun z => (by cases z), fun _ => ⟨true, He.exm_ok (e_TooLarge_TooLarge c), fun _ => qq, fun z => by cases z⟩⟩⟩⟩
  cases e
include TB
def N__law_dice : List Str := ["cell"]
omit XI G c TB in
theorem sc__law_dice : FnScope N__law_dice ["cell"] (defScope s__law_dice) := ⟨rfl, rfl, rfl, by decide +kernel, rfl, by decide +kernel, by decide +kernel⟩
theorem w__law_dice : FunM P w K mg base (tabT K tf) 1 (He.ga K "_law_dice") 1 f__law_dice := by
  obtain ⟨fd, F⟩ := c.d.def_ 0 (d := df__law_dice) rfl
  refine def_m (k := 0) (N := N__law_dice) F sc__law_dice (fun _ _ _ _ _ _ us hl => match us, hl with | [_], _ => rfl) fun cdv  A outer s H E hr tk hp => ?_
  have hu1 := hu_of hr
  have hu4 := hr.units
  have hu5 := hu65 hr
  have nd := sc__law_dice.nd
  exact (ssm_cons (sm_if (tm_chain op_lt o2_B0 op_lt o2_B0 (em_sub em_int em_int) (em_var 0) em_int)
  (ssm_one (sm_ret (em_lst (am_cons (em_callB call_abs oc_abs rfl (n_abs XI G c) (am_cons (em_var 0) am_nil) rfl) (am_cons em_int (am_cons em_int am_nil))) (len_cons (len_cons (len_cons len_nil))))))
  ssm_nil)
  (ssm_one (sm_ret (em_lst (am_cons (em_var 0) (am_cons (em_add em_int (em_mod (em_callTy call_int1 oc_int rfl (n_int XI G c) (am_cons (em_var 0) am_nil) rfl) em_int)) (am_cons (em_callTy call_int1 oc_int rfl (n_int XI G c) (am_cons (em_ge (em_var 0) (em_pow em_int em_int)) am_nil) rfl) am_nil))) (len_cons (len_cons (len_cons len_nil)))))))
def N__law_rounds : List Str := ["script", "most", "cells", "cell"]
omit XI G c TB in
theorem sc__law_rounds : FnScope N__law_rounds ["script", "most"] (defScope s__law_rounds) := ⟨rfl, rfl, rfl, by decide +kernel, rfl, by decide +kernel, by decide +kernel⟩
theorem w__law_rounds : FunM P w K mg base (tabT K tf) 2 (He.ga K "_law_rounds") 2 f__law_rounds := by
  obtain ⟨fd, F⟩ := c.d.def_ 1 (d := df__law_rounds) rfl
  refine def_m (k := 1) (N := N__law_rounds) F sc__law_rounds (fun _ _ _ _ _ _ us hl => match us, hl with | [_, _], _ => rfl) fun cdv  A outer s H E hr tk hp => ?_
  have hu1 := hu_of hr
  have hu4 := hr.units
  have hu5 := hu65 hr
  have nd := sc__law_rounds.nd
  exact (ssm_cons (sm_set 2 nd (em_sl (em_var 0) om_none (om_some (em_var 1))))
  (ssm_cons (sm_if (tm_eq hu4 (em_var 2) (em_lst am_nil len_nil))
  (ssm_one (sm_set 2 nd (em_lst (am_cons em_int am_nil) (len_cons len_nil))))
  ssm_nil)
  (ssm_one (sm_ret (em_lc [("cell", 3)] rfl nd (im_any (em_var 2)) (blkOk_by rfl) (fun _ _ _ _ _ => (gw_name 3 nd)) (fun _ _ _ _ _ => tsm_nil) (fun _ _ _ _ _ => (em_call (w__law_dice XI G c TB) hr (by decide) rfl (g__law_dice XI G c) takesF (am_cons (em_var 3) am_nil))))))))
def N__law_roll : List Str := ["dice", "many", "found"]
omit XI G c TB in
theorem sc__law_roll : FnScope N__law_roll ["dice", "many"] (defScope s__law_roll) := ⟨rfl, rfl, rfl, by decide +kernel, rfl, by decide +kernel, by decide +kernel⟩
theorem w__law_roll : FunM P w K mg base (tabT K tf) 1 (He.ga K "_law_roll") 2 f__law_roll := by
  obtain ⟨fd, F⟩ := c.d.def_ 2 (d := df__law_roll) rfl
  refine def_m (k := 0) (N := N__law_roll) F sc__law_roll (fun _ _ _ _ _ _ us hl => match us, hl with | [_, _], _ => rfl) fun cdv  A outer s H E hr tk hp => ?_
  have hu1 := hu_of hr
  have hu4 := hr.units
  have hu5 := hu65 hr
  have nd := sc__law_roll.nd
  exact (ssm_cons (sm_if (tm_wm (wm_or (tm_eq hu4 (em_ix hu1 (em_var 0) em_int) em_int) (wm_or1 (tm_wm (wm_and (tm_eq hu4 (em_ix hu1 (em_var 0) em_int) em_int) (wm_and1 (tm_gt (em_ix hu1 (em_var 0) em_int) em_int)))))))
  (ssm_cons (sm_set 2 nd (em_mod (em_callTy call_int1 oc_int rfl (n_int XI G c) (am_cons (em_ix hu1 (em_var 0) em_int) am_nil) rfl) (em_var 1)))
  (ssm_cons (sm_asg (gm_sub hu1 (em_var 0) em_int) (em_div (em_ix hu1 (em_var 0) em_int) (em_var 1)))
  (ssm_one (sm_ret (em_var 2)))))
  ssm_nil)
  (ssm_cons (sm_asg (gm_sub hu1 (em_var 0) em_int) em_int)
  (ssm_cons (sm_asg (gm_sub hu1 (em_var 0) em_int) (em_mod (em_callTy call_int1 oc_int rfl (n_int XI G c) (am_cons (em_add (em_add (em_mul (em_ix hu1 (em_var 0) em_int) em_int) (em_mul (em_ix hu1 (em_var 0) em_int) em_int)) em_int) am_nil) rfl) em_int))
  (ssm_cons (sm_asg (gm_sub hu1 (em_var 0) em_int) (em_add (em_ix hu1 (em_var 0) em_int) em_int))
  (ssm_one (sm_ret (em_mod (em_callTy call_int1 oc_int rfl (n_int XI G c) (am_cons (em_add (em_div (em_ix hu1 (em_var 0) em_int) em_int) (em_ix hu1 (em_var 0) em_int)) am_nil) rfl) (em_var 1))))))))
def N_Cache___init__ : List Str := ["self", "words", "sets", "ways", "long", "through", "k"]
omit XI G c TB in
theorem sc_Cache___init__ : FnScope N_Cache___init__ ["self", "words", "sets", "ways", "long", "through"] (defScope s_Cache___init__) := ⟨rfl, rfl, rfl, by decide +kernel, rfl, by decide +kernel, by decide +kernel⟩
theorem w_Cache___init__ : FunM P w K mg base (tabT K tf) 1 (He.ma K (He.ga K "Cache") "__init__") 6 f_Cache___init__ := by
  obtain ⟨fd, F⟩ := c.d.def_ 3 (d := df_Cache___init__) rfl
  rw [f_Cache___init___eq]
  refine def_m (k := 0) (N := N_Cache___init__) F sc_Cache___init__ (fun _ _ _ _ _ _ us hl => match us, hl with | [_, _, _, _, _, _], _ => rfl) fun cdv  A outer s H E hr tk hp => ?_
  have hu1 := hu_of hr
  have hu4 := hr.units
  have hu5 := hu65 hr
  have nd := sc_Cache___init__.nd
  exact (ssm_cons (sm_if (tm_wm (wm_or (tm_lt (em_var 2) em_int) (wm_or (tm_lt (em_var 3) em_int) (wm_or (tm_lt (em_var 4) em_int) (wm_or1 (tm_ne hu4 (em_mod (em_callB cr_len oc_len rfl (n_len XI G c) (am_cons (em_var 1) am_nil) rfl) (em_var 4)) em_int))))))
  (ssm_one (sm_raise rfl tk PySem.F.excBase_ValueError (He.exc_ok (x_BadOrder c)).1 (g_BadOrder XI G c) (He.exc_ok (x_BadOrder c)).2.1 (raises_own (He.exc_ok (x_BadOrder c)).2.2.1 (He.exc_ok (x_BadOrder c)).2.2.2) rfl))
  ssm_nil)
  (ssm_cons (sm_fld (fo_words XI G c) (em_var 0) (em_callTy call_list_of oc_list rfl (n_list XI G c) (am_cons (em_var 1) am_nil) rfl))
  (ssm_cons (sm_fld (fo_sets XI G c) (em_var 0) (em_lc [("k", 6)] rfl nd (im_range1 rfl (n_range XI G c) (am_cons (em_var 2) am_nil)) (blkOk_by rfl) (fun _ _ _ _ _ => (gw_name 6 nd)) (fun _ _ _ _ _ => tsm_nil) (fun _ _ _ _ _ => (em_lst am_nil len_nil))))
  (ssm_cons (sm_fld (fo_ways XI G c) (em_var 0) (em_var 3))
  (ssm_cons (sm_fld (fo_long XI G c) (em_var 0) (em_var 4))
  (ssm_cons (sm_fld (fo_through XI G c) (em_var 0) (em_var 5))
  (ssm_cons (sm_fld (fo_hits XI G c) (em_var 0) em_int)
  (ssm_cons (sm_fld (fo_misses XI G c) (em_var 0) em_int)
  (ssm_one (sm_fld (fo_put_out XI G c) (em_var 0) em_int))))))))))
def N_Levels___init__ : List Str := ["self", "words", "first", "second", "k"]
omit XI G c TB in
theorem sc_Levels___init__ : FnScope N_Levels___init__ ["self", "words", "first", "second"] (defScope s_Levels___init__) := ⟨rfl, rfl, rfl, by decide +kernel, rfl, by decide +kernel, by decide +kernel⟩
theorem w_Levels___init__ : FunM P w K mg base (tabT K tf) 3 (He.ma K (He.ga K "Levels") "__init__") 4 f_Levels___init__ := by
  obtain ⟨fd, F⟩ := c.d.def_ 4 (d := df_Levels___init__) rfl
  rw [f_Levels___init___eq]
  refine def_m (k := 2) (N := N_Levels___init__) F sc_Levels___init__ (fun _ _ _ _ _ _ us hl => match us, hl with | [_, _, _, _], _ => rfl) fun cdv  A outer s H E hr tk hp => ?_
  have hu1 := hu_of hr
  have hu4 := hr.units
  have hu5 := hu65 hr
  have nd := sc_Levels___init__.nd
  exact (ssm_cons (sm_fld (fo_under XI G c) (em_var 0) (em_make (He.mkr_ok (k_Cache c)) (w_Cache___init__ XI G c TB) hr (by decide) rfl (g_Cache XI G c) tk (am_cons (em_var 1) (am_cons (em_ix hu1 (em_var 3) em_int) (am_cons (em_ix hu1 (em_var 3) em_int) (am_cons (em_ix hu1 (em_var 3) em_int) (am_cons em_bl am_nil)))))))
  (ssm_cons (sm_fld (fo_sets XI G c) (em_var 0) (em_lc [("k", 4)] rfl nd (im_range1 rfl (n_range XI G c) (am_cons (em_ix hu1 (em_var 2) em_int) am_nil)) (blkOk_by rfl) (fun _ _ _ _ _ => (gw_name 4 nd)) (fun _ _ _ _ _ => tsm_nil) (fun _ _ _ _ _ => (em_lst am_nil len_nil))))
  (ssm_cons (sm_fld (fo_ways XI G c) (em_var 0) (em_ix hu1 (em_var 2) em_int))
  (ssm_cons (sm_fld (fo_hits XI G c) (em_var 0) em_int)
  (ssm_one (sm_fld (fo_misses XI G c) (em_var 0) em_int))))))
def N_Cache_write_back : List Str := ["self", "line", "start"]
omit XI G c TB in
theorem sc_Cache_write_back : FnScope N_Cache_write_back ["self", "line"] (defScope s_Cache_write_back) := ⟨rfl, rfl, rfl, by decide +kernel, rfl, by decide +kernel, by decide +kernel⟩
theorem w_Cache_write_back : FunM P w K mg base (tabT K tf) 1 (He.ma K (He.ga K "Cache") "write_back") 2 f_Cache_write_back := by
  obtain ⟨fd, F⟩ := c.d.def_ 5 (d := df_Cache_write_back) rfl
  rw [f_Cache_write_back_eq]
  refine def_m (k := 0) (N := N_Cache_write_back) F sc_Cache_write_back (fun _ _ _ _ _ _ us hl => match us, hl with | [_, _], _ => rfl) fun cdv  A outer s H E hr tk hp => ?_
  have hu1 := hu_of hr
  have hu4 := hr.units
  have hu5 := hu65 hr
  have nd := sc_Cache_write_back.nd
  exact (ssm_one (sm_if (tm_tru (em_ix hu1 (em_var 1) em_int))
  (ssm_cons (sm_flda (fo_put_out XI G c) iop_add o2_I0 (em_var 0) em_int)
  (ssm_cons (sm_set 2 nd (em_mul (em_ix hu1 (em_var 1) em_int) (em_fld (fo_long XI G c) (em_var 0))))
  (ssm_cons (sm_asg (gm_sl (em_fld (fo_words XI G c) (em_var 0)) (om_some (em_var 2)) (om_some (em_add (em_var 2) (em_fld (fo_long XI G c) (em_var 0))))) (em_ix hu1 (em_var 1) em_int))
  (ssm_one (sm_asg (gm_sub hu1 (em_var 1) em_int) em_bl)))))
  ssm_nil))
def N_Cache_line_at : List Str := ["self", "address", "number", "row", "there", "start", "k", "line"]
omit XI G c TB in
theorem sc_Cache_line_at : FnScope N_Cache_line_at ["self", "address"] (defScope s_Cache_line_at) := ⟨rfl, rfl, rfl, by decide +kernel, rfl, by decide +kernel, by decide +kernel⟩
theorem w_Cache_line_at : FunM P w K mg base (tabT K tf) 2 (He.ma K (He.ga K "Cache") "line_at") 2 f_Cache_line_at := by
  obtain ⟨fd, F⟩ := c.d.def_ 6 (d := df_Cache_line_at) rfl
  rw [f_Cache_line_at_eq]
  refine def_m (k := 1) (N := N_Cache_line_at) F sc_Cache_line_at (fun _ _ _ _ _ _ us hl => match us, hl with | [_, _], _ => rfl) fun cdv  A outer s H E hr tk hp => ?_
  have hu1 := hu_of hr
  have hu4 := hr.units
  have hu5 := hu65 hr
  have nd := sc_Cache_line_at.nd
  exact (ssm_cons (sm_if (tm_not (tm_chain op_le o2_B0 op_lt o2_B0 em_int (em_var 1) (em_callB cr_len oc_len rfl (n_len XI G c) (am_cons (em_fld (fo_words XI G c) (em_var 0)) am_nil) rfl)))
  (ssm_one (sm_raise rfl tk PySem.F.excBase_ValueError (He.exc_ok (x_BadOrder c)).1 (g_BadOrder XI G c) (He.exc_ok (x_BadOrder c)).2.1 (raises_own (He.exc_ok (x_BadOrder c)).2.2.1 (He.exc_ok (x_BadOrder c)).2.2.2) rfl))
  ssm_nil)
  (ssm_cons (sm_set 2 nd (em_div (em_var 1) (em_fld (fo_long XI G c) (em_var 0))))
  (ssm_cons (sm_set 3 nd (em_ix hu1 (em_fld (fo_sets XI G c) (em_var 0)) (em_mod (em_var 2) (em_callB cr_len oc_len rfl (n_len XI G c) (am_cons (em_fld (fo_sets XI G c) (em_var 0)) am_nil) rfl))))
  (ssm_cons (sm_setLc 4 [("k", 6), ("line", 7)] rfl nd (im_enum rfl (n_enumerate XI G c) (am_cons (em_var 3) am_nil)) (blkOk_by rfl) (fun _ _ _ _ _ => (gw_unp rfl (gsw_cons (gw_name 6 nd) (gsw_cons (gw_name 7 nd) gsw_nil)))) (fun _ _ _ _ _ => (tsm_one (tm_eq hu4 (em_ix hu1 (em_var 7) em_int) (em_var 2)))) (fun _ _ _ _ _ => (em_var 6)) (sw_true rfl rfl rfl rfl))
  (ssm_cons (sm_if (tm_ne hu4 (em_var 4) (em_lst am_nil len_nil))
  (ssm_cons (sm_flda (fo_hits XI G c) iop_add o2_I0 (em_var 0) em_int)
  (ssm_cons (sm_expr (em_bm PySem.F.plainAttrs_list PySem.F.slot_list_append PySem.F.type_list_append mt_append tyL om_append (em_var 3) (am_cons (em_bm PySem.F.plainAttrs_list PySem.F.slot_list_pop PySem.F.type_list_pop mt_popM tyL om_pop (em_var 3) (am_cons (em_ix hu1 (em_var 4) em_int) am_nil)) am_nil)))
  (ssm_one (sm_ret (em_ix hu1 (em_var 3) (em_neg em_int))))))
  ssm_nil)
  (ssm_cons (sm_flda (fo_misses XI G c) iop_add o2_I0 (em_var 0) em_int)
  (ssm_cons (sm_if (tm_eq hu4 (em_callB cr_len oc_len rfl (n_len XI G c) (am_cons (em_var 3) am_nil) rfl) (em_fld (fo_ways XI G c) (em_var 0)))
  (ssm_one (sm_expr (em_meth (He.cls_ok (c_Cache c)) (He.meth_ok (m_Cache_write_back c)) (w_Cache_write_back XI G c TB) hr (by decide) (g_Cache XI G c) tk (em_var 0) (am_cons (em_bm PySem.F.plainAttrs_list PySem.F.slot_list_pop PySem.F.type_list_pop mt_popM tyL om_pop (em_var 3) (am_cons em_int am_nil)) am_nil))))
  ssm_nil)
  (ssm_cons (sm_set 5 nd (em_mul (em_var 2) (em_fld (fo_long XI G c) (em_var 0))))
  (ssm_cons (sm_expr (em_bm PySem.F.plainAttrs_list PySem.F.slot_list_append PySem.F.type_list_append mt_append tyL om_append (em_var 3) (am_cons (em_lst (am_cons (em_var 2) (am_cons (em_sl (em_fld (fo_words XI G c) (em_var 0)) (om_some (em_var 5)) (om_some (em_add (em_var 5) (em_fld (fo_long XI G c) (em_var 0))))) (am_cons em_bl am_nil))) (len_cons (len_cons (len_cons len_nil)))) am_nil)))
  (ssm_one (sm_ret (em_ix hu1 (em_var 3) (em_neg em_int)))))))))))))
def N_Cache_store : List Str := ["self", "address", "word", "line"]
omit XI G c TB in
theorem sc_Cache_store : FnScope N_Cache_store ["self", "address", "word"] (defScope s_Cache_store) := ⟨rfl, rfl, rfl, by decide +kernel, rfl, by decide +kernel, by decide +kernel⟩
theorem w_Cache_store : FunM P w K mg base (tabT K tf) 3 (He.ma K (He.ga K "Cache") "store") 3 f_Cache_store := by
  obtain ⟨fd, F⟩ := c.d.def_ 7 (d := df_Cache_store) rfl
  rw [f_Cache_store_eq]
  refine def_m (k := 2) (N := N_Cache_store) F sc_Cache_store (fun _ _ _ _ _ _ us hl => match us, hl with | [_, _, _], _ => rfl) fun cdv  A outer s H E hr tk hp => ?_
  have hu1 := hu_of hr
  have hu4 := hr.units
  have hu5 := hu65 hr
  have nd := sc_Cache_store.nd
  exact (ssm_cons (sm_set 3 nd (em_meth (He.cls_ok (c_Cache c)) (He.meth_ok (m_Cache_line_at c)) (w_Cache_line_at XI G c TB) hr (by decide) (g_Cache XI G c) tk (em_var 0) (am_cons (em_var 1) am_nil)))
  (ssm_cons (sm_asg (gm_sub hu1 (em_ix hu1 (em_var 3) em_int) (em_mod (em_var 1) (em_fld (fo_long XI G c) (em_var 0)))) (em_var 2))
  (ssm_one (sm_if (tm_tru (em_fld (fo_through XI G c) (em_var 0)))
  (ssm_one (sm_asg (gm_sub hu1 (em_fld (fo_words XI G c) (em_var 0)) (em_var 1)) (em_var 2)))
  (ssm_one (sm_asg (gm_sub hu1 (em_var 3) em_int) em_bl))))))
def N_Levels_find : List Str := ["self", "address", "row", "k", "pair"]
omit XI G c TB in
theorem sc_Levels_find : FnScope N_Levels_find ["self", "address"] (defScope s_Levels_find) := ⟨rfl, rfl, rfl, by decide +kernel, rfl, by decide +kernel, by decide +kernel⟩
theorem w_Levels_find : FunM P w K mg base (tabT K tf) 1 (He.ma K (He.ga K "Levels") "find") 2 f_Levels_find := by
  obtain ⟨fd, F⟩ := c.d.def_ 8 (d := df_Levels_find) rfl
  rw [f_Levels_find_eq]
  refine def_m (k := 0) (N := N_Levels_find) F sc_Levels_find (fun _ _ _ _ _ _ us hl => match us, hl with | [_, _], _ => rfl) fun cdv  A outer s H E hr tk hp => ?_
  have hu1 := hu_of hr
  have hu4 := hr.units
  have hu5 := hu65 hr
  have nd := sc_Levels_find.nd
  exact (ssm_cons (sm_set 2 nd (em_ix hu1 (em_fld (fo_sets XI G c) (em_var 0)) (em_mod (em_var 1) (em_callB cr_len oc_len rfl (n_len XI G c) (am_cons (em_fld (fo_sets XI G c) (em_var 0)) am_nil) rfl))))
  (ssm_cons (sm_for hp rfl (im_enum rfl (n_enumerate XI G c) (am_cons (em_var 2) am_nil)) (gm_unp rfl (gsm_cons (gm_name 3 nd) (gsm_cons (gm_name 4 nd) gsm_nil)))
  (ssm_one (sm_if (tm_eq hu4 (em_ix hu1 (em_var 4) em_int) (em_var 1))
  (ssm_one (sm_ret (em_tup (am_cons (em_var 2) (am_cons (em_var 3) am_nil)) (len_cons (len_cons len_nil)))))
  ssm_nil)))
  (ssm_one (sm_ret (em_tup (am_cons (em_var 2) (am_cons em_non am_nil)) (len_cons (len_cons len_nil)))))))
def N_Levels_put : List Str := ["self", "row", "address", "word"]
omit XI G c TB in
theorem sc_Levels_put : FnScope N_Levels_put ["self", "row", "address", "word"] (defScope s_Levels_put) := ⟨rfl, rfl, rfl, by decide +kernel, rfl, by decide +kernel, by decide +kernel⟩
theorem w_Levels_put : FunM P w K mg base (tabT K tf) 1 (He.ma K (He.ga K "Levels") "put") 4 f_Levels_put := by
  obtain ⟨fd, F⟩ := c.d.def_ 9 (d := df_Levels_put) rfl
  rw [f_Levels_put_eq]
  refine def_m (k := 0) (N := N_Levels_put) F sc_Levels_put (fun _ _ _ _ _ _ us hl => match us, hl with | [_, _, _, _], _ => rfl) fun cdv  A outer s H E hr tk hp => ?_
  have hu1 := hu_of hr
  have hu4 := hr.units
  have hu5 := hu65 hr
  have nd := sc_Levels_put.nd
  exact (ssm_cons (sm_if (tm_eq hu4 (em_callB cr_len oc_len rfl (n_len XI G c) (am_cons (em_var 1) am_nil) rfl) (em_fld (fo_ways XI G c) (em_var 0)))
  (ssm_one (sm_expr (em_bm PySem.F.plainAttrs_list PySem.F.slot_list_pop PySem.F.type_list_pop mt_popM tyL om_pop (em_var 1) (am_cons em_int am_nil))))
  ssm_nil)
  (ssm_one (sm_expr (em_bm PySem.F.plainAttrs_list PySem.F.slot_list_append PySem.F.type_list_append mt_append tyL om_append (em_var 1) (am_cons (em_tup (am_cons (em_var 2) (am_cons (em_var 3) am_nil)) (len_cons (len_cons len_nil))) am_nil)))))
def N_Levels_store : List Str := ["self", "address", "word", "row", "k"]
omit XI G c TB in
theorem sc_Levels_store : FnScope N_Levels_store ["self", "address", "word"] (defScope s_Levels_store) := ⟨rfl, rfl, rfl, by decide +kernel, rfl, by decide +kernel, by decide +kernel⟩
theorem w_Levels_store : FunM P w K mg base (tabT K tf) 4 (He.ma K (He.ga K "Levels") "store") 3 f_Levels_store := by
  obtain ⟨fd, F⟩ := c.d.def_ 10 (d := df_Levels_store) rfl
  rw [f_Levels_store_eq]
  refine def_m (k := 3) (N := N_Levels_store) F sc_Levels_store (fun _ _ _ _ _ _ us hl => match us, hl with | [_, _, _], _ => rfl) fun cdv  A outer s H E hr tk hp => ?_
  have hu1 := hu_of hr
  have hu4 := hr.units
  have hu5 := hu65 hr
  have nd := sc_Levels_store.nd
  exact (ssm_cons (sm_asg (gm_unp rfl (gsm_cons (gm_name 3 nd) (gsm_cons (gm_name 4 nd) gsm_nil))) (em_meth (He.cls_ok (c_Levels c)) (He.meth_ok (m_Levels_find c)) (w_Levels_find XI G c TB) hr (by decide) (g_Levels XI G c) tk (em_var 0) (am_cons (em_var 1) am_nil)))
  (ssm_cons (sm_if (tm_isnot (em_var 4) em_non)
  (ssm_one (sm_expr (em_bm PySem.F.plainAttrs_list PySem.F.slot_list_pop PySem.F.type_list_pop mt_popM tyL om_pop (em_var 3) (am_cons (em_var 4) am_nil))))
  ssm_nil)
  (ssm_cons (sm_expr (em_meth (He.cls_ok (c_Levels c)) (He.meth_ok (m_Levels_put c)) (w_Levels_put XI G c TB) hr (by decide) (g_Levels XI G c) tk (em_var 0) (am_cons (em_var 3) (am_cons (em_var 1) (am_cons (em_var 2) am_nil)))))
  (ssm_one (sm_expr (em_meth (He.cls_ok (c_Cache c)) (He.meth_ok (m_Cache_store c)) (w_Cache_store XI G c TB) hr (by decide) (g_Cache XI G c) tk (em_fld (fo_under XI G c) (em_var 0)) (am_cons (em_var 1) (am_cons (em_var 2) am_nil))))))))
def N_Cache_load : List Str := ["self", "address"]
omit XI G c TB in
theorem sc_Cache_load : FnScope N_Cache_load ["self", "address"] (defScope s_Cache_load) := ⟨rfl, rfl, rfl, by decide +kernel, rfl, by decide +kernel, by decide +kernel⟩
theorem w_Cache_load : FunM P w K mg base (tabT K tf) 3 (He.ma K (He.ga K "Cache") "load") 2 f_Cache_load := by
  obtain ⟨fd, F⟩ := c.d.def_ 11 (d := df_Cache_load) rfl
  rw [f_Cache_load_eq]
  refine def_m (k := 2) (N := N_Cache_load) F sc_Cache_load (fun _ _ _ _ _ _ us hl => match us, hl with | [_, _], _ => rfl) fun cdv  A outer s H E hr tk hp => ?_
  have hu1 := hu_of hr
  have hu4 := hr.units
  have hu5 := hu65 hr
  have nd := sc_Cache_load.nd
  exact (ssm_one (sm_ret (em_ix hu1 (em_ix hu1 (em_meth (He.cls_ok (c_Cache c)) (He.meth_ok (m_Cache_line_at c)) (w_Cache_line_at XI G c TB) hr (by decide) (g_Cache XI G c) tk (em_var 0) (am_cons (em_var 1) am_nil)) em_int) (em_mod (em_var 1) (em_fld (fo_long XI G c) (em_var 0))))))
def N_Levels_load : List Str := ["self", "address", "row", "k", "word"]
omit XI G c TB in
theorem sc_Levels_load : FnScope N_Levels_load ["self", "address"] (defScope s_Levels_load) := ⟨rfl, rfl, rfl, by decide +kernel, rfl, by decide +kernel, by decide +kernel⟩
theorem w_Levels_load : FunM P w K mg base (tabT K tf) 4 (He.ma K (He.ga K "Levels") "load") 2 f_Levels_load := by
  obtain ⟨fd, F⟩ := c.d.def_ 12 (d := df_Levels_load) rfl
  rw [f_Levels_load_eq]
  refine def_m (k := 3) (N := N_Levels_load) F sc_Levels_load (fun _ _ _ _ _ _ us hl => match us, hl with | [_, _], _ => rfl) fun cdv  A outer s H E hr tk hp => ?_
  have hu1 := hu_of hr
  have hu4 := hr.units
  have hu5 := hu65 hr
  have nd := sc_Levels_load.nd
  exact (ssm_cons (sm_asg (gm_unp rfl (gsm_cons (gm_name 2 nd) (gsm_cons (gm_name 3 nd) gsm_nil))) (em_meth (He.cls_ok (c_Levels c)) (He.meth_ok (m_Levels_find c)) (w_Levels_find XI G c TB) hr (by decide) (g_Levels XI G c) tk (em_var 0) (am_cons (em_var 1) am_nil)))
  (ssm_cons (sm_if (tm_isnot (em_var 3) em_non)
  (ssm_cons (sm_flda (fo_hits XI G c) iop_add o2_I0 (em_var 0) em_int)
  (ssm_cons (sm_expr (em_bm PySem.F.plainAttrs_list PySem.F.slot_list_append PySem.F.type_list_append mt_append tyL om_append (em_var 2) (am_cons (em_bm PySem.F.plainAttrs_list PySem.F.slot_list_pop PySem.F.type_list_pop mt_popM tyL om_pop (em_var 2) (am_cons (em_var 3) am_nil)) am_nil)))
  (ssm_one (sm_ret (em_ix hu1 (em_ix hu1 (em_var 2) (em_neg em_int)) em_int)))))
  ssm_nil)
  (ssm_cons (sm_flda (fo_misses XI G c) iop_add o2_I0 (em_var 0) em_int)
  (ssm_cons (sm_set 4 nd (em_meth (He.cls_ok (c_Cache c)) (He.meth_ok (m_Cache_load c)) (w_Cache_load XI G c TB) hr (by decide) (g_Cache XI G c) tk (em_fld (fo_under XI G c) (em_var 0)) (am_cons (em_var 1) am_nil)))
  (ssm_cons (sm_expr (em_meth (He.cls_ok (c_Levels c)) (He.meth_ok (m_Levels_put c)) (w_Levels_put XI G c TB) hr (by decide) (g_Levels XI G c) tk (em_var 0) (am_cons (em_var 2) (am_cons (em_var 1) (am_cons (em_var 4) am_nil)))))
  (ssm_one (sm_ret (em_var 4))))))))
def N_Cache_lines_held : List Str := ["self", "row", "line"]
omit XI G c TB in
theorem sc_Cache_lines_held : FnScope N_Cache_lines_held ["self"] (defScope s_Cache_lines_held) := ⟨rfl, rfl, rfl, by decide +kernel, rfl, by decide +kernel, by decide +kernel⟩
theorem w_Cache_lines_held : FunM P w K mg base (tabT K tf) 1 (He.ma K (He.ga K "Cache") "lines_held") 1 f_Cache_lines_held := by
  obtain ⟨fd, F⟩ := c.d.def_ 13 (d := df_Cache_lines_held) rfl
  rw [f_Cache_lines_held_eq]
  refine def_m (k := 0) (N := N_Cache_lines_held) F sc_Cache_lines_held (fun _ _ _ _ _ _ us hl => match us, hl with | [_], _ => rfl) fun cdv  A outer s H E hr tk hp => ?_
  have hu1 := hu_of hr
  have hu4 := hr.units
  have hu5 := hu65 hr
  have nd := sc_Cache_lines_held.nd
  exact (ssm_one (sm_ret (em_callTy call_tuple_of oc_tuple rfl (n_tuple XI G c) (am_cons (em_sortedI rfl (n_sorted XI G c) (am_cons (em_lc2 [("row", 1), ("line", 2)] [2] rfl nd (im_any (em_fld (fo_sets XI G c) (em_var 0))) (blkOk_by rfl) (by decide) (fun _ _ _ _ _ => (gw_name 1 nd)) (fun _ _ _ _ _ => tsm_nil) (fun _ _ _ _ _ => (im_any (em_var 1))) (fun _ _ _ _ _ => (gw_name 2 nd)) (fun _ _ _ _ _ => tsm_nil) (fun _ _ _ _ _ => (em_ix hu1 (em_var 2) em_int))) am_nil)) am_nil) rfl)))
def N__law_flat : List Str := ["rows", "found", "row"]
omit XI G c TB in
theorem sc__law_flat : FnScope N__law_flat ["rows"] (defScope s__law_flat) := ⟨rfl, rfl, rfl, by decide +kernel, rfl, by decide +kernel, by decide +kernel⟩
theorem w__law_flat : FunM P w K mg base (tabT K tf) 1 (He.ga K "_law_flat") 1 f__law_flat := by
  obtain ⟨fd, F⟩ := c.d.def_ 14 (d := df__law_flat) rfl
  rw [f__law_flat_eq]
  refine def_m (k := 0) (N := N__law_flat) F sc__law_flat (fun _ _ _ _ _ _ us hl => match us, hl with | [_], _ => rfl) fun cdv  A outer s H E hr tk hp => ?_
  have hu1 := hu_of hr
  have hu4 := hr.units
  have hu5 := hu65 hr
  have nd := sc__law_flat.nd
  exact (ssm_cons (sm_set 1 nd (em_lst am_nil len_nil))
  (ssm_cons (sm_for hp rfl (im_any (em_var 0)) (gm_name 2 nd)
  (ssm_one (sm_set 1 nd (em_add (em_var 1) (em_var 2)))))
  (ssm_one (sm_ret (em_var 1)))))
def N_Cache_flush : List Str := ["self", "row", "line"]
omit XI G c TB in
theorem sc_Cache_flush : FnScope N_Cache_flush ["self"] (defScope s_Cache_flush) := ⟨rfl, rfl, rfl, by decide +kernel, rfl, by decide +kernel, by decide +kernel⟩
theorem w_Cache_flush : FunM P w K mg base (tabT K tf) 2 (He.ma K (He.ga K "Cache") "flush") 1 f_Cache_flush := by
  obtain ⟨fd, F⟩ := c.d.def_ 15 (d := df_Cache_flush) rfl
  rw [f_Cache_flush_eq]
  refine def_m (k := 1) (N := N_Cache_flush) F sc_Cache_flush (fun _ _ _ _ _ _ us hl => match us, hl with | [_], _ => rfl) fun cdv  A outer s H E hr tk hp => ?_
  have hu1 := hu_of hr
  have hu4 := hr.units
  have hu5 := hu65 hr
  have nd := sc_Cache_flush.nd
  exact (ssm_one (sm_for hp rfl (im_any (em_fld (fo_sets XI G c) (em_var 0))) (gm_name 1 nd)
  (ssm_cons (sm_for hp rfl (im_any (em_var 1)) (gm_name 2 nd)
  (ssm_one (sm_expr (em_meth (He.cls_ok (c_Cache c)) (He.meth_ok (m_Cache_write_back c)) (w_Cache_write_back XI G c TB) hr (by decide) (g_Cache XI G c) tk (em_var 0) (am_cons (em_var 2) am_nil)))))
  (ssm_one (sm_expr (em_bm0 PySem.F.plainAttrs_list PySem.F.slot_list_clear PySem.F.type_list_clear mt_clear tyL om_clear (em_var 1)))))))
def N_Levels_all_words : List Str := ["self"]
omit XI G c TB in
theorem sc_Levels_all_words : FnScope N_Levels_all_words ["self"] (defScope s_Levels_all_words) := ⟨rfl, rfl, rfl, by decide +kernel, rfl, by decide +kernel, by decide +kernel⟩
theorem w_Levels_all_words : FunM P w K mg base (tabT K tf) 3 (He.ma K (He.ga K "Levels") "all_words") 1 f_Levels_all_words := by
  obtain ⟨fd, F⟩ := c.d.def_ 16 (d := df_Levels_all_words) rfl
  rw [f_Levels_all_words_eq]
  refine def_m (k := 2) (N := N_Levels_all_words) F sc_Levels_all_words (fun _ _ _ _ _ _ us hl => match us, hl with | [_], _ => rfl) fun cdv  A outer s H E hr tk hp => ?_
  have hu1 := hu_of hr
  have hu4 := hr.units
  have hu5 := hu65 hr
  have nd := sc_Levels_all_words.nd
  exact (ssm_cons (sm_expr (em_meth0 (He.cls_ok (c_Cache c)) (He.meth_ok (m_Cache_flush c)) (w_Cache_flush XI G c TB) hr (by decide) (g_Cache XI G c) tk (em_fld (fo_under XI G c) (em_var 0))))
  (ssm_one (sm_ret (em_callTy call_tuple_of oc_tuple rfl (n_tuple XI G c) (am_cons (em_fld (fo_words XI G c) (em_fld (fo_under XI G c) (em_var 0))) am_nil) rfl))))
def N_law : List Str := ["script", "dice", "sets", "ways", "long", "through", "words", "cache", "levels", "rows", "hits", "count", "k", "address", "number", "row", "one", "each"]
omit XI G c TB in
theorem sc_law : FnScope N_law ["script"] (defScope s_law) := ⟨rfl, rfl, rfl, by decide +kernel, rfl, by decide +kernel, by decide +kernel⟩
omit XI G c TB in
theorem F_law (c : Cf K) : ∃ fd, FunD K "law" "law" (defArgs s_law) (defBody s_law) (defScope s_law) [] [] (He.ga K "law") fd := c.d.def_ 17 (d := df_law) rfl
theorem ok_law {fd : FuncData} (F : FunD K "law" "law" (defArgs s_law) (defBody s_law) (defScope s_law) [] [] (He.ga K "law") fd) : FnOk P w K mg base (L2.CX P w) 6 (He.ga K "law") fd ["script"] (spM ⟨K, mg, (tabT K tf)⟩ f_law 1) := by
  refine def_okT (p := ("law", none)) (k := 5) (N := N_law) F sc_law fun cdv hcd A outer s H E hr tk hp => ?_
  have hu1 := hu_of hr
  have hu4 := hr.units
  have hu5 := hu65 hr
  have nd := sc_law.nd
  exact (ssm_cons (sm_for hp rfl (im_any (em_call (w__law_rounds XI G c TB) hr (by decide) rfl (g__law_rounds XI G c) tk (am_cons (em_var 0) (am_cons em_int am_nil)))) (gm_name 1 nd)
  (ssm_cons (sm_asg (gm_unp rfl (gsm_cons (gm_name 2 nd) (gsm_cons (gm_name 3 nd) (gsm_cons (gm_name 4 nd) (gsm_cons (gm_name 5 nd) gsm_nil))))) (em_tup (am_cons (em_ix hu1 (em_lst (am_cons em_int (am_cons em_int (am_cons em_int am_nil))) (len_cons (len_cons (len_cons len_nil)))) (em_call (w__law_roll XI G c TB) hr (by decide) rfl (g__law_roll XI G c) tk (am_cons (em_var 1) (am_cons em_int am_nil)))) (am_cons (em_add em_int (em_call (w__law_roll XI G c TB) hr (by decide) rfl (g__law_roll XI G c) tk (am_cons (em_var 1) (am_cons em_int am_nil)))) (am_cons (em_ix hu1 (em_lst (am_cons em_int (am_cons em_int (am_cons em_int am_nil))) (len_cons (len_cons (len_cons len_nil)))) (em_call (w__law_roll XI G c TB) hr (by decide) rfl (g__law_roll XI G c) tk (am_cons (em_var 1) (am_cons em_int am_nil)))) (am_cons (em_eq hu4 (em_call (w__law_roll XI G c TB) hr (by decide) rfl (g__law_roll XI G c) tk (am_cons (em_var 1) (am_cons em_int am_nil))) em_int) am_nil)))) (len_cons (len_cons (len_cons (len_cons len_nil))))))
  (ssm_cons (sm_setLc 6 [("k", 12)] rfl nd (im_range1 rfl (n_range XI G c) (am_cons em_int am_nil)) (blkOk_by rfl) (fun _ _ _ _ _ => (gw_name 12 nd)) (fun _ _ _ _ _ => tsm_nil) (fun _ _ _ _ _ => (em_call (w__law_roll XI G c TB) hr (by decide) rfl (g__law_roll XI G c) takesF (am_cons (em_var 1) (am_cons em_int am_nil)))) (sw_true rfl rfl rfl rfl))
  (ssm_cons (sm_asg (gm_unp rfl (gsm_cons (gm_name 7 nd) (gsm_cons (gm_name 8 nd) gsm_nil))) (em_tup (am_cons (em_make (He.mkr_ok (k_Cache c)) (w_Cache___init__ XI G c TB) hr (by decide) rfl (g_Cache XI G c) tk (am_cons (em_var 6) (am_cons (em_var 2) (am_cons (em_var 3) (am_cons (em_var 4) (am_cons (em_var 5) am_nil)))))) (am_cons (em_make (He.mkr_ok (k_Levels c)) (w_Levels___init__ XI G c TB) hr (by decide) rfl (g_Levels XI G c) tk (am_cons (em_var 6) (am_cons (em_tup (am_cons em_int (am_cons em_int am_nil)) (len_cons (len_cons len_nil))) (am_cons (em_tup (am_cons em_int (am_cons em_int (am_cons em_int am_nil))) (len_cons (len_cons (len_cons len_nil)))) am_nil)))) am_nil)) (len_cons (len_cons len_nil))))
  (ssm_cons (sm_par 9 10 rfl nd (am_cons (em_lc [("k", 12)] rfl nd (im_range1 rfl (n_range XI G c) (am_cons (em_var 2) am_nil)) (blkOk_by rfl) (fun _ _ _ _ _ => (gw_name 12 nd)) (fun _ _ _ _ _ => tsm_nil) (fun _ _ _ _ _ => (em_lst am_nil len_nil))) (am_cons em_int am_nil)))
  (ssm_cons (sm_set 11 nd (em_call (w__law_roll XI G c TB) hr (by decide) rfl (g__law_roll XI G c) tk (am_cons (em_var 1) (am_cons em_int am_nil))))
  (ssm_cons (sm_for hp rfl (im_range1 rfl (n_range XI G c) (am_cons (em_var 11) am_nil)) (gm_name 12 nd)
  (ssm_cons (sm_set 13 nd (em_call (w__law_roll XI G c TB) hr (by decide) rfl (g__law_roll XI G c) tk (am_cons (em_var 1) (am_cons em_int am_nil))))
  (ssm_cons (sm_set 14 nd (em_div (em_var 13) (em_var 4)))
  (ssm_cons (sm_set 15 nd (em_ix hu1 (em_var 9) (em_mod (em_var 14) (em_var 2))))
  (ssm_cons (sm_set 10 nd (em_add (em_var 10) (em_callTy call_int1 oc_int rfl (n_int XI G c) (am_cons (em_in hu5 (em_var 14) (em_var 15)) am_nil) rfl)))
  (ssm_cons (sm_set 15 nd (em_add (em_lc [("one", 16)] rfl nd (im_any (em_var 15)) (blkOk_by rfl) (fun _ _ _ _ _ => (gw_name 16 nd)) (fun _ _ _ _ _ => (tsm_one (tm_ne hu4 (em_var 16) (em_var 14)))) (fun _ _ _ _ _ => (em_var 16))) (em_lst (am_cons (em_var 14) am_nil) (len_cons len_nil))))
  (ssm_cons (sm_asg (gm_sub hu1 (em_var 9) (em_mod (em_var 14) (em_var 2))) (em_if (tm_gt (em_callB cr_len oc_len rfl (n_len XI G c) (am_cons (em_var 15) am_nil) rfl) (em_var 3)) (em_sl (em_var 15) (om_some (em_sub (em_callB cr_len oc_len rfl (n_len XI G c) (am_cons (em_var 15) am_nil) rfl) (em_var 3))) om_none) (em_var 15)))
  (ssm_cons (sm_if (tm_eq hu4 (em_call (w__law_roll XI G c TB) hr (by decide) rfl (g__law_roll XI G c) tk (am_cons (em_var 1) (am_cons em_int am_nil))) em_int)
  (ssm_cons (sm_asg (gm_sub hu1 (em_var 6) (em_var 13)) (em_call (w__law_roll XI G c TB) hr (by decide) rfl (g__law_roll XI G c) tk (am_cons (em_var 1) (am_cons em_int am_nil))))
  (ssm_cons (sm_expr (em_meth (He.cls_ok (c_Cache c)) (He.meth_ok (m_Cache_store c)) (w_Cache_store XI G c TB) hr (by decide) (g_Cache XI G c) tk (em_var 7) (am_cons (em_var 13) (am_cons (em_ix hu1 (em_var 6) (em_var 13)) am_nil))))
  (ssm_cons (sm_expr (em_meth (He.cls_ok (c_Levels c)) (He.meth_ok (m_Levels_store c)) (w_Levels_store XI G c TB) hr (by decide) (g_Levels XI G c) tk (em_var 8) (am_cons (em_var 13) (am_cons (em_ix hu1 (em_var 6) (em_var 13)) am_nil))))
  (ssm_one (sm_if (tm_wm (wm_and (tm_tru (em_var 5)) (wm_and1 (tm_ne hu4 (em_ix hu1 (em_fld (fo_words XI G c) (em_var 7)) (em_var 13)) (em_ix hu1 (em_var 6) (em_var 13))))))
  (ssm_one (sm_ret em_bl))
  ssm_nil)))))
  (ssm_one (sm_if (tm_wm (wm_or (tm_ne hu4 (em_meth (He.cls_ok (c_Cache c)) (He.meth_ok (m_Cache_load c)) (w_Cache_load XI G c TB) hr (by decide) (g_Cache XI G c) tk (em_var 7) (am_cons (em_var 13) am_nil)) (em_ix hu1 (em_var 6) (em_var 13))) (wm_or1 (tm_ne hu4 (em_meth (He.cls_ok (c_Levels c)) (He.meth_ok (m_Levels_load c)) (w_Levels_load XI G c TB) hr (by decide) (g_Levels XI G c) tk (em_var 8) (am_cons (em_var 13) am_nil)) (em_ix hu1 (em_var 6) (em_var 13))))))
  (ssm_one (sm_ret em_bl))
  ssm_nil)))
  (ssm_one (sm_if (tm_ne hu4 (em_callTy call_list_of oc_list rfl (n_list XI G c) (am_cons (em_meth0 (He.cls_ok (c_Cache c)) (He.meth_ok (m_Cache_lines_held c)) (w_Cache_lines_held XI G c TB) hr (by decide) (g_Cache XI G c) tk (em_var 7)) am_nil) rfl) (em_sortedI rfl (n_sorted XI G c) (am_cons (em_call (w__law_flat XI G c TB) hr (by decide) rfl (g__law_flat XI G c) tk (am_cons (em_lc [("each", 17)] rfl nd (im_any (em_var 9)) (blkOk_by rfl) (fun _ _ _ _ _ => (gw_name 17 nd)) (fun _ _ _ _ _ => tsm_nil) (fun _ _ _ _ _ => (em_lc [("one", 16)] rfl nd (im_any (em_var 17)) (blkOk_by rfl) (fun _ _ _ _ _ => (gw_name 16 nd)) (fun _ _ _ _ _ => tsm_nil) (fun _ _ _ _ _ => (em_var 16))))) am_nil)) am_nil)))
  (ssm_one (sm_ret em_bl))
  ssm_nil))))))))))
  (ssm_cons (sm_if (tm_wm (wm_or (tm_ne hu4 (em_fld (fo_hits XI G c) (em_var 7)) (em_var 10)) (wm_or1 (tm_ne hu4 (em_fld (fo_misses XI G c) (em_var 7)) (em_sub (em_var 11) (em_var 10))))))
  (ssm_one (sm_ret em_bl))
  ssm_nil)
  (ssm_cons (sm_if (tm_wm (wm_and (tm_tru (em_var 5)) (wm_and1 (tm_wm (wm_or (tm_ne hu4 (em_fld (fo_words XI G c) (em_var 7)) (em_var 6)) (wm_or1 (tm_ne hu4 (em_fld (fo_put_out XI G c) (em_var 7)) em_int)))))))
  (ssm_one (sm_ret em_bl))
  ssm_nil)
  (ssm_cons (sm_expr (em_meth0 (He.cls_ok (c_Cache c)) (He.meth_ok (m_Cache_flush c)) (w_Cache_flush XI G c TB) hr (by decide) (g_Cache XI G c) tk (em_var 7)))
  (ssm_cons (sm_if (tm_wm (wm_or (tm_ne hu4 (em_fld (fo_words XI G c) (em_var 7)) (em_var 6)) (wm_or (tm_ne hu4 (em_callTy call_list_of oc_list rfl (n_list XI G c) (am_cons (em_meth0 (He.cls_ok (c_Levels c)) (He.meth_ok (m_Levels_all_words c)) (w_Levels_all_words XI G c TB) hr (by decide) (g_Levels XI G c) tk (em_var 8)) am_nil) rfl) (em_var 6)) (wm_or1 (tm_ne hu4 (em_meth0 (He.cls_ok (c_Cache c)) (He.meth_ok (m_Cache_lines_held c)) (w_Cache_lines_held XI G c TB) hr (by decide) (g_Cache XI G c) tk (em_var 7)) (em_tup am_nil len_nil))))))
  (ssm_one (sm_ret em_bl))
  ssm_nil)
  (ssm_cons (sm_if (tm_ne hu4 (em_told (k := 3) (td XI G c) rfl (g__law_told XI G c) (TB (tfp_0) (tfm 0)) hcd (tab_mem (tfm 0)) (tab_uniq (tnd c) (tfm 0)) hr (by decide) (fun A outer s H E f c' hr tk => have hu1 := hu_of hr; have hu4 := hr.units; have hu5 := hu65 hr; (em_meth (He.cls_ok (c_Cache c)) (He.meth_ok (m_Cache_load c)) (w_Cache_load XI G c TB) hr (by decide) (g_Cache XI G c) tk (em_var 7) (am_cons em_int am_nil)))) em_str)
  (ssm_one (sm_ret em_bl))
  ssm_nil)
  (ssm_one (sm_if (tm_ne hu4 (em_told (k := 2) (td XI G c) rfl (g__law_told XI G c) (TB (tfp_0) (tfm 0)) hcd (tab_mem (tfm 0)) (tab_uniq (tnd c) (tfm 0)) hr (by decide) (fun A outer s H E f c' hr tk => have hu1 := hu_of hr; have hu4 := hr.units; have hu5 := hu65 hr; (em_make (He.mkr_ok (k_Cache c)) (w_Cache___init__ XI G c TB) hr (by decide) rfl (g_Cache XI G c) tk (am_cons (em_mul (em_lst (am_cons em_int am_nil) (len_cons len_nil)) em_int) (am_cons em_int (am_cons em_int (am_cons em_int (am_cons em_bl am_nil)))))))) em_str)
  (ssm_one (sm_ret em_bl))
  ssm_nil))))))))))))))
  (ssm_one (sm_ret em_bl)))
end
end
abbrev Rr : PySem.W.OpenRow := PySem.W.OpenLaw.row PySem.Challenge.rw_corehall_k09_caches_over_memory
def hk : PySem.W.Hook := He.hookX 6 fa fn [] (tf.map (·.1)) ex
def ob (s : PySem.W.SharedT) : He.AlX := He.obsX 6 fa fn [] (tf.map (·.1)) ex (HandSHeadRun.getT s)
theorem ob_eq (s : PySem.W.SharedT) : ob s = hk.obs s.abs := He.obsX_eq (HandSHeadRun.getT_eq s)
def loose : List PySem.Str := (([("CoreFault" : PySem.Str), ("BadOrder" : PySem.Str), ("BadProgram" : PySem.Str), ("NoWay" : PySem.Str), ("TooLarge" : PySem.Str), ("Cache" : PySem.Str), ("Levels" : PySem.Str), ("_law_flat" : PySem.Str), ("_law_dice" : PySem.Str), ("_law_roll" : PySem.Str), ("_law_rounds" : PySem.Str), ("_law_told" : PySem.Str)] : List PySem.Str))
theorem run (w : World) : HandSHeadRun.RunEq Rr (PySem.W.view Rr.prog [15]) hk ob 20000 loose w := by
  intro os
  kernel_rfl
theorem holds (hpl : ∀ n, PlainLaw f_law n) : PySem.Challenge.rw_corehall_k09_caches_over_memory.Holds := by
  w_on; o_law
  refine HandSHeadRun.head_any (r := PySem.W.OpenLaw.row PySem.Challenge.rw_corehall_k09_caches_over_memory) (q := PySem.W.view (PySem.W.OpenLaw.row PySem.Challenge.rw_corehall_k09_caches_over_memory).prog [15]) (H := hk) (ob := ob) (M := 20000) (loose := loose) (d := HandSHeadRun.topDef (PySem.W.OpenLaw.row PySem.Challenge.rw_corehall_k09_caches_over_memory).prog 15) (kwd := []) ob_eq
    (by kernel_rfl) (fun s => by kernel_rfl) run (by kernel_rfl) (by kernel_rfl) (by kernel_rfl) (by rfl) (by first | assumption | decide +kernel) (by decide +kernel) ⟨rfl, rfl, rfl, rfl, rfl, by decide +kernel⟩ ?hw ?hc
  case hw => w_witness2
  case hc =>
    refine LamX.walk_ofTsE (l := PySem.Challenge.rw_corehall_k09_caches_over_memory) (n := 63) (k := 6) (x := "script") (CX := fun w => L2.CX (PySem.Challenge.rw_corehall_k09_caches_over_memory).prog w) rfl (by decide) (by kernel_rfl) ⟨rfl, by decide, by decide⟩ ?F (fun _ => cx_none)
    intro w mg fa h Y G hmg0
    obtain ⟨K, KX, cx⟩ := Y
    have c : Cf K := ⟨cx.t.d, cx.more⟩
    have hmg : mg ("law" : PySem.Str) = some (.ref fa) := by
      have e : (HandSHeadRun.topDef (PySem.W.OpenLaw.row PySem.Challenge.rw_corehall_k09_caches_over_memory).prog 15).name = ("law" : PySem.Str) := by kernel_rfl
      rw [← e]
      exact hmg0
    have e := hmg.symm.trans (g_law KX G c)
    cases e
    obtain ⟨fd, F⟩ := F_law c
    exact ⟨K, KX, lawAtT (tf := tf) KX cx.hd cx.out cx.empty F (fun _ _ _ _ _ _ us hl => match us, hl with | [_], _ => rfl) (hpl 63) fun base hb hg TB => ok_law hb hg c TB F⟩
end K09
end MM

namespace MM
namespace K09
open PySem L2
theorem law_eq : f_law = callM 18 1 (lawOf 3 l_law_1) := rfl
def L3 (long : Int) : Prop := long = 1 ∨ long = 2 ∨ long = 4
def slc (mem : List Int) (n long : Int) : List Int := (mem.drop (n * long).toNat).take long.toNat
def wbP (ws mem : List Int) (n long : Int) : List Int := ws.take (n * long).toNat ++ slc mem n long ++ ws.drop (n * long + long).toNat
theorem slc_len {mem : List Int} {n long : Int} (hl : L3 long) (hm : mem.length = 32) (h0 : 0 ≤ n) (h1 : n * long + long ≤ 32) : (slc mem n long).length = long.toNat := by
  unfold slc
  rw [List.length_take, List.length_drop, hm]
  rcases hl with rfl | rfl | rfl <;> omega
theorem num_at {a long : Int} (hl : L3 long) (h0 : 0 ≤ a) (h1 : a < 32) : 0 ≤ a / long ∧ a / long * long ≤ a ∧ a < a / long * long + long ∧ a / long * long + long ≤ 32 ∧ a % long = a - a / long * long ∧ 0 ≤ a % long ∧ a % long < long ∧ 0 < long := by
  rcases hl with rfl | rfl | rfl <;> omega
theorem slc_get {mem : List Int} {n long : Int} (hl : L3 long) (hm : mem.length = 32) (h0 : 0 ≤ n) (h1 : n * long + long ≤ 32) {j : Nat} (hj : (j : Int) < long) : (slc mem n long)[j]? = mem[(n * long).toNat + j]? := by
  unfold slc
  rw [List.getElem?_take, if_pos (by rcases hl with rfl | rfl | rfl <;> omega), List.getElem?_drop]
theorem slc_at {mem : List Int} {a long : Int} (hl : L3 long) (hm : mem.length = 32) (h0 : 0 ≤ a) (h1 : a < 32) : (slc mem (a / long) long)[(a % long).toNat]? = some (mem.getD a.toNat 0) := by
  obtain ⟨n0, n1, n2, n3, n4, n5, n6, n7⟩ := num_at hl h0 h1
  rw [slc_get hl hm n0 n3 (by rcases hl with rfl | rfl | rfl <;> omega), show (a / long * long).toNat + (a % long).toNat = a.toNat by rcases hl with rfl | rfl | rfl <;> omega]
  have : a.toNat < mem.length := by omega
  rw [List.getD_eq_getElem?_getD, List.getElem?_eq_getElem this]
  rfl
theorem slc_set {mem : List Int} {a n long w : Int} (hl : L3 long) (hm : mem.length = 32) (h0 : 0 ≤ a) (h1 : a < 32) (n0 : 0 ≤ n) (n1 : n * long + long ≤ 32) : slc (mem.set a.toNat w) n long = if n = a / long then (slc mem n long).set (a % long).toNat w else slc mem n long := by
  obtain ⟨m0, m1, m2, m3, m4, m5, m6, m7⟩ := num_at hl h0 h1
  have hm' : (mem.set a.toNat w).length = 32 := by rw [List.length_set]; exact hm
  apply List.ext_getElem?
  intro j
  by_cases hj : (j : Int) < long
  · rw [slc_get hl hm' n0 n1 hj]
    by_cases c : n = a / long
    · rw [if_pos c]
      by_cases d : j = (a % long).toNat
      · have lj : j < (slc mem n long).length := by rw [slc_len hl hm n0 n1]; omega
        rw [show (n * long).toNat + j = a.toNat by subst c; rw [d]; rcases hl with rfl | rfl | rfl <;> omega, List.getElem?_set_self (by omega), d, List.getElem?_set_self (by rw [← d]; exact lj)]
      · rw [List.getElem?_set_ne (by subst c; rcases hl with rfl | rfl | rfl <;> omega), List.getElem?_set_ne (fun z => d z.symm), slc_get hl hm n0 n1 hj]
    · rw [if_neg c, slc_get hl hm n0 n1 hj, List.getElem?_set_ne]
      intro z
      apply c
      rcases hl with rfl | rfl | rfl <;> omega
  · have l1 : (slc (mem.set a.toNat w) n long).length ≤ j := by rw [slc_len hl hm' n0 n1]; omega
    have l2 : (slc mem n long).length ≤ j := by rw [slc_len hl hm n0 n1]; omega
    rw [List.getElem?_eq_none l1]
    split
    · rw [List.getElem?_eq_none (by rw [List.length_set]; exact l2)]
    · rw [List.getElem?_eq_none l2]
theorem wb_len {ws mem : List Int} {n long : Int} (hl : L3 long) (hm : mem.length = 32) (hw : ws.length = 32) (n0 : 0 ≤ n) (n1 : n * long + long ≤ 32) : (wbP ws mem n long).length = 32 := by
  unfold wbP
  rw [List.length_append, List.length_append, List.length_take, List.length_drop, slc_len hl hm n0 n1, hw]
  rcases hl with rfl | rfl | rfl <;> omega
theorem wb_get {ws mem : List Int} {n long : Int} (hl : L3 long) (hm : mem.length = 32) (hw : ws.length = 32) (n0 : 0 ≤ n) (n1 : n * long + long ≤ 32) {j : Nat} (hj : j < 32) : (wbP ws mem n long).getD j 0 = if n = (j : Int) / long then mem.getD j 0 else ws.getD j 0 := by
  have l0 : (ws.take (n * long).toNat).length = (n * long).toNat := by
    rw [List.length_take, hw]
    rcases hl with rfl | rfl | rfl <;> omega
  have l1 := slc_len hl hm n0 n1
  unfold wbP
  rw [List.getD_eq_getElem?_getD, List.append_assoc]
  by_cases c1 : j < (n * long).toNat
  · have : ¬ n = (j : Int) / long := by rcases hl with rfl | rfl | rfl <;> omega
    rw [if_neg this, List.getElem?_append_left (by rw [l0]; exact c1), List.getElem?_take, if_pos c1, ← List.getD_eq_getElem?_getD]
  · rw [List.getElem?_append_right (by rw [l0]; omega), l0]
    by_cases c2 : j < (n * long + long).toNat
    · have e : n = (j : Int) / long := by rcases hl with rfl | rfl | rfl <;> omega
      rw [if_pos e, List.getElem?_append_left (by rw [l1]; rcases hl with rfl | rfl | rfl <;> omega), slc_get hl hm n0 n1 (by rcases hl with rfl | rfl | rfl <;> omega), show (n * long).toNat + (j - (n * long).toNat) = j by omega, ← List.getD_eq_getElem?_getD]
    · have : ¬ n = (j : Int) / long := by rcases hl with rfl | rfl | rfl <;> omega
      rw [if_neg this, List.getElem?_append_right (by rw [l1]; rcases hl with rfl | rfl | rfl <;> omega), l1, List.getElem?_drop, show (n * long + long).toNat + (j - (n * long).toNat - long.toNat) = j by rcases hl with rfl | rfl | rfl <;> omega, ← List.getD_eq_getElem?_getD]
structure Ln where
  r : Nat
  v : Nat
  num : Int
  dirty : Bool
structure Rw where
  r : Nat
  ls : List Ln
structure Ca where
  ways : Int
  long : Int
  thr : Bool
  hits : Int
  misses : Int
  put : Int
  ws : List Int
  rows : List Rw
def cfl (W S : Nat) (c : Ca) : List (Str × D) := [("words", .ref W), ("sets", .ref S), ("ways", .int c.ways), ("long", .int c.long), ("through", .bl c.thr), ("hits", .int c.hits), ("misses", .int c.misses), ("put_out", .int c.put)]
section
variable {W S : Nat} {c : Ca}
theorem lk_words : (cfl W S c).lookup ("words" : Str) = some (.ref W) := rfl
theorem lk_sets : (cfl W S c).lookup ("sets" : Str) = some (.ref S) := rfl
theorem lk_ways : (cfl W S c).lookup ("ways" : Str) = some (.int c.ways) := rfl
theorem lk_long : (cfl W S c).lookup ("long" : Str) = some (.int c.long) := rfl
theorem lk_thr : (cfl W S c).lookup ("through" : Str) = some (.bl c.thr) := rfl
theorem lk_hits : (cfl W S c).lookup ("hits" : Str) = some (.int c.hits) := rfl
theorem lk_misses : (cfl W S c).lookup ("misses" : Str) = some (.int c.misses) := rfl
theorem lk_put : (cfl W S c).lookup ("put_out" : Str) = some (.int c.put) := rfl
theorem pt_hits (z : Int) : putD "hits" (.int z) (cfl W S c) = cfl W S { c with hits := z } := rfl
theorem pt_misses (z : Int) : putD "misses" (.int z) (cfl W S c) = cfl W S { c with misses := z } := rfl
theorem pt_put (z : Int) : putD "put_out" (.int z) (cfl W S c) = cfl W S { c with put := z } := rfl
end
structure LnOk (h : Hm) (mem : List Int) (long : Int) (l : Ln) : Prop where
  a : h[l.r]? = some (.lst [.int l.num, .ref l.v, .bl l.dirty])
  b : h[l.v]? = some (.lst ((slc mem l.num long).map D.int))
def own (w : Rw) : List Nat := w.r :: w.ls.flatMap fun l => [l.r, l.v]
structure RwOk (h : Hm) (mem : List Int) (long : Int) (w : Rw) : Prop where
  a : h[w.r]? = some (.lst (w.ls.map fun l => D.ref l.r))
  b : ∀ l ∈ w.ls, LnOk h mem long l
theorem LnOk.keep {h h' : Hm} {mem mem' : List Int} {long : Int} {l : Ln} {S : List Nat} (o : LnOk h mem long l) (k : KL S h h') (a : l.r ∉ S) (b : l.v ∉ S) (m : slc mem' l.num long = slc mem l.num long) : LnOk h' mem' long l := ⟨k.get o.a a, by rw [m]; exact k.get o.b b⟩
theorem own_r {w : Rw} : w.r ∈ own w := List.mem_cons_self
theorem own_l {w : Rw} {l : Ln} (h : l ∈ w.ls) : l.r ∈ own w ∧ l.v ∈ own w :=
  ⟨List.mem_cons_of_mem _ (List.mem_flatMap.mpr ⟨l, h, by simp⟩), List.mem_cons_of_mem _ (List.mem_flatMap.mpr ⟨l, h, by simp⟩)⟩
theorem RwOk.keep {h h' : Hm} {mem mem' : List Int} {long : Int} {w : Rw} {S : List Nat} (o : RwOk h mem long w) (k : KL S h h') (d : ∀ x ∈ own w, x ∉ S) (m : ∀ l ∈ w.ls, slc mem' l.num long = slc mem l.num long) : RwOk h' mem' long w :=
  ⟨k.get o.a (d _ own_r), fun l hl => (o.b l hl).keep k (d _ (own_l hl).1) (d _ (own_l hl).2) (m l hl)⟩
theorem get_lt {h : Hm} {j : Nat} {o : O} (e : h[j]? = some o) : j < h.length := (List.getElem?_eq_some_iff.mp e).1
theorem RwOk.lt {h : Hm} {mem : List Int} {long : Int} {w : Rw} (o : RwOk h mem long w) : ∀ x ∈ own w, x < h.length := fun x hx => by
  unfold own at hx
  rcases List.mem_cons.mp hx with rfl | hx
  · exact get_lt o.a
  · obtain ⟨l, hl, hx⟩ := List.mem_flatMap.mp hx
    have q := o.b l hl
    simp only [List.mem_cons, List.not_mem_nil, or_false] at hx
    rcases hx with rfl | rfl
    · exact get_lt q.a
    · exact get_lt q.b
def cref (C W S : Nat) (rows : List Rw) : List Nat := C :: W :: S :: rows.flatMap own
structure CaH (h : Hm) (C W S : Nat) (mem : List Int) (c : Ca) : Prop where
  hC : h[C]? = some (.ins "Cache" (cfl W S c))
  hW : h[W]? = some (.lst (c.ws.map D.int))
  hS : h[S]? = some (.lst (c.rows.map fun w => D.ref w.r))
  rw : ∀ w ∈ c.rows, RwOk h mem c.long w
  nd : (cref C W S c.rows).Nodup
structure RowW (n k : Nat) (ways long : Int) (w : Rw) : Prop where
  b : ∀ l ∈ w.ls, l.num % (n : Int) = (k : Int) ∧ 0 ≤ l.num ∧ l.num * long + long ≤ 32
  nd : (w.ls.map (·.num)).Nodup
  ln : (w.ls.length : Int) ≤ ways
structure CaW (mem : List Int) (c : Ca) : Prop where
  wl : c.ws.length = 32
  ml : mem.length = 32
  l3 : L3 c.long
  sets : c.rows.length = 1 ∨ c.rows.length = 2 ∨ c.rows.length = 4
  wy : 1 ≤ c.ways ∧ c.ways ≤ 2
  row : ∀ k w, c.rows[k]? = some w → RowW c.rows.length k c.ways c.long w
  agree : ∀ j : Nat, j < 32 → (∀ w ∈ c.rows, ∀ l ∈ w.ls, l.dirty = true → l.num ≠ (j : Int) / c.long) → c.ws.getD j 0 = mem.getD j 0
  through : c.thr = true → c.put = 0 ∧ ∀ w ∈ c.rows, ∀ l ∈ w.ls, l.dirty = false
structure CaOk (h : Hm) (C W S : Nat) (mem : List Int) (c : Ca) : Prop where
  H : CaH h C W S mem c
  P : CaW mem c
theorem cref_lt {h : Hm} {C W S : Nat} {mem : List Int} {c : Ca} (o : CaH h C W S mem c) : ∀ x ∈ cref C W S c.rows, x < h.length := fun x hx => by
  unfold cref at hx
  simp only [List.mem_cons, List.mem_flatMap] at hx
  rcases hx with rfl | rfl | rfl | ⟨w, hw, hx⟩
  · exact get_lt o.hC
  · exact get_lt o.hW
  · exact get_lt o.hS
  · exact (o.rw w hw).lt x hx
theorem get_mid {α : Type} {A B : List α} {x y : α} {k : Nat} (h : k ≠ A.length) : (A ++ x :: B)[k]? = (A ++ y :: B)[k]? := by
  by_cases c : k < A.length
  · rw [List.getElem?_append_left c, List.getElem?_append_left c]
  · rw [List.getElem?_append_right (by omega), List.getElem?_append_right (by omega)]
    obtain ⟨m, hm⟩ : ∃ m, k - A.length = m + 1 := ⟨k - A.length - 1, by omega⟩
    rw [hm]
    rfl
theorem get_at {α : Type} {A B : List α} {x : α} : (A ++ x :: B)[A.length]? = some x := by
  rw [List.getElem?_append_right (Nat.le_refl _), Nat.sub_self]
  rfl
/-- the refs part -/
theorem cref_mid {C W S : Nat} {A B : List Rw} {w : Rw} : (cref C W S (A ++ w :: B)).Perm (own w ++ (C :: W :: S :: (A.flatMap own ++ B.flatMap own))) := by
  unfold cref
  rw [List.flatMap_append, List.flatMap_cons]
  have e1 : (A.flatMap own ++ (own w ++ B.flatMap own)).Perm (own w ++ (A.flatMap own ++ B.flatMap own)) := by
    rw [← List.append_assoc, ← List.append_assoc]
    exact List.Perm.append_right _ List.perm_append_comm
  refine (((e1.cons S).cons W).cons C).trans ?_
  exact (List.perm_append_comm (l₁ := [C, W, S]) (l₂ := own w)).append_right _ |>.trans (by simp)
theorem nd_mid {C W S : Nat} {A B : List Rw} {w : Rw} (n : (cref C W S (A ++ w :: B)).Nodup) : (own w).Nodup ∧ (C :: W :: S :: (A.flatMap own ++ B.flatMap own)).Nodup ∧ ∀ x ∈ own w, x ≠ C ∧ x ≠ W ∧ x ≠ S ∧ ∀ u, u ∈ A ∨ u ∈ B → x ∉ own u := by
  rw [cref_mid.nodup_iff, List.nodup_append] at n
  refine ⟨n.1, n.2.1, fun x hx => ?_⟩
  have q := n.2.2 x hx
  refine ⟨q C (by simp), q W (by simp), q S (by simp), fun u hu z => q x ?_ rfl⟩
  simp only [List.mem_cons, List.mem_append, List.mem_flatMap]
  rcases hu with hu | hu
  · exact .inr (.inr (.inr (.inl ⟨u, hu, z⟩)))
  · exact .inr (.inr (.inr (.inr ⟨u, hu, z⟩)))
theorem nd_put {C W S n : Nat} {A B : List Rw} {w w' : Rw} (nd : (cref C W S (A ++ w :: B)).Nodup) (lt : ∀ x ∈ cref C W S (A ++ w :: B), x < n) (nw : (own w').Nodup) (g : ∀ x ∈ own w', x ∈ own w ∨ n ≤ x) : (cref C W S (A ++ w' :: B)).Nodup := by
  rw [cref_mid.nodup_iff, List.nodup_append] at nd ⊢
  refine ⟨nw, nd.2.1, fun x hx y hy z => ?_⟩
  subst z
  rcases g x hx with a | a
  · exact nd.2.2 x a x hy rfl
  · have := lt x (cref_mid.mem_iff.mpr (List.mem_append_right _ hy))
    omega
def Grow (n : Nat) (L L' : List Nat) : Prop := ∀ x ∈ L', x ∈ L ∨ n ≤ x
theorem grow_mid {C W S n : Nat} {A B : List Rw} {w w' : Rw} (g : ∀ x ∈ own w', x ∈ own w ∨ n ≤ x) : Grow n (cref C W S (A ++ w :: B)) (cref C W S (A ++ w' :: B)) := fun x hx => by
  rcases List.mem_append.mp (cref_mid.mem_iff.mp hx) with a | a
  · rcases g x a with b | b
    · exact .inl (cref_mid.mem_iff.mpr (List.mem_append_left _ b))
    · exact .inr b
  · exact .inl (cref_mid.mem_iff.mpr (List.mem_append_right _ a))
theorem Grow.refl {n : Nat} {L : List Nat} : Grow n L L := fun _ h => .inl h
theorem Grow.trans {n m : Nat} {L L1 L2 : List Nat} (a : Grow n L L1) (b : Grow m L1 L2) (h : n ≤ m) : Grow n L L2 := fun x hx => by
  rcases b x hx with c | c
  · exact a x c
  · exact .inr (Nat.le_trans h c)
/-- one row is changed -/
theorem CaH.chg {h h' : Hm} {C W S : Nat} {mem mem' : List Int} {c c' : Ca} {A B : List Rw} {w w' : Rw} (o : CaH h C W S mem c) (e : c.rows = A ++ w :: B) (e' : c'.rows = A ++ w' :: B) (el : c'.long = c.long) (er : w'.r = w.r)
    (k : KL (C :: W :: own w) h h') (eC : h'[C]? = some (.ins "Cache" (cfl W S c'))) (eW : h'[W]? = some (.lst (c'.ws.map D.int))) (ew : RwOk h' mem' c.long w') (nw : (own w').Nodup) (g : ∀ x ∈ own w', x ∈ own w ∨ h.length ≤ x)
    (m : ∀ u, u ∈ A ∨ u ∈ B → ∀ l ∈ u.ls, slc mem' l.num c.long = slc mem l.num c.long) : CaH h' C W S mem' c' := by
  have nd := o.nd
  have lt := cref_lt o
  rw [e] at nd lt
  obtain ⟨n1, n2, n3⟩ := nd_mid nd
  have sC : S ≠ C ∧ S ≠ W ∧ C ≠ W := by
    simp only [List.nodup_cons, List.mem_cons, not_or] at n2
    exact ⟨fun z => n2.1.2.1 z.symm, fun z => n2.2.1.1 z.symm, n2.1.1⟩
  refine ⟨eC, eW, ?_, ?_, by rw [e']; exact nd_put nd lt nw g⟩
  · have : c'.rows.map (fun w => D.ref w.r) = c.rows.map fun w => D.ref w.r := by rw [e, e']; simp [er]
    rw [this]
    refine k.get o.hS ?_
    simp only [List.mem_cons, not_or]
    exact ⟨sC.1, sC.2.1, fun z => (n3 S z).2.2.1 rfl⟩
  · intro u hu
    rw [e'] at hu
    rw [el]
    have far : ∀ u, u ∈ A ∨ u ∈ B → RwOk h' mem' c.long u := fun u hu => by
      have hu' : u ∈ c.rows := by rw [e]; rcases hu with a | a <;> simp [a]
      refine (o.rw u hu').keep k ?_ (m u hu)
      intro x hx z
      have hx2 : x ∈ A.flatMap own ++ B.flatMap own := by
        rw [List.mem_append, List.mem_flatMap, List.mem_flatMap]
        rcases hu with a | a
        · exact .inl ⟨u, a, hx⟩
        · exact .inr ⟨u, a, hx⟩
      simp only [List.nodup_cons, List.mem_cons, not_or] at n2
      rcases List.mem_cons.mp z with rfl | z
      · exact n2.1.2.2 hx2
      · rcases List.mem_cons.mp z with rfl | z
        · exact n2.2.1.2 hx2
        · exact (n3 x z).2.2.2 u hu hx
    rcases List.mem_append.mp hu with a | a
    · exact far u (.inl a)
    · rcases List.mem_cons.mp a with rfl | a
      · exact ew
      · exact far u (.inr a)
theorem CaW.chg {mem mem' : List Int} {c c' : Ca} {A B : List Rw} {w w' : Rw} (o : CaW mem c) (e : c.rows = A ++ w :: B) (e' : c'.rows = A ++ w' :: B) (el : c'.long = c.long) (ey : c'.ways = c.ways) (et : c'.thr = c.thr) (ew : c'.ws.length = 32) (em : mem'.length = 32)
    (r : RowW c.rows.length A.length c.ways c.long w') (ag : ∀ j : Nat, j < 32 → (∀ u, u ∈ A ∨ u ∈ B → ∀ l ∈ u.ls, l.dirty = true → l.num ≠ (j : Int) / c.long) → (∀ l ∈ w'.ls, l.dirty = true → l.num ≠ (j : Int) / c.long) → c'.ws.getD j 0 = mem'.getD j 0)
    (th : c.thr = true → c'.put = 0 ∧ ∀ l ∈ w'.ls, l.dirty = false) : CaW mem' c' := by
  have len : c'.rows.length = c.rows.length := by rw [e, e']; simp
  refine ⟨ew, em, by rw [el]; exact o.l3, by rw [len]; exact o.sets, by rw [ey]; exact o.wy, ?_, ?_, ?_⟩
  · intro k u hu
    rw [len, ey, el]
    by_cases q : k = A.length
    · subst q
      rw [e', get_at] at hu
      cases hu
      exact r
    · refine o.row k u ?_
      rw [e, get_mid (y := w') q, ← e']
      exact hu
  · intro j hj z
    rw [el] at z
    refine ag j hj (fun u hu => z u ?_) (z w' (by rw [e']; simp))
    rw [e']
    rcases hu with a | a <;> simp [a]
  · intro t
    rw [et] at t
    refine ⟨(th t).1, fun u hu => ?_⟩
    rw [e'] at hu
    rcases List.mem_append.mp hu with a | a
    · exact (o.through t).2 u (by rw [e]; simp [a])
    · rcases List.mem_cons.mp a with rfl | a
      · exact (th t).2
      · exact (o.through t).2 u (by rw [e]; simp [a])
/-- lines of the same number are one -/
theorem CaW.uniq {mem : List Int} {c : Ca} (o : CaW mem c) {A B : List Rw} {w : Rw} (e : c.rows = A ++ w :: B) {l : Ln} (hl : l ∈ w.ls) : ∀ u, u ∈ A ∨ u ∈ B → ∀ l2 ∈ u.ls, l2.num ≠ l.num := by
  intro u hu l2 h2 z
  have r1 := ((o.row A.length w (by rw [e]; exact get_at)).b l hl).1
  obtain ⟨k, hk⟩ : ∃ k : Nat, k ≠ A.length ∧ c.rows[k]? = some u := by
    rw [e]
    rcases hu with a | a
    · obtain ⟨k, hk, q⟩ := List.mem_iff_getElem.mp a
      refine ⟨k, by omega, ?_⟩
      rw [List.getElem?_append_left hk, List.getElem?_eq_getElem hk, q]
    · obtain ⟨k, hk, q⟩ := List.mem_iff_getElem.mp a
      refine ⟨A.length + (k + 1), by omega, ?_⟩
      rw [List.getElem?_append_right (by omega), show A.length + (k + 1) - A.length = k + 1 by omega, List.getElem?_cons_succ, List.getElem?_eq_getElem hk, q]
  have r2 := ((o.row k u hk.2).b l2 h2).1
  rw [z, r1] at r2
  exact hk.1 (by omega)
def cwb (mem : List Int) (c : Ca) (l : Ln) : Ca := if l.dirty = true then { c with put := c.put + 1, ws := wbP c.ws mem l.num c.long } else c
theorem l3b {long : Int} (h : L3 long) : -1000000 < long ∧ long < 1000000 ∧ 0 < long := by rcases h with rfl | rfl | rfl <;> decide
theorem wb_run {h : Hm} {C W S : Nat} {mem : List Int} {c : Ca} {l : Ln} (eC : h[C]? = some (.ins "Cache" (cfl W S c))) (eW : h[W]? = some (.lst (c.ws.map D.int))) (lo : LnOk h mem c.long l) (hl : L3 c.long) (hm : mem.length = 32) (hw : c.ws.length = 32) (n0 : 0 ≤ l.num) (n1 : l.num * c.long + c.long ≤ 32)
    (e1 : C ≠ W) (e2 : C ≠ l.r) (e3 : C ≠ l.v) (e4 : W ≠ l.r) (e5 : W ≠ l.v) : ∃ h', f_Cache_write_back [.ref C, .ref l.r] h = .ok .non h' ∧ KL [C, W, l.r] h h' ∧ h'[C]? = some (.ins "Cache" (cfl W S (cwb mem c l))) ∧ h'[W]? = some (.lst ((cwb mem c l).ws.map D.int)) ∧ h'[l.r]? = some (.lst [.int l.num, .ref l.v, .bl false]) := by
  obtain ⟨a1, a2⟩ := lo
  have hC := get_lt eC
  have hW := get_lt eW
  have hR := get_lt a1
  have i2 : fIx (.ref l.r) (.int 2) h = .ok (.bl l.dirty) h := fIx_lst (j := 2) a1 rfl
  by_cases q : l.dirty = true
  · have cw : cwb mem c l = { c with put := c.put + 1, ws := wbP c.ws mem l.num c.long } := by unfold cwb; rw [if_pos q]
    rw [cw]
    rw [q] at i2 a1
    have lb := l3b hl
    have n2 : 0 ≤ l.num * c.long := by rcases hl with e | e | e <;> rw [e] <;> omega
    obtain ⟨st, hst⟩ : ∃ st, st = l.num * c.long := ⟨_, rfl⟩
    obtain ⟨h1, hh1⟩ : ∃ h1, h1 = h.set C (.ins "Cache" (cfl W S { c with put := c.put + 1 })) := ⟨_, rfl⟩
    obtain ⟨h2, hh2⟩ : ∃ h2, h2 = h1.set W (.lst ((wbP c.ws mem l.num c.long).map D.int)) := ⟨_, rfl⟩
    obtain ⟨h3, hh3⟩ : ∃ h3, h3 = h2.set l.r (.lst [.int l.num, .ref l.v, .bl false]) := ⟨_, rfl⟩
    have l1 : h1.length = h.length := by rw [hh1, List.length_set]
    have l2 : h2.length = h.length := by rw [hh2, List.length_set, l1]
    have c1 : h1[C]? = some (.ins "Cache" (cfl W S { c with put := c.put + 1 })) := by rw [hh1]; exact List.getElem?_set_self hC
    have w1 : h1[W]? = some (.lst (c.ws.map D.int)) := by rw [hh1, List.getElem?_set_ne e1]; exact eW
    have r1 : h1[l.r]? = some (.lst [.int l.num, .ref l.v, .bl true]) := by rw [hh1, List.getElem?_set_ne e2]; exact a1
    have v1 : h1[l.v]? = some (.lst ((slc mem l.num c.long).map D.int)) := by rw [hh1, List.getElem?_set_ne e3]; exact a2
    have r2 : h2[l.r]? = some (.lst [.int l.num, .ref l.v, .bl true]) := by rw [hh2, List.getElem?_set_ne e4]; exact r1
    have wbm : ((c.ws.map D.int).take st.toNat ++ (slc mem l.num c.long).map D.int ++ (c.ws.map D.int).drop (st + c.long).toNat) = (wbP c.ws mem l.num c.long).map D.int := by
      unfold wbP
      rw [hst]
      simp [List.map_append, List.map_take, List.map_drop]
    refine ⟨h3, ?_, ⟨by rw [hh3, List.length_set, l2]; exact Nat.le_refl _, fun j hj nj => ?_⟩, ?_, ?_, ?_⟩
    · refine call_next (e1 := [some (.ref C), some (.ref l.r), some (.int st)]) f_Cache_write_back_eq rfl ?_
      show b_Cache_write_back [some (.ref C), some (.ref l.r), none] h = _
      unfold b_Cache_write_back
      refine if_t (tru_run (m2_run (var_run rfl) c_run i2)) ?_
      refine seq_next (fldA_run (var_run rfl) eC (by decide) lk_put c_run (by rfl) eC (by show 8 < 1000; decide)) ?_
      rw [pt_put, ← hh1]
      refine seq_next (asg_run (m2_run (m2_run (var_run rfl) c_run (fIx_lst (j := 0) r1 rfl)) (fld_run (var_run rfl) c1 (by decide) lk_long) (mu ⟨lb.1, lb.2.1⟩))) ?_
      rw [← hst]
      refine seq_next (e1 := [some (.ref C), some (.ref l.r), some (.int st)]) (h1 := h2) ?_ ?_
      · rw [hh2, ← wbm]
        refine slM_run (m2_run (var_run rfl) c_run (fIx_lst (j := 1) r1 rfl)) (fld_run (var_run rfl) c1 (by decide) lk_words) (some_run (var_run rfl)) (some_run (m2_run (var_run rfl) (fld_run (var_run rfl) c1 (by decide) lk_long) (fAdd_i))) w1 v1 e5 ?_ ?_ ?_ ?_
        · rw [hst]; exact n2
        · omega
        · rw [List.length_map, hw, hst]; exact n1
        · rw [List.length_map, List.length_map, hw, slc_len hl hm n0 n1]; omega
      · rw [hh3]
        exact sub_run c_run (var_run rfl) c_run (fSet_lst (j := 2) r2 (by show 2 < 3; decide))
    · simp only [List.mem_cons, List.not_mem_nil, or_false, not_or] at nj
      rw [hh3, List.getElem?_set_ne (fun z => nj.2.2 z.symm), hh2, List.getElem?_set_ne (fun z => nj.2.1 z.symm), hh1, List.getElem?_set_ne (fun z => nj.1 z.symm)]
    · rw [hh3, List.getElem?_set_ne (fun z => e2 z.symm), hh2, List.getElem?_set_ne (fun z => e1 z.symm)]
      exact c1
    · rw [hh3, List.getElem?_set_ne (fun z => e4 z.symm), hh2]
      exact List.getElem?_set_self (by omega)
    · rw [hh3]
      exact List.getElem?_set_self (by omega)
  · have q : l.dirty = false := by cases e : l.dirty; rfl; exact absurd e q
    have cw : cwb mem c l = c := by unfold cwb; rw [if_neg (by rw [q]; decide)]
    rw [cw]
    rw [q] at i2 a1
    refine ⟨h, ?_, KL.refl, eC, eW, a1⟩
    refine call_next (e1 := [some (.ref C), some (.ref l.r), none]) f_Cache_write_back_eq rfl ?_
    show b_Cache_write_back [some (.ref C), some (.ref l.r), none] h = _
    unfold b_Cache_write_back
    exact if_no (tru_run (m2_run (var_run rfl) c_run i2))
theorem CaW.ag {mem : List Int} {c : Ca} (o : CaW mem c) {A B : List Rw} {w : Rw} (e : c.rows = A ++ w :: B) : ∀ j : Nat, j < 32 → (∀ u, u ∈ A ∨ u ∈ B → ∀ l ∈ u.ls, l.dirty = true → l.num ≠ (j : Int) / c.long) → (∀ l ∈ w.ls, l.dirty = true → l.num ≠ (j : Int) / c.long) → c.ws.getD j 0 = mem.getD j 0 := by
  intro j hj z1 z2
  refine o.agree j hj fun u hu => ?_
  rw [e] at hu
  rcases List.mem_append.mp hu with a | a
  · exact z1 u (.inl a)
  · rcases List.mem_cons.mp a with rfl | a
    · exact z2
    · exact z1 u (.inr a)
theorem CaW.mid {mem : List Int} {c : Ca} (o : CaW mem c) {A B : List Rw} {w : Rw} (e : c.rows = A ++ w :: B) : RowW c.rows.length A.length c.ways c.long w := o.row _ _ (by rw [e]; exact get_at)
theorem CaW.th {mem : List Int} {c : Ca} (o : CaW mem c) {A B : List Rw} {w : Rw} (e : c.rows = A ++ w :: B) (t : c.thr = true) : c.put = 0 ∧ ∀ l ∈ w.ls, l.dirty = false := ⟨(o.through t).1, (o.through t).2 w (by rw [e]; simp)⟩
theorem CaH.mid {h : Hm} {C W S : Nat} {mem : List Int} {c : Ca} (o : CaH h C W S mem c) {A B : List Rw} {w : Rw} (e : c.rows = A ++ w :: B) : RwOk h mem c.long w ∧ (own w).Nodup ∧ C ≠ W ∧ C ≠ S ∧ W ≠ S ∧ ∀ x ∈ own w, x ≠ C ∧ x ≠ W ∧ x ≠ S ∧ x < h.length := by
  have nd := o.nd
  rw [e] at nd
  obtain ⟨n1, n2, n3⟩ := nd_mid nd
  have r := o.rw w (by rw [e]; simp)
  simp only [List.nodup_cons, List.mem_cons, not_or] at n2
  exact ⟨r, n1, n2.1.1, n2.1.2.1, n2.2.1.1, fun x hx => ⟨(n3 x hx).1, (n3 x hx).2.1, (n3 x hx).2.2.1, r.lt x hx⟩⟩
theorem own_ne {w : Rw} (n : (own w).Nodup) {l : Ln} (hl : l ∈ w.ls) : l.r ≠ w.r ∧ l.v ≠ w.r := by
  unfold own at n
  rw [List.nodup_cons] at n
  refine ⟨fun z => n.1 ?_, fun z => n.1 ?_⟩
  · rw [← z, List.mem_flatMap]; exact ⟨l, hl, by simp⟩
  · rw [← z, List.mem_flatMap]; exact ⟨l, hl, by simp⟩
theorem CaH.bump {h h' : Hm} {C W S : Nat} {mem : List Int} {c c' : Ca} (o : CaH h C W S mem c) (k : KL [C] h h') (eC : h'[C]? = some (.ins "Cache" (cfl W S c'))) (e1 : c'.rows = c.rows) (e2 : c'.ws = c.ws) (e3 : c'.long = c.long) : CaH h' C W S mem c' := by
  have n := o.nd
  unfold cref at n
  simp only [List.nodup_cons, List.mem_cons, not_or] at n
  refine ⟨eC, by rw [e2]; exact k.get o.hW (by simp only [List.mem_singleton]; exact fun z => n.1.1 z.symm), by rw [e1]; exact k.get o.hS (by simp only [List.mem_singleton]; exact fun z => n.1.2.1 z.symm), fun w hw => ?_, by rw [e1]; exact o.nd⟩
  rw [e1] at hw
  rw [e3]
  refine (o.rw w hw).keep k (fun x hx z => ?_) fun l _ => rfl
  rw [List.mem_singleton] at z
  subst z
  exact n.1.2.2 (List.mem_flatMap.mpr ⟨w, hw, hx⟩)
theorem CaW.bump {mem : List Int} {c c' : Ca} (o : CaW mem c) (e1 : c'.rows = c.rows) (e2 : c'.ws = c.ws) (e3 : c'.long = c.long) (e4 : c'.ways = c.ways) (e5 : c'.thr = c.thr) (e6 : c'.put = c.put) : CaW mem c' := by
  refine ⟨by rw [e2]; exact o.wl, o.ml, by rw [e3]; exact o.l3, by rw [e1]; exact o.sets, by rw [e4]; exact o.wy, ?_, ?_, ?_⟩
  · rw [e1, e3, e4]; exact o.row
  · rw [e1, e2, e3]; exact o.agree
  · rw [e1, e5, e6]; exact o.through
theorem CaH.kl {h h' : Hm} {C W S : Nat} {mem : List Int} {c : Ca} {L : List Nat} (o : CaH h C W S mem c) (k : KL L h h') (d : ∀ x ∈ cref C W S c.rows, x ∉ L) : CaH h' C W S mem c := by
  refine ⟨k.get o.hC (d _ (by simp [cref])), k.get o.hW (d _ (by simp [cref])), k.get o.hS (d _ (by simp [cref])), fun w hw => (o.rw w hw).keep k (fun x hx => d x ?_) fun l _ => rfl, o.nd⟩
  unfold cref
  simp only [List.mem_cons, List.mem_flatMap]
  exact .inr (.inr (.inr ⟨w, hw, hx⟩))
theorem KL.setS {h : Hm} {L : List Nat} {n : Nat} {o : O} (hn : n ∈ L) : KL L h (h.set n o) := KL.set hn
theorem row_split {rows : List Rw} {k : Nat} (hk : k < rows.length) : ∃ A w B, rows = A ++ w :: B ∧ A.length = k := by
  refine ⟨rows.take k, rows[k], rows.drop (k + 1), ?_, by rw [List.length_take]; omega⟩
  rw [← List.drop_eq_getElem_cons hk, List.take_append_drop]
theorem slc_ws {ws mem : List Int} {n long : Int} (hl : L3 long) (hw : ws.length = 32) (hm : mem.length = 32) (n0 : 0 ≤ n) (n1 : n * long + long ≤ 32) (e : ∀ j : Nat, j < 32 → n = (j : Int) / long → ws.getD j 0 = mem.getD j 0) : slc ws n long = slc mem n long := by
  apply List.ext_getElem?
  intro j
  by_cases hj : (j : Int) < long
  · rw [slc_get hl hw n0 n1 hj, slc_get hl hm n0 n1 hj]
    have q := e ((n * long).toNat + j) (by rcases hl with rfl | rfl | rfl <;> omega) (by rcases hl with rfl | rfl | rfl <;> omega)
    have b : (n * long).toNat + j < 32 := by rcases hl with rfl | rfl | rfl <;> omega
    rw [List.getD_eq_getElem?_getD, List.getD_eq_getElem?_getD, List.getElem?_eq_getElem (by omega), List.getElem?_eq_getElem (by omega)] at q
    rw [List.getElem?_eq_getElem (by omega), List.getElem?_eq_getElem (by omega)]
    exact congrArg some q
  · rw [List.getElem?_eq_none (by rw [slc_len hl hw n0 n1]; omega), List.getElem?_eq_none (by rw [slc_len hl hm n0 n1]; omega)]
theorem cwb_eq {mem : List Int} {c : Ca} {l : Ln} : (cwb mem c l).ways = c.ways ∧ (cwb mem c l).long = c.long ∧ (cwb mem c l).thr = c.thr ∧ (cwb mem c l).hits = c.hits ∧ (cwb mem c l).misses = c.misses ∧ (cwb mem c l).rows = c.rows := by
  unfold cwb
  split <;> exact ⟨rfl, rfl, rfl, rfl, rfl, rfl⟩
/-- what a line's write-back does to the words -/
theorem cwb_ws {mem : List Int} {c : Ca} {l : Ln} (o : CaW mem c) (n0 : 0 ≤ l.num) (n1 : l.num * c.long + c.long ≤ 32) : (cwb mem c l).ws.length = 32 ∧ ∀ j : Nat, j < 32 → ((l.dirty = true → l.num ≠ (j : Int) / c.long) → c.ws.getD j 0 = mem.getD j 0) → (cwb mem c l).ws.getD j 0 = mem.getD j 0 := by
  unfold cwb
  by_cases q : l.dirty = true
  · rw [if_pos q]
    refine ⟨wb_len o.l3 o.ml o.wl n0 n1, fun j hj z => ?_⟩
    rw [show ({ c with put := c.put + 1, ws := wbP c.ws mem l.num c.long } : Ca).ws = wbP c.ws mem l.num c.long from rfl, wb_get o.l3 o.ml o.wl n0 n1 hj]
    split
    · rfl
    · rename_i y
      exact z fun _ => y
  · rw [if_neg q]
    exact ⟨o.wl, fun j hj z => z fun y => absurd y q⟩
theorem cwb_put {mem : List Int} {c : Ca} {l : Ln} (q : l.dirty = false) : (cwb mem c l).put = c.put := by
  unfold cwb
  rw [if_neg (by rw [q]; decide)]
theorem evict {h : Hm} {C W S : Nat} {mem : List Int} {c : Ca} {A B : List Rw} {w : Rw} (o : CaOk h C W S mem c) (e : c.rows = A ++ w :: B) {env : Ev} (v0 : env[0]? = some (some (.ref C))) (v3 : env[3]? = some (some (.ref w.r))) :
    ∃ h' c' ls', p_Cache_line_at_6 env h = .next env h' ∧ CaOk h' C W S mem c' ∧ c'.rows = A ++ ⟨w.r, ls'⟩ :: B ∧ ls' = (if (w.ls.length : Int) = c.ways then w.ls.drop 1 else w.ls) ∧ (c'.ways = c.ways ∧ c'.long = c.long ∧ c'.thr = c.thr ∧ c'.hits = c.hits ∧ c'.misses = c.misses) ∧ KL (C :: W :: own w) h h' ∧ (∀ x ∈ own ⟨w.r, ls'⟩, x ∈ own w) ∧ (own ⟨w.r, ls'⟩).Nodup := by
  obtain ⟨rw', nd, d1, d2, d3, d4⟩ := o.H.mid e
  have ea := rw'.a
  have ln := fLen_lst ea
  rw [List.length_map] at ln
  obtain ⟨m, hm⟩ : ∃ m : Int, m = (w.ls.length : Int) := ⟨_, rfl⟩
  rw [← hm] at ln ⊢
  have rW := o.P.mid e
  by_cases q : m = c.ways
  · rw [if_pos q]
    obtain ⟨ρ, ls⟩ := w
    match ls, hm, rw', nd, d4, ea, ln, rW, e with
    | [], hm, rw', nd, d4, ea, ln, rW, e => have := o.P.wy; simp at hm; omega
    | l0 :: lt, hm, rw', nd, d4, ea, ln, rW, e =>
      have ml : l0 ∈ (⟨ρ, l0 :: lt⟩ : Rw).ls := List.mem_cons_self
      have bl := rW.b l0 ml
      have ol := own_l ml
      have on := own_ne nd ml
      have p0 : fPop (.ref ρ) [.int 0] h = .ok (.ref l0.r) (h.set ρ (.lst (lt.map fun l => D.ref l.r))) := fPop_at (j := 0) ea (x := .ref l0.r) rfl (by
        have := rW.ln
        have := o.P.wy
        rw [List.length_map]
        omega)
      obtain ⟨h1, hh1⟩ : ∃ h1, h1 = h.set ρ (.lst (lt.map fun l => D.ref l.r)) := ⟨_, rfl⟩
      rw [← hh1] at p0
      have k1 : KL [ρ] h h1 := by rw [hh1]; exact KL.set (by simp)
      have nC : C ≠ ρ := fun z => (d4 ρ own_r).1 z.symm
      have nW : W ≠ ρ := fun z => (d4 ρ own_r).2.1 z.symm
      have cC : C ≠ l0.r ∧ C ≠ l0.v ∧ W ≠ l0.r ∧ W ≠ l0.v := ⟨fun z => (d4 _ ol.1).1 z.symm, fun z => (d4 _ ol.2).1 z.symm, fun z => (d4 _ ol.1).2.1 z.symm, fun z => (d4 _ ol.2).2.1 z.symm⟩
      have hC1 := k1.get o.H.hC (by simpa using nC)
      have hW1 := k1.get o.H.hW (by simpa using nW)
      have lo1 : LnOk h1 mem c.long l0 := (rw'.b l0 ml).keep k1 (by simpa using on.1) (by simpa using on.2) rfl
      obtain ⟨h2, run, k2, eC2, eW2, eR2⟩ := wb_run hC1 hW1 lo1 o.P.l3 o.P.ml o.P.wl bl.2.1 bl.2.2 d1 cC.1 cC.2.1 cC.2.2.1 cC.2.2.2
      obtain ⟨f1, f2, f3, f4, f5, f6⟩ := cwb_eq (mem := mem) (c := c) (l := l0)
      have nd' : (own ⟨ρ, lt⟩).Nodup := by
        refine nd.sublist ?_
        unfold own
        exact List.Sublist.cons_cons _ (List.sublist_append_right _ _)
      have sub : ∀ x ∈ own ⟨ρ, lt⟩, x ∈ own ⟨ρ, l0 :: lt⟩ := fun x hx => by
        unfold own at hx ⊢
        rcases List.mem_cons.mp hx with rfl | hx
        · exact List.mem_cons_self
        · refine List.mem_cons_of_mem _ ?_
          rw [List.flatMap_cons]
          exact List.mem_append_right _ hx
      have kk : KL (C :: W :: own ⟨ρ, l0 :: lt⟩) h h2 := (k1.sub fun x hx => by rw [List.mem_singleton] at hx; subst hx; exact List.mem_cons_of_mem _ (List.mem_cons_of_mem _ own_r)).trans (k2.sub fun x hx => by
        simp only [List.mem_cons, List.not_mem_nil, or_false] at hx
        rcases hx with rfl | rfl | rfl
        · simp
        · simp
        · exact List.mem_cons_of_mem _ (List.mem_cons_of_mem _ ol.1))
      obtain ⟨c', hc'⟩ : ∃ c' : Ca, c' = { cwb mem c l0 with rows := A ++ ⟨ρ, lt⟩ :: B } := ⟨_, rfl⟩
      have nf : l0.r ∉ lt.flatMap (fun l => [l.r, l.v]) ∧ l0.v ∉ lt.flatMap (fun l => [l.r, l.v]) := by
        unfold own at nd
        simp only [List.flatMap_cons, List.cons_append, List.nil_append, List.nodup_cons, List.mem_cons, not_or] at nd
        exact ⟨nd.2.1.2, nd.2.2.1⟩
      have rwn : RwOk h2 mem c.long ⟨ρ, lt⟩ := by
        refine ⟨?_, fun l hl => ?_⟩
        · refine k2.get (show h1[ρ]? = _ by rw [hh1]; exact List.getElem?_set_self (get_lt ea)) ?_
          simp only [List.mem_cons, List.not_mem_nil, or_false, not_or]
          exact ⟨fun z => nC z.symm, fun z => nW z.symm, fun z => on.1 z.symm⟩
        · have hl' : l ∈ (⟨ρ, l0 :: lt⟩ : Rw).ls := List.mem_cons_of_mem _ hl
          have o1 := own_ne nd hl'
          have o2 := own_l hl'
          have lk := (rw'.b l hl').keep k1 (by simpa using o1.1) (by simpa using o1.2) rfl
          refine lk.keep k2 ?_ ?_ rfl
          · simp only [List.mem_cons, List.not_mem_nil, or_false, not_or]
            exact ⟨(d4 _ o2.1).1, (d4 _ o2.1).2.1, fun z => nf.1 (by rw [← z]; exact List.mem_flatMap.mpr ⟨l, hl, by simp⟩)⟩
          · simp only [List.mem_cons, List.not_mem_nil, or_false, not_or]
            exact ⟨(d4 _ o2.2).1, (d4 _ o2.2).2.1, fun z => nf.1 (by rw [← z]; exact List.mem_flatMap.mpr ⟨l, hl, by simp⟩)⟩
      have wsq := cwb_ws (l := l0) o.P bl.2.1 bl.2.2
      refine ⟨h2, c', lt, ?_, ⟨?_, ?_⟩, by rw [hc'], rfl, by rw [hc']; exact ⟨f1, f2, f3, f4, f5⟩, kk, sub, nd'⟩
      · unfold p_Cache_line_at_6
        refine if_t (bool_run (m2_run (call_run (cons_run (var_run v3) nil_run) ln) (fld_run (var_run v0) o.H.hC (by decide) lk_ways) (fEq_k (decide_eq_true q)))) ?_
        unfold t_Cache_line_at_3
        exact drop_run ((meth_run (var_run v0) o.H.hC rfl (cons_run (methL_run (var_run v3) (isL_ok ea) (cons_run c_run nil_run) p0) nil_run) rfl).trans run)
      · refine o.H.chg (mem' := mem) (w' := ⟨ρ, lt⟩) e (by rw [hc']) (by rw [hc']; exact f2) rfl kk ?_ ?_ rwn nd' (fun x hx => .inl (sub x hx)) fun _ _ _ _ => rfl
        · rw [eC2, hc']; rfl
        · rw [eW2, hc']
      · refine o.P.chg (mem' := mem) (w' := ⟨ρ, lt⟩) e (by rw [hc']) (by rw [hc']; exact f2) (by rw [hc']; exact f1) (by rw [hc']; exact f3) (by rw [hc']; exact wsq.1) o.P.ml ⟨fun l hl => rW.b l (List.mem_cons_of_mem _ hl), (List.nodup_cons.mp rW.nd).2, by
          have := rW.ln
          simp only [List.length_cons] at this ⊢
          omega⟩ ?_ ?_
        · intro j hj z1 z2
          rw [hc']
          refine wsq.2 j hj fun z => o.P.ag e j hj z1 fun l hl => ?_
          rcases List.mem_cons.mp hl with rfl | hl
          · exact z
          · exact z2 l hl
        · intro t
          obtain ⟨t1, t2⟩ := o.P.th e t
          refine ⟨?_, fun l hl => t2 l (List.mem_cons_of_mem _ hl)⟩
          rw [hc']
          show (cwb mem c l0).put = 0
          rw [cwb_put (t2 l0 ml), t1]
  · rw [if_neg q]
    refine ⟨h, c, w.ls, ?_, o, e, rfl, ⟨rfl, rfl, rfl, rfl, rfl⟩, KL.refl, fun x hx => hx, nd⟩
    unfold p_Cache_line_at_6
    exact if_no (bool_run (m2_run (call_run (cons_run (var_run v3) nil_run) ln) (fld_run (var_run v0) o.H.hC (by decide) lk_ways) (fEq_k (decide_eq_false q))))
def befP (x : Int) (l : List Int) : List Int := (List.range l.length).filterMap fun j => if l.getD j 0 = x then some (j : Int) else none
theorem befP_nil {x : Int} {l : List Int} (h : x ∉ l) : befP x l = [] := by
  unfold befP
  rw [List.filterMap_eq_nil_iff]
  intro j hj
  rw [List.mem_range] at hj
  rw [if_neg]
  intro z
  rw [List.getD_eq_getElem?_getD, List.getElem?_eq_getElem hj] at z
  exact h (by rw [← z]; exact List.getElem_mem hj)
theorem befP_one {x : Int} {p q : List Int} (h1 : x ∉ p) (h2 : x ∉ q) : befP x (p ++ x :: q) = [(p.length : Int)] := by
  unfold befP
  have c : ∀ j ∈ List.range (p ++ x :: q).length, (if (p ++ x :: q).getD j 0 = x then some (j : Int) else none) = (if j = p.length then some (j : Int) else none) := by
    intro j hj
    rw [List.mem_range] at hj
    by_cases hp : j = p.length
    · subst hp
      simp
    · rw [if_neg hp, if_neg]
      intro z
      rw [List.getD_eq_getElem?_getD] at z
      by_cases hlt : j < p.length
      · rw [List.getElem?_append_left hlt, List.getElem?_eq_getElem hlt] at z
        exact h1 (by rw [← z]; exact List.getElem_mem hlt)
      · rw [List.getElem?_append_right (by omega)] at z
        obtain ⟨m, hm⟩ : ∃ m, j - p.length = m + 1 := ⟨j - p.length - 1, by omega⟩
        have hm2 : m < q.length := by simp at hj; omega
        rw [hm, List.getElem?_cons_succ, List.getElem?_eq_getElem hm2] at z
        exact h2 (by rw [← z]; exact List.getElem_mem hm2)
  rw [fm_congr c, show (p ++ x :: q).length = p.length + (1 + q.length) by simp; omega, List.range_add, List.filterMap_append]
  have z1 : (List.range p.length).filterMap (fun j => if j = p.length then some (j : Int) else none) = [] := by
    rw [List.filterMap_eq_nil_iff]
    intro j hj
    rw [List.mem_range] at hj
    rw [if_neg (by omega)]
  rw [z1, List.nil_append, List.range_add, List.map_append, List.filterMap_append]
  have z2 : (((List.range q.length).map fun a => 1 + a).map fun a => p.length + a).filterMap (fun j => if j = p.length then some (j : Int) else none) = [] := by
    rw [List.filterMap_eq_nil_iff]
    intro j hj
    simp only [List.map_map, List.mem_map, List.mem_range, Function.comp] at hj
    obtain ⟨a, ha, rfl⟩ := hj
    rw [if_neg (by omega)]
  rw [z2]
  simp
theorem enumD_range : ∀ (ds : List D) (n : Nat), enumD n ds = (List.range ds.length).map fun j => D.tup [.int ((n + j : Nat) : Int), ds.getD j .non]
  | [], n => rfl
  | d :: ds, n => by
    rw [enumD, enumD_range ds (n + 1), List.length_cons, List.range_succ_eq_map, List.map_cons, List.map_map]
    congr 1
    apply List.map_congr_left
    intro j _
    show D.tup [.int ((n + 1 + j : Nat) : Int), ds.getD j .non] = D.tup [.int ((n + (j + 1) : Nat) : Int), (d :: ds).getD (j + 1) .non]
    rw [show n + 1 + j = n + (j + 1) by omega]
    rfl
/-- the places in the row where the number stands -/
theorem there_run {h : Hm} {mem : List Int} {long x : Int} {w : Rw} {env : Ev} (h8 : env.length = 8) (e2 : env[2]? = some (some (.int x))) (o : RwOk h mem long w) :
    lcL [(w.r, .lst (w.ls.map fun l => D.ref l.r))] (gU 2 (gsCons (gN 6) (gsCons (gN 7) gsNil))) (mBool (m2 fEq (m2 fIx (mVar 7) (mC (.int 0))) (mVar 2))) (mVar 6) env (enumD 0 (w.ls.map fun l => D.ref l.r)) h = .ok ((befP x (w.ls.map (·.num))).map D.int) h := by
  rw [enumD_range]
  have T : ∀ j ∈ List.range (w.ls.map fun l => D.ref l.r).length, lcTurn (gU 2 (gsCons (gN 6) (gsCons (gN 7) gsNil))) (mBool (m2 fEq (m2 fIx (mVar 7) (mC (.int 0))) (mVar 2))) (mVar 6) env (.tup [.int ((0 + j : Nat) : Int), (w.ls.map fun l => D.ref l.r).getD j .non]) h = .ok (if (w.ls.map (·.num)).getD j 0 = x then some (.int (j : Int)) else none) h := by
    intro j hj
    rw [List.mem_range, List.length_map] at hj
    have el : w.ls[j]? = some w.ls[j] := List.getElem?_eq_getElem hj
    have e3 := (o.b w.ls[j] (List.getElem_mem hj)).a
    have eg : (w.ls.map fun l => D.ref l.r).getD j .non = .ref w.ls[j].r := by rw [List.getD_eq_getElem?_getD, List.getElem?_map, el]; rfl
    have en : (w.ls.map (·.num)).getD j 0 = w.ls[j].num := by rw [List.getD_eq_getElem?_getD, List.getElem?_map, el]; rfl
    rw [eg, en, Nat.zero_add]
    have ix := fIx_zero e3
    have v7 : ∀ o1 o2, ((env.set 6 o1).set 7 o2)[7]? = some o2 := fun o1 o2 => List.getElem?_set_self (by rw [List.length_set]; omega)
    have v6 : ∀ o1 o2, ((env.set 6 o1).set 7 o2)[6]? = some o1 := fun o1 o2 => by rw [List.getElem?_set_ne (by decide)]; exact List.getElem?_set_self (by omega)
    have v2 : ∀ o1 o2, ((env.set 6 o1).set 7 o2)[2]? = some (some (.int x)) := fun o1 o2 => by rw [List.getElem?_set_ne (by decide), List.getElem?_set_ne (by decide)]; exact e2
    generalize w.ls[j].num = y at ix
    by_cases c : y = x
    · simp only [lcTurn, gU, gsCons, gsNil, List.length_cons, List.length_nil, if_true, run_gN, then_next, run_bool, run_m2, run_var, v7, v6, v2, bind_ok, run_C, ix, fEq_i, c, decide_true]
    · simp only [lcTurn, gU, gsCons, gsNil, List.length_cons, List.length_nil, if_true, run_gN, then_next, run_bool, run_m2, run_var, v7, v6, v2, bind_ok, run_C, ix, fEq_i, c, decide_false, if_false]
  rw [lcL_pure (gdOk_one o.a) _ _ _ T]
  congr 1
  unfold befP
  rw [List.length_map, List.length_map, List.map_filterMap]
  congr 1
  funext j
  split <;> rfl
def stepN (w : Int) (nums : List Int) (x : Int) : List Int := if x ∈ nums then nums.filter (fun y => !decide (y = x)) ++ [x] else (if (nums.length : Int) = w then nums.drop 1 else nums) ++ [x]
def numsOf (c : Ca) : List (List Int) := c.rows.map fun w => w.ls.map (·.num)
/-- what line_at leaves -/
structure LineAt (C W S : Nat) (mem : List Int) (c : Ca) (n : Int) (h h' : Hm) (c' : Ca) (A B : List Rw) (ρ : Nat) (ls : List Ln) (l : Ln) : Prop where
  ok : CaOk h' C W S mem c'
  rows : c'.rows = A ++ ⟨ρ, ls ++ [l]⟩ :: B
  num : l.num = n
  len : (A.length : Int) = n % (c.rows.length : Int)
  same : c'.ways = c.ways ∧ c'.long = c.long ∧ c'.thr = c.thr
  nums : ∀ w, c.rows[A.length]? = some w → (ls ++ [l]).map (·.num) = stepN c.ways (w.ls.map (·.num)) n ∧ c'.hits = c.hits + (if n ∈ w.ls.map (·.num) then 1 else 0) ∧ c'.misses = c.misses + (if n ∈ w.ls.map (·.num) then 0 else 1) ∧ c.rows = A ++ w :: B
  kl : KL (cref C W S c.rows) h h'
  grow : Grow h.length (cref C W S c.rows) (cref C W S c'.rows)
  hw : ∃ w, c.rows = A ++ w :: B
theorem filt_out {p : List Int} {x : Int} (h : x ∉ p) : p.filter (fun y => !decide (y = x)) = p := List.filter_eq_self.mpr fun y hy => by
  have : y ≠ x := fun z => h (z ▸ hy)
  simp [this]
theorem own_sub {C W S : Nat} {A B : List Rw} {w : Rw} {rows : List Rw} (e : rows = A ++ w :: B) : ∀ x ∈ C :: W :: own w, x ∈ cref C W S rows := fun x hx => by
  rw [e]
  refine cref_mid.mem_iff.mpr ?_
  simp only [List.mem_cons, List.mem_append] at hx ⊢
  rcases hx with rfl | rfl | hx
  · exact .inr (.inl rfl)
  · exact .inr (.inr (.inl rfl))
  · exact .inl hx
theorem line_ok {h : Hm} {C W S : Nat} {mem : List Int} {c : Ca} (o : CaOk h C W S mem c) {a : Int} (h0 : 0 ≤ a) (h32 : a < 32) :
    ∃ h' c' A B ρ ls l, f_Cache_line_at [.ref C, .int a] h = .ok (.ref l.r) h' ∧ LineAt C W S mem c (a / c.long) h h' c' A B ρ ls l := by
  obtain ⟨n0, n1, n2, n3, n4, n5, n6, n7⟩ := num_at o.P.l3 h0 h32
  have lb := l3b o.P.l3
  generalize hx : a / c.long = x at n0 n1 n2 n3 n4 ⊢
  obtain ⟨m, hm⟩ : ∃ m : Int, m = (c.rows.length : Int) := ⟨_, rfl⟩
  have mp : 0 < m := by have := o.P.sets; omega
  have k0 := Int.emod_nonneg x (show m ≠ 0 by omega)
  have k1 := Int.emod_lt_of_pos x mp
  obtain ⟨A, w, B, e, hA⟩ := row_split (rows := c.rows) (k := (x % m).toNat) (by omega)
  have hA' : (A.length : Int) = x % m := by omega
  obtain ⟨rwo, nd, d1, d2, d3, d4⟩ := o.H.mid e
  have rW := o.P.mid e
  have hC := o.H.hC
  have hW := o.H.hW
  have hS := o.H.hS
  have lW := fLen_lst hW
  rw [List.length_map, o.P.wl] at lW
  have lS := fLen_lst hS
  rw [List.length_map, ← hm] at lS
  have S0 : p_Cache_line_at_0 [some (.ref C), some (.int a), none, none, none, none, none, none] h = .next [some (.ref C), some (.int a), none, none, none, none, none, none] h := by
    unfold p_Cache_line_at_0
    refine if_no (not_run (k := true) (bool_run (chain_run c_run (var_run rfl) (fLe_k (decide_eq_true h0)) (call_run (cons_run (fld_run (var_run rfl) hC (by decide) lk_words) nil_run) lW) (fLt_k (decide_eq_true h32)))))
  have S1 : p_Cache_line_at_1 [some (.ref C), some (.int a), none, none, none, none, none, none] h = .next [some (.ref C), some (.int a), some (.int x), none, none, none, none, none] h := by
    unfold p_Cache_line_at_1
    rw [← hx]
    exact asg_run (m2_run (var_run rfl) (fld_run (var_run rfl) hC (by decide) lk_long) (fd lb.2.2 lb.2.1))
  have S2 : p_Cache_line_at_2 [some (.ref C), some (.int a), some (.int x), none, none, none, none, none] h = .next [some (.ref C), some (.int a), some (.int x), some (.ref w.r), none, none, none, none] h := by
    unfold p_Cache_line_at_2
    refine asg_run (m2_run (fld_run (var_run rfl) hC (by decide) lk_sets) (m2_run (var_run rfl) (call_run (cons_run (fld_run (var_run rfl) hC (by decide) lk_sets) nil_run) lS) (fm mp)) (fIx_int hS k0 ?_))
    rw [List.getElem?_map, e, ← hA, get_at]
    rfl
  obtain ⟨nums, hn⟩ : ∃ nums, nums = w.ls.map (·.num) := ⟨_, rfl⟩
  have T := there_run (env := [some (.ref C), some (.int a), some (.int x), some (.ref w.r), none, none, none, none]) rfl rfl rwo
  rw [← hn] at T
  have wl2 : w.ls.length ≤ 2 := by
    have := rW.ln
    have := o.P.wy
    omega
  obtain ⟨h1, hh1⟩ : ∃ h1 : Hm, h1 = h ++ [.lst ((befP x nums).map D.int)] := ⟨_, rfl⟩
  have S3 : p_Cache_line_at_3 [some (.ref C), some (.int a), some (.int x), some (.ref w.r), none, none, none, none] h = .next [some (.ref C), some (.int a), some (.int x), some (.ref w.r), some (.ref h.length), none, none, none] h1 := by
    rw [hh1]
    exact asg_run (lc_run (enum_run (var_run rfl) rwo.a) (by rw [enumD_len, List.length_map]; omega) T)
  have eB : h1[h.length]? = some (.lst ((befP x nums).map D.int)) := by rw [hh1]; exact get_new
  obtain ⟨h2, hh2⟩ : ∃ h2 : Hm, h2 = h1 ++ [.lst []] := ⟨_, rfl⟩
  have k12 : KL [] h h2 := by rw [hh2, hh1]; exact KL.app.trans KL.app
  have eN2 : h2[h1.length]? = some (.lst []) := by rw [hh2]; exact get_new
  have eB2 : h2[h.length]? = some (.lst ((befP x nums).map D.int)) := by rw [hh2]; exact keep_app eB
  have n1 : mLst mNil [some (.ref C), some (.int a), some (.int x), some (.ref w.r), some (.ref h.length), none, none, none] h1 = .ok (.ref h1.length) h2 := by rw [hh2]; rfl
  have eq := fNe_nil eB2 eN2
  have o2 : CaH h2 C W S mem c := o.H.kl k12 (by simp)
  have nC : C ≠ w.r := fun z => (d4 _ own_r).1 z.symm
  have nW : W ≠ w.r := fun z => (d4 _ own_r).2.1 z.symm
  have f1 : (cfl W S c).length < 1000 := by show 8 < 1000; decide
  by_cases mn : x ∈ nums
  · -- a hit
    have mn2 := mn
    rw [hn, List.mem_map] at mn2
    obtain ⟨l, ml, lx⟩ := mn2
    obtain ⟨p, q, sp⟩ := List.append_of_mem ml
    have nn := rW.nd
    rw [sp, List.map_append, List.map_cons, lx, List.nodup_append, List.nodup_cons] at nn
    have np : x ∉ p.map (·.num) := fun z => nn.2.2 x z x List.mem_cons_self rfl
    have nq : x ∉ q.map (·.num) := nn.2.1.1
    have hnums : nums = p.map (·.num) ++ x :: q.map (·.num) := by rw [hn, sp, List.map_append, List.map_cons, lx]
    have bf : befP x nums = [(p.length : Int)] := by rw [hnums, befP_one np nq, List.length_map]
    rw [bf] at eq eB2
    obtain ⟨c3, hc3⟩ : ∃ c3 : Ca, c3 = { c with hits := c.hits + 1 } := ⟨_, rfl⟩
    obtain ⟨h3, hh3⟩ : ∃ h3 : Hm, h3 = h2.set C (.ins "Cache" (cfl W S c3)) := ⟨_, rfl⟩
    have k3 : KL [C] h2 h3 := by rw [hh3]; exact KL.set (by simp)
    have C3 : h3[C]? = some (.ins "Cache" (cfl W S c3)) := by rw [hh3]; exact List.getElem?_set_self (get_lt o2.hC)
    have o3 : CaH h3 C W S mem c3 := o2.bump k3 C3 (by rw [hc3]) (by rw [hc3]) (by rw [hc3])
    have P3 : CaW mem c3 := o.P.bump (by rw [hc3]) (by rw [hc3]) (by rw [hc3]) (by rw [hc3]) (by rw [hc3]) (by rw [hc3])
    have e3 : c3.rows = A ++ w :: B := by rw [hc3]; exact e
    have rw3 := (o3.mid e3).1
    have eB3 : h3[h.length]? = some (.lst ([(p.length : Int)].map D.int)) := k3.get eB2 (by have := get_lt hC; simp only [List.mem_singleton]; omega)
    have r3 := rw3.a
    have wls : (w.ls.map fun l => D.ref l.r) = p.map (fun l => D.ref l.r) ++ D.ref l.r :: q.map (fun l => D.ref l.r) := by rw [sp, List.map_append, List.map_cons]
    have gat : (w.ls.map fun l => D.ref l.r)[p.length]? = some (D.ref l.r) := by
      rw [wls, List.getElem?_append_right (by rw [List.length_map]; exact Nat.le_refl _), List.length_map, Nat.sub_self]
      rfl
    have era : (w.ls.map fun l => D.ref l.r).eraseIdx p.length = (p ++ q).map fun l => D.ref l.r := by
      rw [wls, List.eraseIdx_append_of_length_le (by rw [List.length_map]; exact Nat.le_refl _), List.length_map, Nat.sub_self, List.map_append]
      rfl
    have pp := fPop_at r3 gat (by rw [List.length_map]; omega)
    rw [era] at pp
    have r3' : (h3.set w.r (.lst ((p ++ q).map fun l => D.ref l.r)))[w.r]? = some (.lst ((p ++ q).map fun l => D.ref l.r)) := List.getElem?_set_self (get_lt r3)
    have pql : p.length + q.length + 1 = w.ls.length := by rw [sp]; simp; omega
    have ap := fAppend_ok (y := .ref l.r) r3' (lim_lt (by rw [List.length_map, List.length_append]; omega))
    rw [List.set_set, show ((p ++ q).map (fun l => D.ref l.r) ++ [D.ref l.r]) = (p ++ q ++ [l]).map fun l => D.ref l.r by simp] at ap
    obtain ⟨h4, hh4⟩ : ∃ h4 : Hm, h4 = h3.set w.r (.lst ((p ++ q ++ [l]).map fun l => D.ref l.r)) := ⟨_, rfl⟩
    rw [← hh4] at ap
    have r4 : h4[w.r]? = some (.lst ((p ++ q ++ [l]).map fun l => D.ref l.r)) := by rw [hh4]; exact List.getElem?_set_self (get_lt r3)
    have la := fIx_last (x := .ref l.r) r4 (by simp)
    have k4 : KL [w.r] h3 h4 := by rw [hh4]; exact KL.set (by simp)
    have S4 : p_Cache_line_at_4 [some (.ref C), some (.int a), some (.int x), some (.ref w.r), some (.ref h.length), none, none, none] h1 = .ret (.ref l.r) h4 := by
      unfold p_Cache_line_at_4 t_Cache_line_at_0 t_Cache_line_at_1 t_Cache_line_at_2
      refine if_t (bool_run (m2_run (var_run rfl) n1 eq)) ?_
      refine seq_next (h1 := h3) (e1 := [some (.ref C), some (.int a), some (.int x), some (.ref w.r), some (.ref h.length), none, none, none]) ?_ ?_
      · rw [hh3, hc3, ← pt_hits]
        exact fldA_run (var_run rfl) o2.hC (by decide) lk_hits c_run (by rfl) o2.hC f1
      · refine seq_next (drop_run (methL_run (var_run rfl) (isL_ok r3) (cons_run (methL_run (var_run rfl) (isL_ok r3) (cons_run (m2_run (var_run rfl) c_run (fIx_zero eB3)) nil_run) pp) nil_run) ap)) ?_
        exact ret_run (m2_run (var_run rfl) (neg_run c_run) la)
    have BB : b_Cache_line_at [some (.ref C), some (.int a), none, none, none, none, none, none] h = .ret (.ref l.r) h4 := seq_next S0 (seq_next S1 (seq_next S2 (seq_next S3 (seq_ret S4))))
    obtain ⟨c4, hc4⟩ : ∃ c4 : Ca, c4 = { c3 with rows := A ++ ⟨w.r, p ++ q ++ [l]⟩ :: B } := ⟨_, rfl⟩
    have pm : (p ++ q ++ [l]).Perm w.ls := by
      rw [sp, List.append_assoc]
      exact List.Perm.append_left p (List.perm_append_comm (l₁ := q) (l₂ := [l]))
    have po : (own ⟨w.r, p ++ q ++ [l]⟩).Perm (own w) := by
      unfold own
      exact (List.Perm.flatMap_right _ pm).cons _
    have kk : KL (C :: W :: own w) h3 h4 := k4.sub fun y hy => by rw [List.mem_singleton] at hy; subst hy; exact List.mem_cons_of_mem _ (List.mem_cons_of_mem _ own_r)
    have H4 : CaH h4 C W S mem c4 := by
      refine o3.chg (mem' := mem) (w' := ⟨w.r, p ++ q ++ [l]⟩) e3 (by rw [hc4]) (by rw [hc4]) rfl kk ?_ ?_ ?_ (po.nodup_iff.mpr nd) (fun y hy => .inl (po.mem_iff.mp hy)) fun _ _ _ _ => rfl
      · rw [show cfl W S c4 = cfl W S c3 by rw [hc4]; rfl]
        exact k4.get C3 (by simpa using nC)
      · rw [show c4.ws = c3.ws by rw [hc4]]
        exact k4.get o3.hW (by simpa using nW)
      · refine ⟨r4, fun l2 hl2 => ?_⟩
        have m2 : l2 ∈ w.ls := pm.mem_iff.mp hl2
        have on := own_ne nd m2
        exact (rw3.b l2 m2).keep k4 (by simpa using on.1) (by simpa using on.2) rfl
    have rW3 := P3.mid e3
    have P4 : CaW mem c4 := by
      refine P3.chg (mem' := mem) (w' := ⟨w.r, p ++ q ++ [l]⟩) e3 (by rw [hc4]) (by rw [hc4]) (by rw [hc4]) (by rw [hc4]) (by rw [hc4]; exact P3.wl) P3.ml ⟨fun l2 hl2 => rW3.b l2 (pm.mem_iff.mp hl2), (pm.map _).nodup_iff.mpr rW3.nd, by rw [show (⟨w.r, p ++ q ++ [l]⟩ : Rw).ls.length = w.ls.length from pm.length_eq]; exact rW3.ln⟩ ?_ ?_
      · intro j hj z1 z2
        rw [hc4]
        exact P3.ag e3 j hj z1 fun l2 hl2 => z2 l2 (pm.mem_iff.mpr hl2)
      · intro t
        obtain ⟨t1, t2⟩ := P3.th e3 t
        exact ⟨by rw [hc4]; exact t1, fun l2 hl2 => t2 l2 (pm.mem_iff.mp hl2)⟩
    refine ⟨h4, c4, A, B, w.r, p ++ q, l, call_ret f_Cache_line_at_eq rfl BB, ⟨H4, P4⟩, by rw [hc4], lx, by rw [← hm]; exact hA', by rw [hc4, hc3]; exact ⟨rfl, rfl, rfl⟩, ?_, ?_, ?_, ⟨w, e⟩⟩
    · intro w2 hw2
      rw [e, get_at] at hw2
      cases hw2
      rw [← hn, if_pos mn, if_pos mn]
      refine ⟨?_, by rw [hc4, hc3], by rw [hc4, hc3]; simp, e⟩
      unfold stepN
      rw [if_pos mn, hnums, List.filter_append, List.filter_cons, filt_out np, filt_out nq]
      simp [lx]
    · refine ((k12.sub (by simp)).trans (k3.sub (by simp [cref]))).trans ?_
      exact kk.sub (own_sub e)
    · rw [hc4, e]
      exact grow_mid fun y hy => .inl (po.mem_iff.mp hy)
  · -- a miss
    rw [befP_nil mn] at eq
    obtain ⟨c3, hc3⟩ : ∃ c3 : Ca, c3 = { c with misses := c.misses + 1 } := ⟨_, rfl⟩
    obtain ⟨h3, hh3⟩ : ∃ h3 : Hm, h3 = h2.set C (.ins "Cache" (cfl W S c3)) := ⟨_, rfl⟩
    have k3 : KL [C] h2 h3 := by rw [hh3]; exact KL.set (by simp)
    have C3 : h3[C]? = some (.ins "Cache" (cfl W S c3)) := by rw [hh3]; exact List.getElem?_set_self (get_lt o2.hC)
    have o3 : CaH h3 C W S mem c3 := o2.bump k3 C3 (by rw [hc3]) (by rw [hc3]) (by rw [hc3])
    have P3 : CaW mem c3 := o.P.bump (by rw [hc3]) (by rw [hc3]) (by rw [hc3]) (by rw [hc3]) (by rw [hc3]) (by rw [hc3])
    have e3 : c3.rows = A ++ w :: B := by rw [hc3]; exact e
    have S4 : p_Cache_line_at_4 [some (.ref C), some (.int a), some (.int x), some (.ref w.r), some (.ref h.length), none, none, none] h1 = .next [some (.ref C), some (.int a), some (.int x), some (.ref w.r), some (.ref h.length), none, none, none] h2 := by
      unfold p_Cache_line_at_4
      exact if_no (bool_run (m2_run (var_run rfl) n1 eq))
    have S5 : p_Cache_line_at_5 [some (.ref C), some (.int a), some (.int x), some (.ref w.r), some (.ref h.length), none, none, none] h2 = .next [some (.ref C), some (.int a), some (.int x), some (.ref w.r), some (.ref h.length), none, none, none] h3 := by
      unfold p_Cache_line_at_5
      rw [hh3, hc3, ← pt_misses]
      exact fldA_run (var_run rfl) o2.hC (by decide) lk_misses c_run (by rfl) o2.hC f1
    obtain ⟨h4, c4, ls2, S6, o4, e4, els, ⟨q1, q2, q3, q4, q5⟩, k4, sub4, nd4⟩ := evict ⟨o3, P3⟩ e3 (env := [some (.ref C), some (.int a), some (.int x), some (.ref w.r), some (.ref h.length), none, none, none]) rfl rfl
    have y1 : c4.long = c.long := by rw [q2, hc3]
    have y2 : c4.ways = c.ways := by rw [q1, hc3]
    have y3 : c4.thr = c.thr := by rw [q3, hc3]
    obtain ⟨st, hst⟩ : ∃ st, st = x * c.long := ⟨_, rfl⟩
    have S7 : p_Cache_line_at_7 [some (.ref C), some (.int a), some (.int x), some (.ref w.r), some (.ref h.length), none, none, none] h4 = .next [some (.ref C), some (.int a), some (.int x), some (.ref w.r), some (.ref h.length), some (.int st), none, none] h4 := by
      unfold p_Cache_line_at_7
      rw [hst, ← y1]
      exact asg_run (m2_run (var_run rfl) (fld_run (var_run rfl) o4.H.hC (by decide) lk_long) (mu (by rw [y1]; exact ⟨lb.1, lb.2.1⟩)))
    obtain ⟨rw4, ndw4, _, _, _, d4'⟩ := o4.H.mid e4
    have rW4 := o4.P.mid e4
    have nx : x ∉ ls2.map (·.num) := fun z => mn (by
      rw [els] at z
      rw [hn]
      split at z
      · exact List.mem_of_mem_drop (by rw [← List.map_drop]; exact z)
      · exact z)
    have len4 : c4.rows.length = c.rows.length := by rw [e4, e]; simp
    -- the fresh line's words are the memory's
    have agx : slc c4.ws x c.long = slc mem x c.long := by
      refine slc_ws o.P.l3 o4.P.wl o4.P.ml n0 n3 fun j hj q => o4.P.ag e4 j hj ?_ ?_
      · intro u hu l2 h2' _
        rw [y1, ← q]
        intro z
        obtain ⟨k, hk⟩ : ∃ k : Nat, k ≠ A.length ∧ c4.rows[k]? = some u := by
          rw [e4]
          rcases hu with a | a
          · obtain ⟨k, hk, q⟩ := List.mem_iff_getElem.mp a
            refine ⟨k, by omega, ?_⟩
            rw [List.getElem?_append_left hk, List.getElem?_eq_getElem hk, q]
          · obtain ⟨k, hk, q⟩ := List.mem_iff_getElem.mp a
            refine ⟨A.length + (k + 1), by omega, ?_⟩
            rw [List.getElem?_append_right (by omega), show A.length + (k + 1) - A.length = k + 1 by omega, List.getElem?_cons_succ, List.getElem?_eq_getElem hk, q]
        have r2 := ((o4.P.row k u hk.2).b l2 h2').1
        rw [z, len4, ← hm, ← hA'] at r2
        exact hk.1 (by omega)
      · intro l2 h2' _
        rw [y1, ← q]
        intro z
        exact nx (List.mem_map.mpr ⟨l2, h2', z⟩)
    have st0 : 0 ≤ st := by rw [hst]; rcases o.P.l3 with e | e | e <;> rw [e] <;> omega
    have st1 : st + c.long ≤ 32 := by rw [hst]; exact n3
    have cut : cutD (c4.ws.map D.int) (some st) (some (st + c.long)) = (slc mem x c.long).map D.int := by
      rw [← agx]
      unfold slc
      rw [← hst]
      obtain ⟨sN, hsN⟩ : ∃ s : Nat, (s : Int) = st := ⟨st.toNat, Int.toNat_of_nonneg st0⟩
      obtain ⟨eN, heN⟩ : ∃ s : Nat, (s : Int) = st + c.long := ⟨(st + c.long).toNat, Int.toNat_of_nonneg (by omega)⟩
      rw [← hsN, show (↑sN + c.long : Int) = (eN : Int) by omega, cutD_nat (by rw [List.length_map, o4.P.wl]; omega) (by rw [List.length_map, o4.P.wl]; omega), List.map_take, List.map_drop, show eN - sN = c.long.toNat by omega, Int.toNat_natCast]
    obtain ⟨h5, hh5⟩ : ∃ h5 : Hm, h5 = h4 ++ [.lst ((slc mem x c.long).map D.int)] := ⟨_, rfl⟩
    obtain ⟨h6, hh6⟩ : ∃ h6 : Hm, h6 = h5 ++ [.lst [.int x, .ref h4.length, .bl false]] := ⟨_, rfl⟩
    obtain ⟨l9, r9, v9, x9, d9⟩ : ∃ l9 : Ln, l9.r = h5.length ∧ l9.v = h4.length ∧ l9.num = x ∧ l9.dirty = false := ⟨⟨h5.length, h4.length, x, false⟩, rfl, rfl, rfl, rfl⟩
    obtain ⟨h7, hh7⟩ : ∃ h7 : Hm, h7 = h6.set w.r (.lst ((ls2 ++ [l9]).map fun l : Ln => D.ref l.r)) := ⟨_, rfl⟩
    have l5 : h5.length = h4.length + 1 := by rw [hh5]; simp
    have r4 := rw4.a
    have r6 : h6[w.r]? = some (.lst (ls2.map fun l : Ln => D.ref l.r)) := by rw [hh6, hh5]; exact keep_app (keep_app r4)
    have r4l := get_lt r4
    have ls2l : ls2.length ≤ 2 := by
      have a1 := rW4.ln
      have a2 := o4.P.wy
      have a1 : (ls2.length : Int) ≤ c4.ways := a1
      omega
    have ap := fAppend_ok (y := .ref h5.length) r6 (lim_lt (by rw [List.length_map]; omega))
    rw [show (ls2.map (fun l : Ln => D.ref l.r) ++ [D.ref h5.length]) = (ls2 ++ [l9]).map fun l : Ln => D.ref l.r by simp [r9], ← hh7] at ap
    have S8 : p_Cache_line_at_8 [some (.ref C), some (.int a), some (.int x), some (.ref w.r), some (.ref h.length), some (.int st), none, none] h4 = .next [some (.ref C), some (.int a), some (.int x), some (.ref w.r), some (.ref h.length), some (.int st), none, none] h7 := by
      unfold p_Cache_line_at_8
      refine drop_run (methL_run (h2 := h6) (ds := [.ref h5.length]) (var_run rfl) (isL_ok r4) (cons_run ?_ nil_run) ap)
      rw [hh6]
      refine lst_run (h1 := h5) (cons_run (var_run rfl) (cons_run ?_ (cons_run c_run nil_run)))
      rw [hh5, ← cut]
      exact sl_run (fld_run (var_run rfl) o4.H.hC (by decide) lk_words) (some_run (var_run rfl)) (some_run (m2_run (var_run rfl) (fld_run (var_run rfl) o4.H.hC (by decide) lk_long) (by rw [y1]; rfl))) (fSl_lst o4.H.hW _ _)
    have r7 : h7[w.r]? = some (.lst ((ls2 ++ [l9]).map fun l : Ln => D.ref l.r)) := by rw [hh7]; exact List.getElem?_set_self (get_lt r6)
    have la := fIx_last (x := .ref h5.length) r7 (by simp [r9])
    have S9 : p_Cache_line_at_9 [some (.ref C), some (.int a), some (.int x), some (.ref w.r), some (.ref h.length), some (.int st), none, none] h7 = .ret (.ref h5.length) h7 := ret_run (m2_run (var_run rfl) (neg_run c_run) la)
    have BB : b_Cache_line_at [some (.ref C), some (.int a), none, none, none, none, none, none] h = .ret (.ref h5.length) h7 := seq_next S0 (seq_next S1 (seq_next S2 (seq_next S3 (seq_next S4 (seq_next S5 (seq_next S6 (seq_next S7 (seq_next S8 S9))))))))
    have k47 : KL [w.r] h4 h7 := by rw [hh7, hh6, hh5]; exact (KL.app.trans KL.app).trans (KL.set (by simp))
    obtain ⟨c7, hc7⟩ : ∃ c7 : Ca, c7 = { c4 with rows := A ++ ⟨w.r, ls2 ++ [l9]⟩ :: B } := ⟨_, rfl⟩
    have ow : own ⟨w.r, ls2 ++ [l9]⟩ = own ⟨w.r, ls2⟩ ++ [h5.length, h4.length] := by
      unfold own
      simp [r9, v9]
    have lt4 := (o4.H.mid e4).1.lt
    have kk : KL (C :: W :: own ⟨w.r, ls2⟩) h4 h7 := k47.sub fun y hy => by rw [List.mem_singleton] at hy; subst hy; exact List.mem_cons_of_mem _ (List.mem_cons_of_mem _ own_r)
    have H7 : CaH h7 C W S mem c7 := by
      refine o4.H.chg (mem' := mem) (w' := ⟨w.r, ls2 ++ [l9]⟩) e4 (by rw [hc7]) (by rw [hc7]) rfl kk ?_ ?_ ?_ ?_ ?_ fun _ _ _ _ => rfl
      · rw [show cfl W S c7 = cfl W S c4 by rw [hc7]; rfl]
        exact k47.get o4.H.hC (by simpa using nC)
      · rw [show c7.ws = c4.ws by rw [hc7]]
        exact k47.get o4.H.hW (by simpa using nW)
      · refine ⟨r7, fun l2 hl2 => ?_⟩
        rcases List.mem_append.mp hl2 with m2 | m2
        · have on := own_ne ndw4 (l := l2) m2
          exact (rw4.b l2 m2).keep k47 (by simpa using on.1) (by simpa using on.2) rfl
        · rw [List.mem_singleton] at m2
          subst m2
          refine ⟨?_, ?_⟩
          · rw [r9, v9, x9, d9, hh7, List.getElem?_set_ne (show w.r ≠ h5.length by rw [l5]; exact fun z => absurd r4l (by show ¬ w.r < h4.length; omega)), hh6]
            exact get_new
          · rw [v9, x9, y1, hh7, List.getElem?_set_ne (show w.r ≠ h4.length by exact fun z => absurd r4l (by show ¬ w.r < h4.length; omega)), hh6, hh5]
            exact keep_app get_new
      · rw [ow, List.nodup_append]
        refine ⟨ndw4, by simp; omega, fun y hy z hz => ?_⟩
        have := lt4 y hy
        simp only [List.mem_cons, List.not_mem_nil, or_false] at hz
        rcases hz with rfl | rfl <;> omega
      · intro y hy
        rw [ow] at hy
        rcases List.mem_append.mp hy with hy | hy
        · exact .inl hy
        · simp only [List.mem_cons, List.not_mem_nil, or_false] at hy
          rcases hy with rfl | rfl
          · exact .inr (by omega)
          · exact .inr (by omega)
    have P7 : CaW mem c7 := by
      refine o4.P.chg (mem' := mem) (w' := ⟨w.r, ls2 ++ [l9]⟩) e4 (by rw [hc7]) (by rw [hc7]) (by rw [hc7]) (by rw [hc7]) (by rw [hc7]; exact o4.P.wl) o4.P.ml ⟨?_, ?_, ?_⟩ ?_ ?_
      · intro l2 hl2
        rcases List.mem_append.mp hl2 with m2 | m2
        · exact rW4.b l2 m2
        · rw [List.mem_singleton] at m2
          subst m2
          rw [len4, ← hm, y1, x9]
          exact ⟨hA'.symm, n0, n3⟩
      · show ((ls2 ++ [l9]).map (·.num)).Nodup
        rw [List.map_append, List.nodup_append]
        refine ⟨rW4.nd, by simp, fun y hy z hz => ?_⟩
        simp only [List.map_cons, List.map_nil, List.mem_singleton] at hz
        rw [hz, x9]
        exact fun q => nx (q ▸ hy)
      · show ((ls2 ++ [l9]).length : Int) ≤ c4.ways
        have a1 := rW.ln
        have a2 := o.P.wy
        rw [y2, List.length_append, els]
        have ew : c3.ways = c.ways := by rw [hc3]
        rw [ew]
        split
        · rw [List.length_drop]; simp; omega
        · simp; omega
      · intro j hj z1 z2
        rw [hc7]
        exact o4.P.ag e4 j hj z1 fun l2 hl2 => z2 l2 (List.mem_append_left _ hl2)
      · intro t
        obtain ⟨t1, t2⟩ := o4.P.th e4 t
        refine ⟨by rw [hc7]; exact t1, fun l2 hl2 => ?_⟩
        rcases List.mem_append.mp hl2 with m2 | m2
        · exact t2 l2 m2
        · rw [List.mem_singleton] at m2
          subst m2
          exact d9
    refine ⟨h7, c7, A, B, w.r, ls2, l9, by rw [r9]; exact call_ret f_Cache_line_at_eq rfl BB, ⟨H7, P7⟩, by rw [hc7], x9, by rw [← hm]; exact hA', by rw [hc7]; exact ⟨y2, y1, y3⟩, ?_, ?_, ?_, ⟨w, e⟩⟩
    · intro w2 hw2
      rw [e, get_at] at hw2
      cases hw2
      rw [← hn, if_neg mn, if_neg mn]
      refine ⟨?_, by rw [hc7]; show c4.hits = _; rw [q4, hc3]; simp, by rw [hc7]; show c4.misses = _; rw [q5, hc3], e⟩
      unfold stepN
      rw [if_neg mn, List.map_append, els, hn, List.length_map]
      have ew : c3.ways = c.ways := by rw [hc3]
      rw [ew]
      split
      · rw [List.map_drop, List.map_cons, List.map_nil, x9]
      · rw [List.map_cons, List.map_nil, x9]
    · refine ((k12.sub (by simp)).trans (k3.sub (by simp [cref]))).trans ((k4.sub (own_sub e)).trans (kk.sub fun y hy => own_sub e y ?_))
      simp only [List.mem_cons] at hy ⊢
      rcases hy with rfl | rfl | hy
      · exact .inl rfl
      · exact .inr (.inl rfl)
      · exact .inr (.inr (sub4 y hy))
    · rw [hc7, e]
      refine grow_mid fun y hy => ?_
      have le4 : h.length ≤ h4.length := Nat.le_trans k12.1 (Nat.le_trans k3.1 k4.1)
      rw [ow] at hy
      rcases List.mem_append.mp hy with hy | hy
      · exact .inl (sub4 y hy)
      · simp only [List.mem_cons, List.not_mem_nil, or_false] at hy
        rcases hy with rfl | rfl
        · exact .inr (by omega)
        · exact .inr (by omega)
/-- what a load or a store leaves -/
structure After (C W S : Nat) (mem' : List Int) (c : Ca) (n : Int) (h h' : Hm) (c' : Ca) : Prop where
  ok : CaOk h' C W S mem' c'
  same : c'.ways = c.ways ∧ c'.long = c.long ∧ c'.thr = c.thr ∧ c'.rows.length = c.rows.length
  nums : numsOf c' = (numsOf c).set (n % (c.rows.length : Int)).toNat (stepN c.ways ((numsOf c).getD (n % (c.rows.length : Int)).toNat []) n)
  hits : c'.hits = c.hits + (if n ∈ (numsOf c).getD (n % (c.rows.length : Int)).toNat [] then 1 else 0)
  misses : c'.misses = c.misses + (if n ∈ (numsOf c).getD (n % (c.rows.length : Int)).toNat [] then 0 else 1)
  kl : KL (cref C W S c.rows) h h'
  grow : Grow h.length (cref C W S c.rows) (cref C W S c'.rows)
theorem kl_grow {L L1 : List Nat} {h h1 h2 : Hm} (a : KL L h h1) (b : KL L1 h1 h2) (g : Grow h.length L L1) : KL L h h2 := ⟨Nat.le_trans a.1 b.1, fun j x y => (b.2 j (Nat.lt_of_lt_of_le x a.1) fun z => (g j z).elim y fun q => absurd x (Nat.not_lt.mpr q)).trans (a.2 j x y)⟩
theorem set_mid {α : Type} {A B : List α} {x y : α} : (A ++ x :: B).set A.length y = A ++ y :: B := by simp
theorem after_of {C W S : Nat} {mem mem' : List Int} {c c1 c2 : Ca} {n : Int} {h h1 h2 : Hm} {A B : List Rw} {ρ : Nat} {ls : List Ln} {l l' : Ln} (L : LineAt C W S mem c n h h1 c1 A B ρ ls l) (ok : CaOk h2 C W S mem' c2) (er : c2.rows = A ++ ⟨ρ, ls ++ [l']⟩ :: B) (en : l'.num = l.num)
    (e1 : c2.ways = c1.ways ∧ c2.long = c1.long ∧ c2.thr = c1.thr ∧ c2.hits = c1.hits ∧ c2.misses = c1.misses) (k : KL (cref C W S c1.rows) h1 h2) (g : Grow h1.length (cref C W S c1.rows) (cref C W S c2.rows)) : After C W S mem' c n h h2 c2 := by
  have hA : (n % (c.rows.length : Int)).toNat = A.length := by rw [← L.len]; rfl
  obtain ⟨w, ew⟩ := L.hw
  have hw : c.rows[A.length]? = some w := by rw [ew]; exact get_at
  obtain ⟨q1, q2, q3, q4⟩ := L.nums w hw
  have gd : (numsOf c).getD A.length [] = w.ls.map (·.num) := by
    unfold numsOf
    rw [List.getD_eq_getElem?_getD, List.getElem?_map, hw]
    rfl
  refine ⟨ok, ⟨by rw [e1.1, L.same.1], by rw [e1.2.1, L.same.2.1], by rw [e1.2.2.1, L.same.2.2], by rw [er, q4]; simp⟩, ?_, ?_, ?_, ?_, ?_⟩
  · rw [hA, gd, ← q1]
    unfold numsOf
    rw [er, q4, List.map_append, List.map_append, List.map_cons, List.map_cons]
    have : A.length = (A.map fun w => w.ls.map (·.num)).length := by rw [List.length_map]
    rw [this, set_mid]
    simp [en]
  · rw [hA, gd, e1.2.2.2.1, q2]
  · rw [hA, gd, e1.2.2.2.2, q3]
  · exact kl_grow L.kl k L.grow
  · exact L.grow.trans g L.kl.1
theorem LineAt.ln {C W S : Nat} {mem : List Int} {c c1 : Ca} {n : Int} {h h1 : Hm} {A B : List Rw} {ρ : Nat} {ls : List Ln} {l : Ln} (L : LineAt C W S mem c n h h1 c1 A B ρ ls l) : LnOk h1 mem c1.long l := (L.ok.H.mid L.rows).1.b l (List.mem_append_right _ (List.mem_singleton.mpr rfl))
theorem load_ok {h : Hm} {C W S : Nat} {mem : List Int} {c : Ca} (o : CaOk h C W S mem c) {a : Int} (h0 : 0 ≤ a) (h32 : a < 32) :
    ∃ h' c', f_Cache_load [.ref C, .int a] h = .ok (.int (mem.getD a.toNat 0)) h' ∧ After C W S mem c (a / c.long) h h' c' := by
  obtain ⟨h1, c1, A, B, ρ, ls, l, run, L⟩ := line_ok o h0 h32
  have lb := l3b o.P.l3
  have ln := L.ln
  have e1 := L.same.2.1
  have at1 := slc_at o.P.l3 o.P.ml h0 h32
  rw [e1] at ln
  have b2 := ln.b
  rw [L.num] at b2
  have m0 := Int.emod_nonneg a (show c.long ≠ 0 by omega)
  refine ⟨h1, c1, ?_, after_of L L.ok L.rows rfl ⟨rfl, rfl, rfl, rfl, rfl⟩ KL.refl Grow.refl⟩
  refine call_ret f_Cache_load_eq rfl ?_
  refine ret_run (m2_run (m2_run ((meth_run (var_run rfl) o.H.hC rfl (cons_run (var_run rfl) nil_run) rfl).trans run) c_run (fIx_lst (j := 1) ln.a rfl)) (m2_run (var_run rfl) (fld_run (var_run rfl) L.ok.H.hC (by decide) lk_long) (by rw [e1]; exact fm lb.2.2)) (fIx_int b2 m0 ?_))
  rw [List.getElem?_map, at1]
  rfl
theorem getD_set {l : List Int} {i j : Nat} {x : Int} (hi : i < l.length) : (l.set i x).getD j 0 = if i = j then x else l.getD j 0 := by
  rw [List.getD_eq_getElem?_getD, List.getElem?_set, List.getD_eq_getElem?_getD]
  split
  · rfl
  · rfl
theorem store_ok {h : Hm} {C W S : Nat} {mem : List Int} {c : Ca} (o : CaOk h C W S mem c) {a x : Int} (h0 : 0 ≤ a) (h32 : a < 32) :
    ∃ h' c', f_Cache_store [.ref C, .int a, .int x] h = .ok .non h' ∧ After C W S (mem.set a.toNat x) c (a / c.long) h h' c' := by
  obtain ⟨h1, c1, A, B, ρ, ls, l, run, L⟩ := line_ok o h0 h32
  have lb := l3b o.P.l3
  have ln := L.ln
  have e1 := L.same.2.1
  obtain ⟨n0, n1, n2, n3, n4, n5, n6, n7⟩ := num_at o.P.l3 h0 h32
  obtain ⟨rwo, nd, d1, d2, d3, d4⟩ := L.ok.H.mid L.rows
  have rW := L.ok.P.mid L.rows
  have ml : l ∈ (⟨ρ, ls ++ [l]⟩ : Rw).ls := List.mem_append_right _ (List.mem_singleton.mpr rfl)
  have ol := own_l ml
  have on := own_ne nd ml
  have uq := L.ok.P.uniq L.rows ml
  have a2 := ln.a
  have b2 := ln.b
  rw [L.num, e1] at b2
  rw [L.num] at a2
  have hn1 : l.num = a / c.long := L.num
  have hmem : (mem.set a.toNat x).length = 32 := by rw [List.length_set]; exact o.P.ml
  have smem := fun n => slc_set (n := n) (w := x) o.P.l3 o.P.ml h0 h32
  have sl := slc_len o.P.l3 o.P.ml n0 n3
  have rv : l.r ≠ l.v := by
    intro z
    unfold own at nd
    rw [List.flatMap_append] at nd
    simp only [List.nodup_cons, List.nodup_append, List.flatMap_cons, List.flatMap_nil, List.append_nil, List.mem_singleton] at nd
    exact nd.2.2.1.1 z
  have lsn : ∀ l2 ∈ ls, l2.num ≠ a / c.long ∧ l2.r ≠ l.r ∧ l2.r ≠ l.v ∧ l2.v ≠ l.r ∧ l2.v ≠ l.v := by
    intro l2 h2
    have q := rW.nd
    rw [List.map_append, List.nodup_append] at q
    have q2 := nd
    unfold own at q2
    rw [List.flatMap_append, List.nodup_cons, List.nodup_append] at q2
    have q3 := q2.2.2.2
    have m1 : l2.r ∈ ls.flatMap fun l => [l.r, l.v] := List.mem_flatMap.mpr ⟨l2, h2, by simp⟩
    have m2 : l2.v ∈ ls.flatMap fun l => [l.r, l.v] := List.mem_flatMap.mpr ⟨l2, h2, by simp⟩
    refine ⟨?_, q3 _ m1 _ (by simp), q3 _ m1 _ (by simp), q3 _ m2 _ (by simp), q3 _ m2 _ (by simp)⟩
    rw [← hn1]
    exact q.2.2 _ (List.mem_map.mpr ⟨l2, h2, rfl⟩) _ (by simp)
  -- the word is laid into the line
  obtain ⟨v2, hv2⟩ : ∃ v2, v2 = (slc mem (a / c.long) c.long).set (a % c.long).toNat x := ⟨_, rfl⟩
  have v2s : slc (mem.set a.toNat x) (a / c.long) c.long = v2 := by rw [smem _ n0 n3, if_pos rfl, hv2]
  obtain ⟨h2, hh2⟩ : ∃ h2, h2 = h1.set l.v (.lst (v2.map D.int)) := ⟨_, rfl⟩
  have k2 : KL [l.v] h1 h2 := by rw [hh2]; exact KL.set (by simp)
  have C2 := k2.get L.ok.H.hC (by simpa using fun z => (d4 _ ol.2).1 z.symm)
  have W2 := k2.get L.ok.H.hW (by simpa using fun z => (d4 _ ol.2).2.1 z.symm)
  have r2 := k2.get a2 (by simpa using rv)
  have V2 : h2[l.v]? = some (.lst (v2.map D.int)) := by rw [hh2]; exact List.getElem?_set_self (get_lt b2)
  obtain ⟨l', r', v', x', d'⟩ : ∃ l' : Ln, l'.r = l.r ∧ l'.v = l.v ∧ l'.num = l.num ∧ l'.dirty = (!c.thr) := ⟨⟨l.r, l.v, l.num, !c.thr⟩, rfl, rfl, rfl, rfl⟩
  have ow : own ⟨ρ, ls ++ [l']⟩ = own ⟨ρ, ls ++ [l]⟩ := by
    unfold own
    simp [r', v']
  obtain ⟨ws', hws'⟩ : ∃ ws' : List Int, ws' = if c.thr = true then c1.ws.set a.toNat x else c1.ws := ⟨_, rfl⟩
  obtain ⟨c2, hc2⟩ : ∃ c2 : Ca, c2 = { c1 with ws := ws', rows := A ++ ⟨ρ, ls ++ [l']⟩ :: B } := ⟨_, rfl⟩
  have S0 : sAsg (gN 3) (mMethF "Cache" "line_at" 2 f_Cache_line_at (mVar 0) (mCons (mVar 1) mNil)) [some (.ref C), some (.int a), some (.int x), none] h = .next [some (.ref C), some (.int a), some (.int x), some (.ref l.r)] h1 := asg_run ((meth_run (var_run rfl) o.H.hC rfl (cons_run (var_run rfl) nil_run) rfl).trans run)
  have S1 : sAsg (gSubM (m2 fIx (mVar 3) (mC (.int 1))) (m2 fMod (mVar 1) (mFld cs_long "long" (mVar 0)))) (mVar 2) [some (.ref C), some (.int a), some (.int x), some (.ref l.r)] h1 = .next [some (.ref C), some (.int a), some (.int x), some (.ref l.r)] h2 := by
    rw [hh2, hv2, List.map_set]
    refine sub_run (var_run rfl) (m2_run (var_run rfl) c_run (fIx_lst (j := 1) a2 rfl)) (m2_run (var_run rfl) (fld_run (var_run rfl) L.ok.H.hC (by decide) lk_long) (by rw [e1]; exact fm n7)) (fSet_int b2 n5 ?_)
    rw [List.length_map, sl]
    omega
  -- the last statement
  obtain ⟨h3, S2, k3, W3, R3⟩ : ∃ h3, sIf (mTru (mFld cs_through "through" (mVar 0)))
      (sAsg (gSubM (mFld cs_words "words" (mVar 0)) (mVar 1)) (mVar 2))
      (sAsg (gSubM (mVar 3) (mC (.int 2))) (mC (.bl true))) [some (.ref C), some (.int a), some (.int x), some (.ref l.r)] h2 = .next [some (.ref C), some (.int a), some (.int x), some (.ref l.r)] h3 ∧ KL [W, l.r] h2 h3 ∧ h3[W]? = some (.lst (ws'.map D.int)) ∧ h3[l.r]? = some (.lst [.int (a / c.long), .ref l.v, .bl (!c.thr)]) := by
    by_cases t : c.thr = true
    · refine ⟨h2.set W (.lst (ws'.map D.int)), ?_, KL.set (by simp), List.getElem?_set_self (get_lt W2), ?_⟩
      · refine if_t (tru_run ((fld_run (var_run rfl) C2 (by decide) lk_thr).trans (by rw [L.same.2.2, t]))) ?_
        rw [hws', if_pos t, List.map_set]
        refine sub_run (var_run rfl) (fld_run (var_run rfl) C2 (by decide) lk_words) (var_run rfl) (fSet_int W2 h0 ?_)
        rw [List.length_map, L.ok.P.wl]
        omega
      · rw [List.getElem?_set_ne (fun z => (d4 _ ol.1).2.1 z.symm), r2]
        have := (L.ok.P.th L.rows (by rw [L.same.2.2]; exact t)).2 l ml
        rw [this, t]
        rfl
    · have t' : c.thr = false := by cases e : c.thr; rfl; exact absurd e t
      refine ⟨h2.set l.r (.lst [.int (a / c.long), .ref l.v, .bl true]), ?_, KL.set (by simp), ?_, ?_⟩
      · refine if_f (tru_run ((fld_run (var_run rfl) C2 (by decide) lk_thr).trans (by rw [L.same.2.2, t']))) ?_
        exact sub_run c_run (var_run rfl) c_run (fSet_lst (j := 2) r2 (by show 2 < 3; decide))
      · rw [List.getElem?_set_ne (fun z => (d4 _ ol.1).2.1 z), hws', if_neg t]
        exact W2
      · rw [t']
        exact List.getElem?_set_self (get_lt r2)
  have kk : KL [W, l.r, l.v] h1 h3 := (k2.sub (by simp)).trans (k3.sub (by simp))
  have kk2 : KL (C :: W :: own ⟨ρ, ls ++ [l]⟩) h1 h3 := kk.sub fun y hy => by
    simp only [List.mem_cons, List.not_mem_nil, or_false] at hy
    rcases hy with rfl | rfl | rfl
    · simp
    · exact List.mem_cons_of_mem _ (List.mem_cons_of_mem _ ol.1)
    · exact List.mem_cons_of_mem _ (List.mem_cons_of_mem _ ol.2)
  have H3 : CaH h3 C W S (mem.set a.toNat x) c2 := by
    refine L.ok.H.chg (w' := ⟨ρ, ls ++ [l']⟩) L.rows (by rw [hc2]) (by rw [hc2]) rfl kk2 ?_ ?_ ?_ (by rw [ow]; exact nd) (fun y hy => .inl (by rw [ow] at hy; exact hy)) ?_
    · rw [show cfl W S c2 = cfl W S c1 by rw [hc2]; rfl]
      exact kk.get L.ok.H.hC (by simp only [List.mem_cons, List.not_mem_nil, or_false, not_or]; exact ⟨d1, fun z => (d4 _ ol.1).1 z.symm, fun z => (d4 _ ol.2).1 z.symm⟩)
    · rw [show c2.ws = ws' by rw [hc2]]
      exact W3
    · refine ⟨?_, fun l2 hl2 => ?_⟩
      · show h3[ρ]? = _
        rw [show ((⟨ρ, ls ++ [l']⟩ : Rw).ls.map fun l => D.ref l.r) = (⟨ρ, ls ++ [l]⟩ : Rw).ls.map fun l => D.ref l.r by simp [r']]
        exact kk.get rwo.a (by simp only [List.mem_cons, List.not_mem_nil, or_false, not_or]; exact ⟨(d4 _ own_r).2.1, fun z => on.1 z.symm, fun z => on.2 z.symm⟩)
      · rw [e1]
        rcases List.mem_append.mp hl2 with m2 | m2
        · have q := lsn l2 m2
          have ml2 : l2 ∈ (⟨ρ, ls ++ [l]⟩ : Rw).ls := List.mem_append_left _ m2
          have o2 := own_l ml2
          have b3 := rW.b l2 ml2
          rw [e1] at b3
          have := rwo.b l2 ml2
          rw [e1] at this
          refine this.keep kk ?_ ?_ (by rw [smem _ b3.2.1 b3.2.2, if_neg q.1])
          · simp only [List.mem_cons, List.not_mem_nil, or_false, not_or]; exact ⟨(d4 _ o2.1).2.1, q.2.1, q.2.2.1⟩
          · simp only [List.mem_cons, List.not_mem_nil, or_false, not_or]; exact ⟨(d4 _ o2.2).2.1, q.2.2.2.1, q.2.2.2.2⟩
        · rw [List.mem_singleton] at m2
          subst m2
          refine ⟨by rw [r', v', x', d', hn1]; exact R3, ?_⟩
          rw [v', x', hn1, v2s]
          exact k3.get V2 (by simp only [List.mem_cons, List.not_mem_nil, or_false, not_or]; exact ⟨(d4 _ ol.2).2.1, fun z => rv z.symm⟩)
    · intro u hu l2 h2
      have ub : 0 ≤ l2.num ∧ l2.num * c1.long + c1.long ≤ 32 := by
        obtain ⟨k, hk⟩ : ∃ k : Nat, c1.rows[k]? = some u := by
          have : u ∈ c1.rows := by rw [L.rows]; rcases hu with a | a <;> simp [a]
          obtain ⟨k, hk, q⟩ := List.mem_iff_getElem.mp this
          exact ⟨k, by rw [List.getElem?_eq_getElem hk, q]⟩
        exact ((L.ok.P.row k u hk).b l2 h2).2
      rw [e1] at ub ⊢
      rw [smem _ ub.1 ub.2, if_neg (by rw [← hn1]; exact uq u hu l2 h2)]
  have P3 : CaW (mem.set a.toNat x) c2 := by
    have al : a.toNat < 32 := by omega
    refine L.ok.P.chg (w' := ⟨ρ, ls ++ [l']⟩) L.rows (by rw [hc2]) (by rw [hc2]) (by rw [hc2]) (by rw [hc2]) ?_ hmem ⟨?_, ?_, ?_⟩ ?_ ?_
    · rw [hc2]
      show ws'.length = 32
      rw [hws']
      split
      · rw [List.length_set]; exact L.ok.P.wl
      · exact L.ok.P.wl
    · intro l2 hl2
      rcases List.mem_append.mp hl2 with m2 | m2
      · exact rW.b l2 (List.mem_append_left _ m2)
      · rw [List.mem_singleton] at m2
        subst m2
        rw [x']
        exact rW.b l ml
    · have := rW.nd
      simp only [List.map_append, List.map_cons, List.map_nil] at this ⊢
      rw [x']
      exact this
    · have := rW.ln
      simp only [List.length_append, List.length_cons, List.length_nil] at this ⊢
      exact this
    · intro j hj z1 z2
      rw [hc2]
      show ws'.getD j 0 = _
      rw [hws', getD_set (by rw [o.P.ml]; exact al)]
      by_cases t : c.thr = true
      · rw [if_pos t, getD_set (by rw [L.ok.P.wl]; exact al)]
        have := L.ok.P.agree j hj fun w hw l2 hl2 q => by rw [(L.ok.P.through (by rw [L.same.2.2]; exact t)).2 w hw l2 hl2] at q; cases q
        rw [this]
      · have t' : c.thr = false := by cases e : c.thr; rfl; exact absurd e t
        have ne := z2 l' (List.mem_append_right _ (List.mem_singleton.mpr rfl)) (by rw [d', t']; rfl)
        rw [x', hn1, e1] at ne
        rw [if_neg t, if_neg (fun z => ne (by rw [← z, Int.toNat_of_nonneg h0]))]
        refine L.ok.P.ag L.rows j hj z1 fun l2 hl2 q => ?_
        rcases List.mem_append.mp hl2 with m2 | m2
        · exact z2 l2 (List.mem_append_left _ m2) q
        · rw [List.mem_singleton] at m2
          subst m2
          rw [hn1, e1]
          exact ne
    · intro t
      obtain ⟨t1, t2⟩ := L.ok.P.th L.rows t
      refine ⟨by rw [hc2]; exact t1, fun l2 hl2 => ?_⟩
      rcases List.mem_append.mp hl2 with m2 | m2
      · exact t2 l2 (List.mem_append_left _ m2)
      · rw [List.mem_singleton] at m2
        subst m2
        rw [d', ← L.same.2.2, t]
        rfl
  refine ⟨h3, c2, call_next f_Cache_store_eq rfl (seq_next S0 (seq_next S1 S2)), after_of L ⟨H3, P3⟩ (by rw [hc2]) x' (by rw [hc2]; exact ⟨rfl, rfl, rfl, rfl, rfl⟩) (kk2.sub (own_sub L.rows)) ?_⟩
  rw [hc2, L.rows]
  exact grow_mid fun y hy => .inl (by rw [ow] at hy; exact hy)
theorem set_new {h : Hm} {o p : O} : (h ++ [o]).set h.length p = h ++ [p] := by simp
theorem lcP_nums {h : Hm} {ρ : Nat} {all : List D} (eρ : h[ρ]? = some (.lst all)) {x0 x1 : Option D} : ∀ (ls : List Ln) (acc : List Int) (x2 : Option D), (∀ l ∈ ls, ∃ v b, h[l.r]? = some (.lst [.int l.num, v, b])) → acc.length + ls.length ≤ 1000 →
    lcP h.length [(ρ, .lst all)] (gN 2) tYesM (m2 fIx (mVar 2) (mC (.int 0))) [x0, x1, x2] (ls.map fun l => D.ref l.r) (h ++ [O.lst (acc.map D.int)]) = .ok () (h ++ [O.lst ((acc ++ ls.map (·.num)).map D.int)])
  | [], acc, x2, _, _ => by
    rw [List.map_nil, List.map_nil, List.append_nil, lcP, if_pos (gdOk_one (keep_app eρ))]
  | l :: ls, acc, x2, hl, hn => by
    obtain ⟨v, b, el⟩ := hl l List.mem_cons_self
    have ih := lcP_nums (x0 := x0) (x1 := x1) eρ ls (acc ++ [l.num]) x2 (fun l h => hl l (List.mem_cons_of_mem _ h)) (by simp at hn ⊢; omega)
    rw [List.map_cons, lcP, if_pos (gdOk_one (keep_app eρ))]
    have ix : m2 fIx (mVar 2) (mC (.int 0)) [x0, x1, some (.ref l.r)] (h ++ [O.lst (acc.map D.int)]) = .ok (.int l.num) (h ++ [O.lst (acc.map D.int)]) := m2_run (var_run rfl) c_run (fIx_zero (keep_app el))
    have gN' : gN 2 (.ref l.r) [x0, x1, x2] (h ++ [O.lst (acc.map D.int)]) = .next [x0, x1, some (.ref l.r)] (h ++ [O.lst (acc.map D.int)]) := rfl
    simp only [gN', tYesM, ix, get_new]
    rw [if_pos (lim_lt (by rw [List.length_map]; simp at hn; omega)), set_new]
    rw [show acc.map D.int ++ [D.int l.num] = (acc ++ [l.num]).map D.int by simp, show acc ++ (l :: ls).map (·.num) = acc ++ [l.num] ++ ls.map (·.num) by simp]
    exact ih
theorem lcO_nums {h : Hm} {mem : List Int} {long : Int} {S : Nat} {all : List D} (eS : h[S]? = some (.lst all)) {x0 : Option D} : ∀ (rows : List Rw) (acc : List Int) (x1 x2 : Option D), (∀ w ∈ rows, RwOk h mem long w ∧ w.ls.length ≤ 2) → acc.length + 2 * rows.length ≤ 1000 →
    lcO h.length [2] [(S, .lst all)] (gN 1) tYesM (mItA (mVar 1)) (gN 2) tYesM (m2 fIx (mVar 2) (mC (.int 0))) [x0, x1, x2] (rows.map fun w => D.ref w.r) (h ++ [O.lst (acc.map D.int)]) = .ok () (h ++ [O.lst ((acc ++ rows.flatMap fun w => w.ls.map (·.num)).map D.int)])
  | [], acc, x1, x2, _, _ => by
    rw [List.map_nil, List.flatMap_nil, List.append_nil, lcO, if_pos (gdOk_one (keep_app eS))]
  | w :: rows, acc, x1, x2, hl, hn => by
    obtain ⟨rw', l2⟩ := hl w List.mem_cons_self
    have ih := lcO_nums (x0 := x0) eS rows (acc ++ w.ls.map (·.num)) x1 x2 (fun l h => hl l (List.mem_cons_of_mem _ h)) (by simp at hn ⊢; omega)
    rw [List.map_cons, lcO, if_pos (gdOk_one (keep_app eS))]
    have it : mItA (mVar 1) [x0, some (.ref w.r), x2] (h ++ [O.lst (acc.map D.int)]) = .ok (w.ls.map (fun l => D.ref l.r), [(w.r, .lst (w.ls.map fun l => D.ref l.r))]) (h ++ [O.lst (acc.map D.int)]) := itA_run (var_run rfl) (keep_app rw'.a)
    have gN' : gN 1 (.ref w.r) [x0, x1, x2] (h ++ [O.lst (acc.map D.int)]) = .next [x0, some (.ref w.r), x2] (h ++ [O.lst (acc.map D.int)]) := rfl
    have P := lcP_nums (x0 := x0) (x1 := some (.ref w.r)) rw'.a w.ls acc none (fun l hl => ⟨_, _, (rw'.b l hl).a⟩) (by simp at hn; omega)
    simp only [gN', tYesM, it, show wipeE [x0, some (.ref w.r), x2] [2] = [x0, some (.ref w.r), none] from rfl, P]
    rw [List.flatMap_cons, ← List.append_assoc]
    exact ih
theorem flat_nums (c : Ca) : (c.rows.flatMap fun w => w.ls.map (·.num)) = (numsOf c).flatten := by
  unfold numsOf
  rw [List.flatMap_def]
theorem intsD_map : ∀ l : List Int, intsD (l.map D.int) = some l
  | [] => rfl
  | y :: l => by
    rw [List.map_cons]
    show (intsD (l.map D.int)).map (y :: ·) = _
    rw [intsD_map l]
    rfl
theorem held_ok {h : Hm} {C W S : Nat} {mem : List Int} {c : Ca} (o : CaOk h C W S mem c) : ∃ g : Hm, f_Cache_lines_held [.ref C] h = .ok (.tup ((sortI (numsOf c).flatten).map D.int)) (h ++ g) := by
  have hS := o.H.hS
  have L := lcO_nums (x0 := some (.ref C)) hS c.rows [] none none (fun w hw => ⟨o.H.rw w hw, by
    obtain ⟨k, hk, q⟩ := List.mem_iff_getElem.mp hw
    have := (o.P.row k w (by rw [List.getElem?_eq_getElem hk, q])).ln
    have := o.P.wy
    omega⟩) (by have := o.P.sets; simp; omega)
  rw [List.nil_append, flat_nums] at L
  have M : mLc2 [1, 2] [2] (mItA (mFld cs_sets "sets" (mVar 0))) (gN 1) tYesM (mItA (mVar 1)) (gN 2) tYesM (m2 fIx (mVar 2) (mC (.int 0))) [some (.ref C), none, none] h = .ok (.ref h.length) (h ++ [O.lst ((numsOf c).flatten.map D.int)]) := by
    unfold mLc2
    rw [itA_run (fld_run (var_run rfl) o.H.hC (by decide) lk_sets) hS, bind_ok]
    simp only [show wipeE [some (.ref C), none, none] [1, 2] = [some (.ref C), none, none] from rfl]
    rw [show h ++ [O.lst []] = h ++ [O.lst (([] : List Int).map D.int)] from rfl, L]
  have e1 : (h ++ [O.lst ((numsOf c).flatten.map D.int)])[h.length]? = some (.lst ((numsOf c).flatten.map D.int)) := get_new
  have s1 : fSortedI [.ref h.length] (h ++ [O.lst ((numsOf c).flatten.map D.int)]) = .ok (.ref (h ++ [O.lst ((numsOf c).flatten.map D.int)]).length) (h ++ [O.lst ((numsOf c).flatten.map D.int)] ++ [O.lst ((sortI (numsOf c).flatten).map D.int)]) := by
    unfold fSortedI
    simp only [e1, intsD_map]
  refine ⟨[O.lst ((numsOf c).flatten.map D.int)] ++ [O.lst ((sortI (numsOf c).flatten).map D.int)], call_ret f_Cache_lines_held_eq rfl ?_⟩
  rw [← List.append_assoc]
  exact ret_run (call_run (cons_run (call_run (cons_run M nil_run) s1) nil_run) (fTuple_lst get_new))
theorem wb_step {h : Hm} {C W S : Nat} {mem : List Int} {c : Ca} {A B : List Rw} {ρ : Nat} {p q : List Ln} {l : Ln} (o : CaOk h C W S mem c) (e : c.rows = A ++ ⟨ρ, p ++ l :: q⟩ :: B) :
    ∃ h' c' l', f_Cache_write_back [.ref C, .ref l.r] h = .ok .non h' ∧ CaOk h' C W S mem c' ∧ c'.rows = A ++ ⟨ρ, p ++ l' :: q⟩ :: B ∧ l'.r = l.r ∧ l'.dirty = false ∧ cref C W S c'.rows = cref C W S c.rows ∧ KL (cref C W S c.rows) h h' := by
  obtain ⟨rw', nd, d1, d2, d3, d4⟩ := o.H.mid e
  have rW := o.P.mid e
  have ml : l ∈ (⟨ρ, p ++ l :: q⟩ : Rw).ls := List.mem_append_right _ List.mem_cons_self
  have bl := rW.b l ml
  have ol := own_l ml
  have on := own_ne nd ml
  obtain ⟨h2, run, k2, eC2, eW2, eR2⟩ := wb_run o.H.hC o.H.hW (rw'.b l ml) o.P.l3 o.P.ml o.P.wl bl.2.1 bl.2.2 d1 (fun z => (d4 _ ol.1).1 z.symm) (fun z => (d4 _ ol.2).1 z.symm) (fun z => (d4 _ ol.1).2.1 z.symm) (fun z => (d4 _ ol.2).2.1 z.symm)
  obtain ⟨f1, f2, f3, f4, f5, f6⟩ := cwb_eq (mem := mem) (c := c) (l := l)
  obtain ⟨l', r', v', x', d'⟩ : ∃ l' : Ln, l'.r = l.r ∧ l'.v = l.v ∧ l'.num = l.num ∧ l'.dirty = false := ⟨⟨l.r, l.v, l.num, false⟩, rfl, rfl, rfl, rfl⟩
  have ow : own ⟨ρ, p ++ l' :: q⟩ = own ⟨ρ, p ++ l :: q⟩ := by
    unfold own
    simp [r', v']
  have kk : KL (C :: W :: own ⟨ρ, p ++ l :: q⟩) h h2 := k2.sub fun x hx => by
    simp only [List.mem_cons, List.not_mem_nil, or_false] at hx
    rcases hx with rfl | rfl | rfl
    · simp
    · simp
    · exact List.mem_cons_of_mem _ (List.mem_cons_of_mem _ ol.1)
  obtain ⟨c', hc'⟩ : ∃ c' : Ca, c' = { cwb mem c l with rows := A ++ ⟨ρ, p ++ l' :: q⟩ :: B } := ⟨_, rfl⟩
  have wsq := cwb_ws (l := l) o.P bl.2.1 bl.2.2
  have ne1 : ∀ l2, l2 ∈ p ∨ l2 ∈ q → l2.r ≠ l.r ∧ l2.v ≠ l.r := by
    intro l2 h2
    have q2 := nd
    unfold own at q2
    rw [List.flatMap_append, List.flatMap_cons, List.nodup_cons, List.nodup_append, List.nodup_append] at q2
    rcases h2 with h2 | h2
    · have m1 : l2.r ∈ p.flatMap fun l => [l.r, l.v] := List.mem_flatMap.mpr ⟨l2, h2, by simp⟩
      have m2 : l2.v ∈ p.flatMap fun l => [l.r, l.v] := List.mem_flatMap.mpr ⟨l2, h2, by simp⟩
      exact ⟨q2.2.2.2 _ m1 _ (by simp), q2.2.2.2 _ m2 _ (by simp)⟩
    · have m1 : l2.r ∈ q.flatMap fun l => [l.r, l.v] := List.mem_flatMap.mpr ⟨l2, h2, by simp⟩
      have m2 : l2.v ∈ q.flatMap fun l => [l.r, l.v] := List.mem_flatMap.mpr ⟨l2, h2, by simp⟩
      have z := q2.2.2.1.2.2
      exact ⟨fun y => z l.r (by simp) _ m1 y.symm, fun y => z l.r (by simp) _ m2 y.symm⟩
  have H2 : CaH h2 C W S mem c' := by
    refine o.H.chg (mem' := mem) (w' := ⟨ρ, p ++ l' :: q⟩) e (by rw [hc']) (by rw [hc']; exact f2) rfl kk ?_ ?_ ?_ (by rw [ow]; exact nd) (fun x hx => .inl (by rw [ow] at hx; exact hx)) fun _ _ _ _ => rfl
    · rw [eC2, hc']; rfl
    · rw [eW2, hc']
    · refine ⟨?_, fun l2 hl2 => ?_⟩
      · rw [show ((⟨ρ, p ++ l' :: q⟩ : Rw).ls.map fun l => D.ref l.r) = (⟨ρ, p ++ l :: q⟩ : Rw).ls.map fun l => D.ref l.r by simp [r']]
        exact k2.get rw'.a (by simp only [List.mem_cons, List.not_mem_nil, or_false, not_or]; exact ⟨(d4 _ own_r).1, (d4 _ own_r).2.1, fun z => on.1 z.symm⟩)
      · have far : l2 ∈ p ∨ l2 ∈ q → LnOk h2 mem c.long l2 := fun m2 => by
          have ml2 : l2 ∈ (⟨ρ, p ++ l :: q⟩ : Rw).ls := by rcases m2 with m | m <;> simp [m]
          have o2 := own_l ml2
          have q := ne1 l2 m2
          refine (rw'.b l2 ml2).keep k2 ?_ ?_ rfl
          · simp only [List.mem_cons, List.not_mem_nil, or_false, not_or]; exact ⟨(d4 _ o2.1).1, (d4 _ o2.1).2.1, q.1⟩
          · simp only [List.mem_cons, List.not_mem_nil, or_false, not_or]; exact ⟨(d4 _ o2.2).1, (d4 _ o2.2).2.1, q.2⟩
        rcases List.mem_append.mp hl2 with m2 | m2
        · exact far (.inl m2)
        · rcases List.mem_cons.mp m2 with rfl | m2
          · refine ⟨by rw [r', v', x', d']; exact eR2, ?_⟩
            rw [v', x']
            refine k2.get (rw'.b l ml).b ?_
            simp only [List.mem_cons, List.not_mem_nil, or_false, not_or]
            refine ⟨(d4 _ ol.2).1, (d4 _ ol.2).2.1, fun z => ?_⟩
            have q2 := nd
            unfold own at q2
            rw [List.flatMap_append, List.flatMap_cons, List.nodup_cons, List.nodup_append, List.nodup_append] at q2
            have := q2.2.2.1.1
            rw [z] at this
            simp at this
          · exact far (.inr m2)
  have P2 : CaW mem c' := by
    refine o.P.chg (mem' := mem) (w' := ⟨ρ, p ++ l' :: q⟩) e (by rw [hc']) (by rw [hc']; exact f2) (by rw [hc']; exact f1) (by rw [hc']; exact f3) (by rw [hc']; exact wsq.1) o.P.ml ⟨?_, ?_, ?_⟩ ?_ ?_
    · intro l2 hl2
      rcases List.mem_append.mp hl2 with m2 | m2
      · exact rW.b l2 (List.mem_append_left _ m2)
      · rcases List.mem_cons.mp m2 with rfl | m2
        · rw [x']; exact bl
        · exact rW.b l2 (List.mem_append_right _ (List.mem_cons_of_mem _ m2))
    · have := rW.nd
      simp only [List.map_append, List.map_cons] at this ⊢
      rw [x']
      exact this
    · have := rW.ln
      simp only [List.length_append, List.length_cons] at this ⊢
      exact this
    · intro j hj z1 z2
      rw [hc']
      refine wsq.2 j hj fun z => o.P.ag e j hj z1 fun l2 hl2 => ?_
      rcases List.mem_append.mp hl2 with m2 | m2
      · exact z2 l2 (List.mem_append_left _ m2)
      · rcases List.mem_cons.mp m2 with rfl | m2
        · exact z
        · exact z2 l2 (List.mem_append_right _ (List.mem_cons_of_mem _ m2))
    · intro t
      obtain ⟨t1, t2⟩ := o.P.th e t
      refine ⟨?_, fun l2 hl2 => ?_⟩
      · rw [hc']
        show (cwb mem c l).put = 0
        rw [cwb_put (t2 l ml), t1]
      · rcases List.mem_append.mp hl2 with m2 | m2
        · exact t2 l2 (List.mem_append_left _ m2)
        · rcases List.mem_cons.mp m2 with rfl | m2
          · exact d'
          · exact t2 l2 (List.mem_append_right _ (List.mem_cons_of_mem _ m2))
  refine ⟨h2, c', l', run, ⟨H2, P2⟩, by rw [hc'], r', d', ?_, kk.sub (own_sub e)⟩
  rw [hc', e]
  unfold cref
  rw [List.flatMap_append, List.flatMap_append, List.flatMap_cons, List.flatMap_cons, ow]
theorem inner {C W S : Nat} {mem : List Int} {A B : List Rw} {ρ : Nat} {x1 : Option D} : ∀ (q p : List Ln) (x2 : Option D) (h : Hm) (c : Ca), CaOk h C W S mem c → c.rows = A ++ ⟨ρ, p ++ q⟩ :: B → (∀ l ∈ p, l.dirty = false) →
    ∃ y2 h' c' ls', forL [(ρ, .lst ((p ++ q).map fun l => D.ref l.r))] (gN 2) l_Cache_flush_0 (q.map fun l => D.ref l.r) [some (.ref C), x1, x2] h = .next [some (.ref C), x1, y2] h' ∧ CaOk h' C W S mem c' ∧ c'.rows = A ++ ⟨ρ, ls'⟩ :: B ∧ (∀ l ∈ ls', l.dirty = false) ∧ cref C W S c'.rows = cref C W S c.rows ∧ KL (cref C W S c.rows) h h'
  | [], p, x2, h, c, o, e, cl => ⟨x2, h, c, p ++ [], forL_nil (gdOk_one (o.H.mid e).1.a), o, e, by rw [List.append_nil]; exact cl, rfl, KL.refl⟩
  | l :: q, p, x2, h, c, o, e, cl => by
    obtain ⟨h1, c1, l', run, o1, e1, r', d', cr, k1⟩ := wb_step o e
    have eq : ((p ++ l :: q).map fun l => D.ref l.r) = (p ++ [l'] ++ q).map fun l => D.ref l.r := by simp [r']
    obtain ⟨y2, h2, c2, ls', run2, o2, e2, cl2, cr2, k2⟩ := inner (A := A) (B := B) (ρ := ρ) (x1 := x1) q (p ++ [l']) (some (.ref l.r)) h1 c1 o1 (by rw [e1]; simp) (fun l2 h2 => by
      rcases List.mem_append.mp h2 with m | m
      · exact cl l2 m
      · rw [List.mem_singleton] at m
        rw [m]
        exact d')
    refine ⟨y2, h2, c2, ls', ?_, o2, e2, cl2, by rw [cr2, cr], k1.trans (by rw [← cr]; exact k2)⟩
    rw [List.map_cons]
    refine forL_next (e1 := [some (.ref C), x1, some (.ref l.r)]) (e2 := [some (.ref C), x1, some (.ref l.r)]) (gdOk_one (o.H.mid e).1.a) rfl ?_ (by rw [eq]; exact run2)
    unfold l_Cache_flush_0
    exact drop_run ((meth_run (var_run rfl) o.H.hC rfl (cons_run (var_run rfl) nil_run) rfl).trans run)
theorem fClear_run {h : Hm} {r : Nat} {ds : List D} (e : h[r]? = some (.lst ds)) : fClear (.ref r) [] h = .ok .non (h.set r (.lst [])) := by
  unfold fClear
  simp only [e]
theorem outer {C W S : Nat} {mem : List Int} {all : List D} : ∀ (B A : List Rw) (x1 x2 : Option D) (h : Hm) (c : Ca), CaOk h C W S mem c → c.rows = A ++ B → all = c.rows.map (fun w => D.ref w.r) → (∀ w ∈ A, w.ls = []) →
    ∃ y1 y2 h' c', forL [(S, .lst all)] (gN 1) l_Cache_flush_1 (B.map fun w => D.ref w.r) [some (.ref C), x1, x2] h = .next [some (.ref C), y1, y2] h' ∧ CaOk h' C W S mem c' ∧ (∀ w ∈ c'.rows, w.ls = []) ∧ (∀ x ∈ cref C W S c'.rows, x ∈ cref C W S c.rows) ∧ KL (cref C W S c.rows) h h'
  | [], A, x1, x2, h, c, o, e, ea, cl => ⟨x1, x2, h, c, forL_nil (gdOk_one (by rw [ea]; exact o.H.hS)), o, by rw [e, List.append_nil]; exact cl, fun _ h => h, KL.refl⟩
  | w :: B, A, x1, x2, h, c, o, e, ea, cl => by
    obtain ⟨ρ, ls⟩ := w
    have r0 := (o.H.mid e).1
    obtain ⟨y2, h1, c1, ls', run1, o1, e1, cl1, cr1, k1⟩ := inner (x1 := some (.ref ρ)) ls [] x2 h c o (by rw [e]; rfl) (fun _ h => absurd h List.not_mem_nil)
    obtain ⟨rw1, nd, d1, d2, d3, d4⟩ := o1.H.mid e1
    have rW := o1.P.mid e1
    obtain ⟨h2, hh2⟩ : ∃ h2, h2 = h1.set ρ (.lst []) := ⟨_, rfl⟩
    have k2 : KL [ρ] h1 h2 := by rw [hh2]; exact KL.set (by simp)
    have r1 : h1[ρ]? = _ := rw1.a
    obtain ⟨c2, hc2⟩ : ∃ c2 : Ca, c2 = { c1 with rows := A ++ ⟨ρ, []⟩ :: B } := ⟨_, rfl⟩
    have kk : KL (C :: W :: own ⟨ρ, ls'⟩) h1 h2 := k2.sub fun y hy => by rw [List.mem_singleton] at hy; subst hy; exact List.mem_cons_of_mem _ (List.mem_cons_of_mem _ own_r)
    have sub : ∀ x ∈ own ⟨ρ, []⟩, x ∈ own ⟨ρ, ls'⟩ := fun x hx => by
      unfold own at hx ⊢
      simp only [List.flatMap_nil, List.mem_singleton] at hx
      subst hx
      exact List.mem_cons_self
    have H2 : CaH h2 C W S mem c2 := by
      refine o1.H.chg (mem' := mem) (w' := ⟨ρ, []⟩) e1 (by rw [hc2]) (by rw [hc2]) rfl kk ?_ ?_ ⟨?_, fun l hl => absurd hl List.not_mem_nil⟩ (by simp [own]) (fun x hx => .inl (sub x hx)) fun _ _ _ _ => rfl
      · rw [show cfl W S c2 = cfl W S c1 by rw [hc2]; rfl]
        exact k2.get o1.H.hC (by simpa using fun z => (d4 _ own_r).1 z.symm)
      · rw [show c2.ws = c1.ws by rw [hc2]]
        exact k2.get o1.H.hW (by simpa using fun z => (d4 _ own_r).2.1 z.symm)
      · show h2[ρ]? = some (.lst [])
        rw [hh2]
        exact List.getElem?_set_self (get_lt r1)
    have P2 : CaW mem c2 := by
      refine o1.P.chg (mem' := mem) (w' := ⟨ρ, []⟩) e1 (by rw [hc2]) (by rw [hc2]) (by rw [hc2]) (by rw [hc2]) (by rw [hc2]; exact o1.P.wl) o1.P.ml ⟨fun l hl => absurd hl List.not_mem_nil, by simp, by have := o1.P.wy; simp; omega⟩ ?_ ?_
      · intro j hj z1 _
        rw [hc2]
        exact o1.P.ag e1 j hj z1 fun l hl q => by rw [cl1 l hl] at q; cases q
      · intro t
        exact ⟨by rw [hc2]; exact (o1.P.th e1 t).1, fun l hl => absurd hl List.not_mem_nil⟩
    have er : c1.rows.map (fun w => D.ref w.r) = c.rows.map fun w => D.ref w.r := by rw [e1, e]; simp
    have er2 : c2.rows.map (fun w => D.ref w.r) = c.rows.map fun w => D.ref w.r := by rw [hc2, e]; simp
    obtain ⟨z1, z2, h3, c3, run3, o3, cl3, cr3, k3⟩ := outer (all := all) B (A ++ [⟨ρ, []⟩]) (some (.ref ρ)) y2 h2 c2 ⟨H2, P2⟩ (by rw [hc2]; simp) (by rw [er2, ea]) (fun w hw => by
      rcases List.mem_append.mp hw with m | m
      · exact cl w m
      · rw [List.mem_singleton] at m
        rw [m])
    have crs : ∀ x ∈ cref C W S c2.rows, x ∈ cref C W S c.rows := fun x hx => by
      rw [← cr1, e1]
      rw [hc2] at hx
      rcases List.mem_append.mp (cref_mid.mem_iff.mp hx) with m | m
      · exact cref_mid.mem_iff.mpr (List.mem_append_left _ (sub x m))
      · exact cref_mid.mem_iff.mpr (List.mem_append_right _ m)
    refine ⟨z1, z2, h3, c3, ?_, o3, cl3, fun x hx => crs x (cr3 x hx), ((k1.trans (kk.sub (by rw [← cr1]; exact own_sub e1))).trans (k3.sub crs))⟩
    rw [List.map_cons]
    refine forL_next (e1 := [some (.ref C), some (.ref ρ), x2]) (e2 := [some (.ref C), some (.ref ρ), y2]) (h2 := h2) (gdOk_one (by rw [ea]; exact o.H.hS)) rfl ?_ run3
    unfold l_Cache_flush_1
    refine seq_next (for_run (itA_run (var_run rfl) r0.a) run1) ?_
    rw [hh2]
    exact drop_run (methL_run (var_run rfl) (isL_ok r1) nil_run (fClear_run r1))
theorem ws_mem {mem : List Int} {c : Ca} (P : CaW mem c) (h : ∀ w ∈ c.rows, ∀ l ∈ w.ls, l.dirty = false) : c.ws = mem := by
  apply List.ext_getElem?
  intro j
  by_cases hj : j < 32
  · have := P.agree j hj fun w hw l hl q => by rw [h w hw l hl] at q; cases q
    have l1 : j < c.ws.length := by rw [P.wl]; exact hj
    have l2 : j < mem.length := by rw [P.ml]; exact hj
    rw [List.getD_eq_getElem?_getD, List.getD_eq_getElem?_getD, List.getElem?_eq_getElem l1, List.getElem?_eq_getElem l2] at this
    rw [List.getElem?_eq_getElem l1, List.getElem?_eq_getElem l2]
    exact congrArg some this
  · rw [List.getElem?_eq_none (by rw [P.wl]; omega), List.getElem?_eq_none (by rw [P.ml]; omega)]
theorem flush_ok {h : Hm} {C W S : Nat} {mem : List Int} {c : Ca} (o : CaOk h C W S mem c) : ∃ h' c', f_Cache_flush [.ref C] h = .ok .non h' ∧ CaOk h' C W S mem c' ∧ (∀ w ∈ c'.rows, w.ls = []) ∧ c'.ws = mem ∧ (∀ x ∈ cref C W S c'.rows, x ∈ cref C W S c.rows) ∧ KL (cref C W S c.rows) h h' := by
  obtain ⟨y1, y2, h', c', run, o', cl, cr, k⟩ := outer c.rows [] none none h c o rfl rfl (fun _ h => absurd h List.not_mem_nil)
  exact ⟨h', c', call_next f_Cache_flush_eq rfl (for_run (itA_run (fld_run (var_run rfl) o.H.hC (by decide) lk_sets) o.H.hS) run), o', cl, ws_mem o'.P (fun w hw l hl => by rw [cl w hw] at hl; exact absurd hl List.not_mem_nil), cr, k⟩
def c0 (b n : Nat) (ways long : Int) (thr : Bool) (mem : List Int) : Ca := ⟨ways, long, thr, 0, 0, 0, mem, (List.range n).map fun j => ⟨b + 2 + j, []⟩⟩
def initO (b n : Nat) (ways long : Int) (thr : Bool) (mem : List Int) : Hm := [.ins "Cache" (cfl (b + 1) (b + 2 + n) (c0 b n ways long thr mem)), .lst (mem.map D.int)] ++ List.replicate n (.lst []) ++ [.lst ((List.range n).map fun j => D.ref (b + 2 + j))]
theorem cinit_run {H : Hm} {W0 n : Nat} {s ways long : Int} {thr : Bool} {mem : List Int} (hn : s = 1 ∧ n = 1 ∨ s = 2 ∧ n = 2 ∨ s = 4 ∧ n = 4) (ew : H[W0]? = some (.lst (mem.map D.int))) (lw : mem.length = 32) (hw : 1 ≤ ways) (hl : L3 long) :
    f_Cache___init__ [.ref H.length, .ref W0, .int s, .int ways, .int long, .bl thr] (H ++ [.ins "Cache" []]) = .ok .non (H ++ initO H.length n ways long thr mem) := by
  have ew1 : (H ++ [O.ins "Cache" []])[W0]? = some (.lst (mem.map D.int)) := keep_app ew
  have ln := fLen_lst ew1
  rw [List.length_map, lw] at ln
  have ll := fList_lst ew1
  have w1 : ¬ (ways < 1) := by omega
  have f32 : fMod (.int 32) (.int long) (H ++ [O.ins "Cache" []]) = .ok (.int 0) (H ++ [O.ins "Cache" []]) := by
    rcases hl with rfl | rfl | rfl <;> exact fMod_ok (by decide)
  have l1 : ¬ (long < 1) := by rcases hl with rfl | rfl | rfl <;> decide
  have s0 : ¬ (s < 1) := by omega
  refine call_next (e1 := [some (.ref H.length), some (.ref W0), some (.int s), some (.int ways), some (.int long), some (.bl thr), none]) f_Cache___init___eq rfl ?_
  show b_Cache___init__ [some (.ref H.length), some (.ref W0), some (.int s), some (.int ways), some (.int long), some (.bl thr), none] _ = _
  unfold b_Cache___init__
  refine seq_next (if_no (or_run (bool_run ((m2_run (var_run rfl) c_run (fLt_k (decide_eq_false s0))))) (or_run (bool_run (m2_run (var_run rfl) c_run (fLt_k (decide_eq_false w1)))) (or_run (bool_run (m2_run (var_run rfl) c_run (fLt_k (decide_eq_false l1)))) (bool_run (m2_run (m2_run (call_run (cons_run (var_run rfl) nil_run) ln) (var_run rfl) f32) c_run (fNe_k rfl))))))) ?_
  have r1 : rng1 0 1 = [.int 0] := by decide
  have r2 : rng1 0 2 = [.int 0, .int 1] := by decide
  have r4 : rng1 0 4 = [.int 0, .int 1, .int 2, .int 3] := by decide
  have s1 : sm62 1 = true := by decide
  have s2 : sm62 2 = true := by decide
  have s4 : sm62 4 = true := by decide
  have g1 : List.range 1 = [0] := by decide
  have g2 : List.range 2 = [0, 1] := by decide
  have g4 : List.range 4 = [0, 1, 2, 3] := by decide
  rcases hn with ⟨rfl, rfl⟩ | ⟨rfl, rfl⟩ | ⟨rfl, rfl⟩
  · simp [ll, setF, cs_words, cs_sets, cs_ways, cs_long, cs_through, cs_hits, cs_misses, cs_put_out, putD, s1, r1, lcL, gdOk, wipeE, initO, cfl, c0, g1]
  · simp [ll, setF, cs_words, cs_sets, cs_ways, cs_long, cs_through, cs_hits, cs_misses, cs_put_out, putD, s2, r2, lcL, gdOk, wipeE, initO, cfl, c0, g2, List.replicate]
  · simp [ll, setF, cs_words, cs_sets, cs_ways, cs_long, cs_through, cs_hits, cs_misses, cs_put_out, putD, s4, r4, lcL, gdOk, wipeE, initO, cfl, c0, g4, List.replicate]
theorem cinit_ok {H : Hm} {n : Nat} {ways long : Int} {thr : Bool} {mem : List Int} (hn : n = 1 ∨ n = 2 ∨ n = 4) (lw : mem.length = 32) (hw : 1 ≤ ways ∧ ways ≤ 2) (hl : L3 long) : CaOk (H ++ initO H.length n ways long thr mem) H.length (H.length + 1) (H.length + 2 + n) mem (c0 H.length n ways long thr mem) := by
  have rl : (c0 H.length n ways long thr mem).rows.length = n := by simp [c0]
  have cl : ∀ w ∈ (c0 H.length n ways long thr mem).rows, w.ls = [] := fun w hw => by
    simp only [c0, List.mem_map] at hw
    obtain ⟨j, _, rfl⟩ := hw
    rfl
  have at' : ∀ k, (H ++ initO H.length n ways long thr mem)[H.length + k]? = (initO H.length n ways long thr mem)[k]? := fun k => by
    rw [List.getElem?_append_right (by omega)]
    congr 1
    omega
  refine ⟨⟨?_, ?_, ?_, ?_, ?_⟩, ⟨lw, lw, hl, by rw [rl]; exact hn, hw, fun k w hk => ?_, fun _ _ _ => rfl, fun _ => ⟨rfl, fun w hw l hl => by rw [cl w hw] at hl; cases hl⟩⟩⟩
  · have := at' 0
    rw [Nat.add_zero] at this
    rw [this]
    rfl
  · rw [at']
    rfl
  · rw [show H.length + 2 + n = H.length + (2 + n) by omega, at']
    rcases hn with rfl | rfl | rfl <;> rfl
  · intro w hw
    have hw2 := hw
    simp only [c0, List.mem_map, List.mem_range] at hw2
    obtain ⟨j, hj, rfl⟩ := hw2
    refine ⟨?_, fun l hl => absurd hl List.not_mem_nil⟩
    show (H ++ initO H.length n ways long thr mem)[H.length + 2 + j]? = some (.lst [])
    rw [show H.length + 2 + j = H.length + (2 + j) by omega, at']
    rcases hn with rfl | rfl | rfl
    · obtain rfl : j = 0 := by omega
      rfl
    · rcases (show j = 0 ∨ j = 1 by omega) with rfl | rfl <;> rfl
    · rcases (show j = 0 ∨ j = 1 ∨ j = 2 ∨ j = 3 by omega) with rfl | rfl | rfl | rfl <;> rfl
  · generalize H.length = b
    rcases hn with rfl | rfl | rfl
    · simp [cref, c0, own, show List.range 1 = [0] from rfl]
      try omega
    · simp [cref, c0, own, show List.range 2 = [0, 1] from rfl]
      try omega
    · simp [cref, c0, own, show List.range 4 = [0, 1, 2, 3] from rfl]
      try omega
  · have hm := List.mem_of_getElem? hk
    refine ⟨fun l hl => (by rw [cl w hm] at hl; exact absurd hl List.not_mem_nil), (by rw [cl w hm]; simp), (by rw [cl w hm]; simp [c0]; omega)⟩
theorem cinit_ge {b n : Nat} {ways long : Int} {thr : Bool} {mem : List Int} : ∀ x ∈ cref b (b + 1) (b + 2 + n) (c0 b n ways long thr mem).rows, b ≤ x ∧ x < b + 3 + n := fun x hx => by
  simp only [cref, c0, List.mem_cons, List.mem_flatMap, List.mem_map, List.mem_range] at hx
  rcases hx with rfl | rfl | rfl | ⟨w, ⟨j, hj, rfl⟩, hx⟩
  · omega
  · omega
  · omega
  · simp [own] at hx
    omega
theorem cinit_nums {b n : Nat} {ways long : Int} {thr : Bool} {mem : List Int} : numsOf (c0 b n ways long thr mem) = List.replicate n [] := by
  unfold numsOf c0
  simp only [List.map_map]
  rw [List.eq_replicate_iff]
  exact ⟨by simp, fun b hb => by simp at hb; exact hb.2⟩
theorem initO_len {b n : Nat} {ways long : Int} {thr : Bool} {mem : List Int} : (initO b n ways long thr mem).length = n + 3 := by
  unfold initO
  simp
def lfl (U T : Nat) (hits misses : Int) : List (Str × D) := [("under", .ref U), ("sets", .ref T), ("ways", .int 2), ("hits", .int hits), ("misses", .int misses)]
section
variable {U T : Nat} {hits misses : Int}
theorem ll_under : (lfl U T hits misses).lookup ("under" : Str) = some (.ref U) := rfl
theorem ll_sets : (lfl U T hits misses).lookup ("sets" : Str) = some (.ref T) := rfl
theorem ll_ways : (lfl U T hits misses).lookup ("ways" : Str) = some (.int 2) := rfl
theorem ll_hits : (lfl U T hits misses).lookup ("hits" : Str) = some (.int hits) := rfl
theorem ll_misses : (lfl U T hits misses).lookup ("misses" : Str) = some (.int misses) := rfl
theorem lt_hits (z : Int) : putD "hits" (.int z) (lfl U T hits misses) = lfl U T z misses := rfl
theorem lt_misses (z : Int) : putD "misses" (.int z) (lfl U T hits misses) = lfl U T hits z := rfl
end
def pr (mem : List Int) (a : Int) : D := .tup [.int a, .int (mem.getD a.toNat 0)]
def lref (V T U W S : Nat) (rws : List (Nat × List Int)) (c : Ca) : List Nat := V :: T :: (rws.map (·.1) ++ cref U W S c.rows)
structure LvOk (h : Hm) (V T U W S : Nat) (mem : List Int) (rws : List (Nat × List Int)) (c : Ca) : Prop where
  hV : ∃ hits misses, h[V]? = some (.ins "Levels" (lfl U T hits misses))
  hT : h[T]? = some (.lst (rws.map fun w => D.ref w.1))
  hr : ∀ w ∈ rws, h[w.1]? = some (.lst (w.2.map (pr mem)))
  len : rws.length = 2
  ca : CaOk h U W S mem c
  nd : (lref V T U W S rws c).Nodup
  row : ∀ (k : Nat) (w : Nat × List Int), rws[k]? = some w → w.2.Nodup ∧ w.2.length ≤ 2 ∧ ∀ a ∈ w.2, a % 2 = (k : Int) ∧ 0 ≤ a ∧ a < 32
theorem lref_lt {h : Hm} {V T U W S : Nat} {mem : List Int} {rws : List (Nat × List Int)} {c : Ca} (o : LvOk h V T U W S mem rws c) : ∀ x ∈ lref V T U W S rws c, x < h.length := fun x hx => by
  unfold lref at hx
  obtain ⟨a, b, hV⟩ := o.hV
  simp only [List.mem_cons, List.mem_append, List.mem_map] at hx
  rcases hx with rfl | rfl | ⟨w, hw, rfl⟩ | hx
  · exact get_lt hV
  · exact get_lt o.hT
  · exact get_lt (o.hr w hw)
  · exact cref_lt o.ca.H x hx
theorem LvOk.kl {h h' : Hm} {V T U W S : Nat} {mem : List Int} {rws : List (Nat × List Int)} {c : Ca} {L : List Nat} (o : LvOk h V T U W S mem rws c) (k : KL L h h') (d : ∀ x ∈ lref V T U W S rws c, x ∉ L) : LvOk h' V T U W S mem rws c := by
  obtain ⟨a, b, hV⟩ := o.hV
  refine ⟨⟨a, b, k.get hV (d _ (by simp [lref]))⟩, k.get o.hT (d _ (by simp [lref])), fun w hw => k.get (o.hr w hw) (d _ ?_), o.len, ⟨o.ca.H.kl k fun x hx => d x ?_, o.ca.P⟩, o.nd, o.row⟩
  · unfold lref
    simp only [List.mem_cons, List.mem_append, List.mem_map]
    exact .inr (.inr (.inl ⟨w, hw, rfl⟩))
  · unfold lref
    simp only [List.mem_cons, List.mem_append, List.mem_map]
    exact .inr (.inr (.inr hx))
/-- finding a pair: not there -/
theorem find_no {h : Hm} {r : Nat} {all : List D} {mem : List Int} {V : Nat} {a : Int} (er : h[r]? = some (.lst all)) : ∀ (p : List Int) (n : Nat) (x3 x4 : Option D), a ∉ p → ∃ y3 y4, forL [(r, .lst all)] (gU 2 (gsCons (gN 3) (gsCons (gN 4) gsNil))) l_Levels_find_0 (enumD n (p.map (pr mem))) [some (.ref V), some (.int a), some (.ref r), x3, x4] h = .next [some (.ref V), some (.int a), some (.ref r), y3, y4] h
  | [], n, x3, x4, _ => ⟨x3, x4, forL_nil (gdOk_one er)⟩
  | b :: p, n, x3, x4, na => by
    obtain ⟨y3, y4, ih⟩ := find_no (mem := mem) (V := V) er p (n + 1) (some (.int (n : Int))) (some (pr mem b)) (fun z => na (List.mem_cons_of_mem _ z))
    refine ⟨y3, y4, ?_⟩
    rw [List.map_cons, enumD]
    refine forL_next (e1 := [some (.ref V), some (.int a), some (.ref r), some (.int (n : Int)), some (pr mem b)]) (gdOk_one er) rfl ?_ ih
    unfold l_Levels_find_0
    exact if_no (bool_run (m2_run (m2_run (var_run rfl) c_run (show fIx (pr mem b) (.int 0) h = .ok (.int b) h from rfl)) (var_run rfl) (fEq_k (decide_eq_false fun z => na (by rw [z]; exact List.mem_cons_self)))))
theorem forL_ret {gs : List (Nat × O)} {g : Gt} {b : Ev → Hm → SR} {d x : D} {ds : List D} {env e1 : Ev} {h h1 h2 : Hm} (hg : gdOk gs h = true) (a : g d env h = .next e1 h1) (w : b e1 h1 = .ret x h2) : forL gs g b (d :: ds) env h = .ret x h2 := by
  rw [forL, if_pos hg, a]
  simp only [only_next, w]
theorem find_yes {h : Hm} {r : Nat} {all : List D} {mem : List Int} {V : Nat} {a : Int} (er : h[r]? = some (.lst all)) (q : List Int) : ∀ (p : List Int) (n : Nat) (x3 x4 : Option D), a ∉ p → forL [(r, .lst all)] (gU 2 (gsCons (gN 3) (gsCons (gN 4) gsNil))) l_Levels_find_0 (enumD n ((p ++ a :: q).map (pr mem))) [some (.ref V), some (.int a), some (.ref r), x3, x4] h = .ret (.tup [.ref r, .int ((n + p.length : Nat) : Int)]) h
  | [], n, x3, x4, _ => by
    rw [List.nil_append, List.map_cons, enumD]
    refine forL_ret (e1 := [some (.ref V), some (.int a), some (.ref r), some (.int (n : Int)), some (pr mem a)]) (gdOk_one er) rfl ?_
    unfold l_Levels_find_0
    refine if_t (bool_run (m2_run (m2_run (var_run rfl) c_run (show fIx (pr mem a) (.int 0) h = .ok (.int a) h from rfl)) (var_run rfl) (fEq_k (decide_eq_true rfl)))) ?_
    exact ret_run (tup_run (cons_run (var_run rfl) (cons_run (var_run rfl) nil_run)))
  | b :: p, n, x3, x4, na => by
    have ih := find_yes (mem := mem) (V := V) er q p (n + 1) (some (.int (n : Int))) (some (pr mem b)) (fun z => na (List.mem_cons_of_mem _ z))
    rw [show n + (b :: p).length = n + 1 + p.length by simp; omega, List.cons_append, List.map_cons, enumD]
    refine forL_next (e1 := [some (.ref V), some (.int a), some (.ref r), some (.int (n : Int)), some (pr mem b)]) (gdOk_one er) rfl ?_ ih
    unfold l_Levels_find_0
    exact if_no (bool_run (m2_run (m2_run (var_run rfl) c_run (show fIx (pr mem b) (.int 0) h = .ok (.int b) h from rfl)) (var_run rfl) (fEq_k (decide_eq_false fun z => na (by rw [z]; exact List.mem_cons_self)))))
theorem seq_ret2 {sa sb : Ev → Hm → SR} {env : Ev} {h h1 : Hm} {d : D} (a : sa env h = .ret d h1) : sSeq sa sb env h = .ret d h1 := seq_ret a
theorem find_ok {h : Hm} {V T U W S : Nat} {mem : List Int} {rws : List (Nat × List Int)} {c : Ca} (o : LvOk h V T U W S mem rws c) {a : Int} (h0 : 0 ≤ a) : ∃ A r p B, rws = A ++ (r, p) :: B ∧ (A.length : Int) = a % 2 ∧
    (a ∉ p ∧ f_Levels_find [.ref V, .int a] h = .ok (.tup [.ref r, .non]) h ∨ ∃ p1 p2, p = p1 ++ a :: p2 ∧ a ∉ p1 ∧ a ∉ p2 ∧ f_Levels_find [.ref V, .int a] h = .ok (.tup [.ref r, .int (p1.length : Int)]) h) := by
  obtain ⟨hits, misses, hV⟩ := o.hV
  have k0 := Int.emod_nonneg a (show (2 : Int) ≠ 0 by decide)
  have k1 := Int.emod_lt_of_pos a (show (0 : Int) < 2 by decide)
  obtain ⟨A, w, B, e, hA⟩ : ∃ A w B, rws = A ++ w :: B ∧ A.length = (a % 2).toNat := by
    have hk : (a % 2).toNat < rws.length := by rw [o.len]; omega
    exact ⟨rws.take (a % 2).toNat, rws[(a % 2).toNat], rws.drop ((a % 2).toNat + 1), by rw [← List.drop_eq_getElem_cons hk, List.take_append_drop], by rw [List.length_take]; omega⟩
  obtain ⟨r, p⟩ := w
  have er : h[r]? = some (.lst (p.map (pr mem))) := o.hr (r, p) (by rw [e]; simp)
  have rw' := o.row A.length (r, p) (by rw [e]; exact get_at)
  have lT := fLen_lst o.hT
  rw [List.length_map, o.len] at lT
  have S0 : sAsg (gN 2) (m2 fIx (mFld cs_sets "sets" (mVar 0)) (m2 fMod (mVar 1) (mCall fLen (mCons (mFld cs_sets "sets" (mVar 0)) mNil)))) [some (.ref V), some (.int a), none, none, none] h = .next [some (.ref V), some (.int a), some (.ref r), none, none] h := by
    refine asg_run (m2_run (fld_run (var_run rfl) hV (by decide) ll_sets) (m2_run (var_run rfl) (call_run (cons_run (fld_run (var_run rfl) hV (by decide) ll_sets) nil_run) lT) (fm (by decide))) (fIx_int o.hT k0 ?_))
    rw [List.getElem?_map, e, show ((a % ((2 : Nat) : Int)).toNat) = A.length from hA.symm, get_at]
    rfl
  refine ⟨A, r, p, B, e, by omega, ?_⟩
  by_cases m : a ∈ p
  · obtain ⟨p1, p2, rfl⟩ := List.append_of_mem m
    have nn := rw'.1
    rw [List.nodup_append, List.nodup_cons] at nn
    have np : a ∉ p1 := fun z => nn.2.2 a z a List.mem_cons_self rfl
    refine .inr ⟨p1, p2, rfl, np, nn.2.1.1, call_ret f_Levels_find_eq rfl ?_⟩
    refine seq_next S0 (seq_ret (for_run (enum_run (var_run rfl) er) ?_))
    have := find_yes (mem := mem) (V := V) er p2 p1 0 none none np
    rw [Nat.zero_add] at this
    exact this
  · obtain ⟨y3, y4, run⟩ := find_no (mem := mem) (V := V) er p 0 none none m
    refine .inl ⟨m, call_ret f_Levels_find_eq rfl ?_⟩
    refine seq_next S0 (seq_next (for_run (enum_run (var_run rfl) er) run) ?_)
    exact ret_run (tup_run (cons_run (var_run rfl) (cons_run c_run nil_run)))
theorem put_ok {h : Hm} {V U T r : Nat} {hits misses a x : Int} {ds : List D} (hV : h[V]? = some (.ins "Levels" (lfl U T hits misses))) (er : h[r]? = some (.lst ds)) (hl : ds.length ≤ 2) (ne : V ≠ r) :
    f_Levels_put [.ref V, .ref r, .int a, .int x] h = .ok .non (h.set r (.lst ((if ds.length = 2 then ds.drop 1 else ds) ++ [.tup [.int a, .int x]]))) := by
  have ln := fLen_lst er
  obtain ⟨m, hm⟩ : ∃ m : Int, m = (ds.length : Int) := ⟨_, rfl⟩
  rw [← hm] at ln
  have tl : ∀ (h : Hm) (es : List D), h[r]? = some (.lst es) → es.length ≤ 2 → sDrop (mMeth isL fAppend (mVar 1) (mCons (mTup (mCons (mVar 2) (mCons (mVar 3) mNil))) mNil)) [some (.ref V), some (.ref r), some (.int a), some (.int x)] h = .next [some (.ref V), some (.ref r), some (.int a), some (.int x)] (h.set r (.lst (es ++ [.tup [.int a, .int x]]))) := fun h es e l =>
    drop_run (methL_run (var_run rfl) (isL_ok e) (cons_run (tup_run (cons_run (var_run rfl) (cons_run (var_run rfl) nil_run))) nil_run) (fAppend_ok e (lim_lt (by omega))))
  refine call_next (e1 := [some (.ref V), some (.ref r), some (.int a), some (.int x)]) f_Levels_put_eq rfl ?_
  show b_Levels_put [some (.ref V), some (.ref r), some (.int a), some (.int x)] h = _
  unfold b_Levels_put
  by_cases q : m = 2
  · have q' : ds.length = 2 := by omega
    rw [if_pos q']
    match ds, er, q' with
    | d :: ds, er, q' =>
      have pp : fPop (.ref r) [.int 0] h = .ok d (h.set r (.lst ds)) := fPop_at (j := 0) er rfl (by omega)
      refine seq_next (if_t (bool_run (m2_run (call_run (cons_run (var_run rfl) nil_run) ln) (fld_run (var_run rfl) hV (by decide) ll_ways) (fEq_k (decide_eq_true q)))) (drop_run (methL_run (var_run rfl) (isL_ok er) (cons_run c_run nil_run) pp))) ?_
      have := tl (h.set r (.lst ds)) ds (List.getElem?_set_self (get_lt er)) (by rw [List.length_cons] at q'; omega)
      rw [List.set_set] at this
      exact this
  · rw [if_neg (show ¬ ds.length = 2 by omega)]
    refine seq_next (if_no (bool_run (m2_run (call_run (cons_run (var_run rfl) nil_run) ln) (fld_run (var_run rfl) hV (by decide) ll_ways) (fEq_k (decide_eq_false q))))) ?_
    exact tl h ds er hl
theorem lref_mid {V T U W S : Nat} {A B : List (Nat × List Int)} {r : Nat} {p p' : List Int} {c : Ca} : lref V T U W S (A ++ (r, p') :: B) c = lref V T U W S (A ++ (r, p) :: B) c := by
  unfold lref
  simp
theorem lref_ne {h : Hm} {V T U W S : Nat} {mem : List Int} {c : Ca} {A B : List (Nat × List Int)} {r : Nat} {p : List Int} (o : LvOk h V T U W S mem (A ++ (r, p) :: B) c) : V ≠ T ∧ V ≠ r ∧ T ≠ r ∧ (∀ w, w ∈ A ∨ w ∈ B → w.1 ≠ r ∧ w.1 ≠ V) ∧ (∀ x ∈ cref U W S c.rows, x ≠ V ∧ x ≠ T ∧ x ≠ r ∧ ∀ w, w ∈ A ∨ w ∈ B → x ≠ w.1) := by
  have n := o.nd
  unfold lref at n
  rw [List.map_append, List.map_cons, List.nodup_cons, List.nodup_cons, List.nodup_append, List.nodup_append] at n
  simp only [List.mem_cons, List.mem_append, List.mem_map, not_or, List.nodup_cons] at n
  obtain ⟨⟨n1, ⟨n2, n3, n4⟩, n5⟩, ⟨⟨n6, n7, n8⟩, n9⟩, ⟨m1, ⟨m2, m3⟩, m4⟩, m5, m6⟩ := n
  refine ⟨n1, n3, n7, fun w hw => ?_, fun x hx => ⟨fun z => n5 (z ▸ hx), fun z => n9 (z ▸ hx), fun z => m6 r (.inr (.inl rfl)) x hx z.symm, fun w hw z => ?_⟩⟩
  · rcases hw with a | a
    · exact ⟨fun z => m4 w.1 ⟨w, a, rfl⟩ r (.inl rfl) z, fun z => n2 ⟨w, a, z⟩⟩
    · exact ⟨fun z => m2 ⟨w, a, z⟩, fun z => n4 ⟨w, a, z⟩⟩
  · rcases hw with a | a
    · exact m6 w.1 (.inl ⟨w, a, rfl⟩) x hx z.symm
    · exact m6 w.1 (.inr (.inr ⟨w, a, rfl⟩)) x hx z.symm
/-- one row of pairs is changed -/
theorem LvOk.chg {h h' : Hm} {V T U W S : Nat} {mem : List Int} {c : Ca} {A B : List (Nat × List Int)} {r : Nat} {p p' : List Int} (o : LvOk h V T U W S mem (A ++ (r, p) :: B) c) (k : KL [V, r] h h') (hV : ∃ hits misses, h'[V]? = some (.ins "Levels" (lfl U T hits misses)))
    (er : h'[r]? = some (.lst (p'.map (pr mem)))) (q : p'.Nodup ∧ p'.length ≤ 2 ∧ ∀ a ∈ p', a % 2 = (A.length : Int) ∧ 0 ≤ a ∧ a < 32) : LvOk h' V T U W S mem (A ++ (r, p') :: B) c := by
  obtain ⟨n1, n2, n3, n4, n5⟩ := lref_ne o
  refine ⟨hV, ?_, fun w hw => ?_, by rw [← o.len]; simp, ⟨o.ca.H.kl k fun x hx => ?_, o.ca.P⟩, by rw [lref_mid (p := p)]; exact o.nd, fun i w hi => ?_⟩
  · have := k.get o.hT (by simp only [List.mem_cons, List.not_mem_nil, or_false, not_or]; exact ⟨fun z => n1 z.symm, n3⟩)
    rw [this]
    simp
  · have far : w ∈ A ∨ w ∈ B → h'[w.1]? = some (.lst (w.2.map (pr mem))) := fun m => k.get (o.hr w (by rcases m with m | m <;> simp [m])) (by simp only [List.mem_cons, List.not_mem_nil, or_false, not_or]; exact ⟨(n4 w m).2, (n4 w m).1⟩)
    rcases List.mem_append.mp hw with m | m
    · exact far (.inl m)
    · rcases List.mem_cons.mp m with rfl | m
      · exact er
      · exact far (.inr m)
  · simp only [List.mem_cons, List.not_mem_nil, or_false, not_or]
    exact ⟨(n5 x hx).1, (n5 x hx).2.2.1⟩
  · by_cases e : i = A.length
    · subst e
      rw [get_at] at hi
      cases hi
      exact q
    · exact o.row i w (by rw [get_mid (y := (r, p')) e]; exact hi)
/-- what a load or a store at the levels leaves -/
structure LvAft (V T U W S : Nat) (mem' : List Int) (rws : List (Nat × List Int)) (c : Ca) (h h' : Hm) (rws' : List (Nat × List Int)) (c' : Ca) : Prop where
  ok : LvOk h' V T U W S mem' rws' c'
  kl : KL (lref V T U W S rws c) h h'
  grow : Grow h.length (lref V T U W S rws c) (lref V T U W S rws' c')
theorem LvOk.all {h h' : Hm} {V T U W S : Nat} {mem mem' : List Int} {c c' : Ca} {A B : List (Nat × List Int)} {r : Nat} {p p' : List Int} (o : LvOk h V T U W S mem (A ++ (r, p) :: B) c) (k : KL (V :: r :: cref U W S c.rows) h h') (hV : ∃ hits misses, h'[V]? = some (.ins "Levels" (lfl U T hits misses)))
    (er : h'[r]? = some (.lst (p'.map (pr mem')))) (ca : CaOk h' U W S mem' c') (g : Grow h.length (cref U W S c.rows) (cref U W S c'.rows)) (q : p'.Nodup ∧ p'.length ≤ 2 ∧ ∀ a ∈ p', a % 2 = (A.length : Int) ∧ 0 ≤ a ∧ a < 32)
    (m : ∀ w, w ∈ A ∨ w ∈ B → ∀ b ∈ w.2, pr mem' b = pr mem b) : LvAft V T U W S mem' (A ++ (r, p) :: B) c h h' (A ++ (r, p') :: B) c' := by
  obtain ⟨n1, n2, n3, n4, n5⟩ := lref_ne o
  have lt := lref_lt o
  have nd := o.nd
  have sp : ∀ c : Ca, lref V T U W S (A ++ (r, p) :: B) c = (V :: T :: (A ++ (r, p) :: B).map (·.1)) ++ cref U W S c.rows := fun c => rfl
  have sp' : ∀ c : Ca, lref V T U W S (A ++ (r, p') :: B) c = (V :: T :: (A ++ (r, p) :: B).map (·.1)) ++ cref U W S c.rows := fun c => by rw [lref_mid (p := p)]; rfl
  refine ⟨⟨hV, ?_, fun w hw => ?_, by rw [← o.len]; simp, ca, ?_, fun i w hi => ?_⟩, k.sub fun x hx => ?_, ?_⟩
  · have := k.get o.hT (by
      simp only [List.mem_cons, not_or]
      exact ⟨fun z => n1 z.symm, n3, fun z => (n5 T z).2.1 rfl⟩)
    rw [this]
    simp
  · have far : w ∈ A ∨ w ∈ B → h'[w.1]? = some (.lst (w.2.map (pr mem'))) := fun mm => by
      have := k.get (o.hr w (by rcases mm with m | m <;> simp [m])) (by
        simp only [List.mem_cons, not_or]
        exact ⟨(n4 w mm).2, (n4 w mm).1, fun z => (n5 _ z).2.2.2 w mm rfl⟩)
      rw [this, List.map_congr_left (m w mm)]
    rcases List.mem_append.mp hw with m | m
    · exact far (.inl m)
    · rcases List.mem_cons.mp m with rfl | m
      · exact er
      · exact far (.inr m)
  · rw [sp']
    rw [sp] at nd lt
    rw [List.nodup_append] at nd ⊢
    refine ⟨nd.1, ca.H.nd, fun x hx y hy z => ?_⟩
    subst z
    rcases g x hy with m | m
    · exact nd.2.2 x hx x m rfl
    · have := lt x (List.mem_append_left _ hx)
      omega
  · by_cases e : i = A.length
    · subst e
      rw [get_at] at hi
      cases hi
      exact q
    · exact o.row i w (by rw [get_mid (y := (r, p')) e]; exact hi)
  · rw [sp]
    simp only [List.mem_cons] at hx
    simp only [List.mem_append, List.mem_cons, List.mem_map]
    rcases hx with rfl | rfl | hx
    · exact .inl (.inl rfl)
    · exact .inl (.inr (.inr ⟨(x, p), by simp, rfl⟩))
    · exact .inr hx
  · intro x hx
    rw [sp'] at hx
    rw [sp]
    rcases List.mem_append.mp hx with m | m
    · exact .inl (List.mem_append_left _ m)
    · rcases g x m with z | z
      · exact .inl (List.mem_append_right _ z)
      · exact .inr z
theorem pu_run {mr : Ev → Hm → R (List D)} {d e : D} {env : Ev} {h h1 : Hm} {i j : Nat} {m : Ev → Hm → R D} (em : m env h = .ok (.tup [d, e]) h1) : sAsg (gU 2 (gsCons (gN i) (gsCons (gN j) gsNil))) m env h = .next ((env.set i (some d)).set j (some e)) h1 := by
  rw [run_asg, em, bindS_ok]
  rfl
theorem fl5 {U T : Nat} {a b : Int} : (lfl U T a b).length < 1000 := by show 5 < 1000; decide
theorem lvload_ok {h : Hm} {V T U W S : Nat} {mem : List Int} {rws : List (Nat × List Int)} {c : Ca} (o : LvOk h V T U W S mem rws c) {a : Int} (h0 : 0 ≤ a) (h32 : a < 32) :
    ∃ h' rws' c', f_Levels_load [.ref V, .int a] h = .ok (.int (mem.getD a.toNat 0)) h' ∧ LvAft V T U W S mem rws c h h' rws' c' := by
  obtain ⟨A, r, p, B, rfl, hA, fnd⟩ := find_ok o h0
  obtain ⟨n1, n2, n3, n4, n5⟩ := lref_ne o
  obtain ⟨hits, misses, hV⟩ := o.hV
  have er : h[r]? = some (.lst (p.map (pr mem))) := o.hr (r, p) (by simp)
  obtain ⟨q1, q2, q3⟩ := o.row A.length (r, p) get_at
  have q1 : p.Nodup := q1
  have q2 : p.length ≤ 2 := q2
  have q3 : ∀ a ∈ p, a % 2 = (A.length : Int) ∧ 0 ≤ a ∧ a < 32 := q3
  rcases fnd with ⟨na, run⟩ | ⟨p1, p2, rfl, np1, np2, run⟩
  · -- a miss
    obtain ⟨h1, hh1⟩ : ∃ h1, h1 = h.set V (.ins "Levels" (lfl U T hits (misses + 1))) := ⟨_, rfl⟩
    have k1 : KL [V] h h1 := by rw [hh1]; exact KL.set (by simp)
    have V1 : h1[V]? = some (.ins "Levels" (lfl U T hits (misses + 1))) := by rw [hh1]; exact List.getElem?_set_self (get_lt hV)
    have ca1 : CaOk h1 U W S mem c := ⟨o.ca.H.kl k1 fun x hx => by simpa using (n5 x hx).1, o.ca.P⟩
    obtain ⟨h2, c2, run2, af⟩ := load_ok ca1 h0 h32
    have nr : r ∉ cref U W S c.rows := fun z => (n5 r z).2.2.1 rfl
    have nV : V ∉ cref U W S c.rows := fun z => (n5 V z).1 rfl
    have er2 := af.kl.get (k1.get er (by simpa using fun z => n2 z.symm)) nr
    have V2 := af.kl.get V1 nV
    have pt := put_ok (a := a) (x := mem.getD a.toNat 0) V2 er2 (by rw [List.length_map]; exact q2) n2
    obtain ⟨p', hp'⟩ : ∃ p' : List Int, p' = (if p.length = 2 then p.drop 1 else p) ++ [a] := ⟨_, rfl⟩
    have epp : (if (p.map (pr mem)).length = 2 then (p.map (pr mem)).drop 1 else p.map (pr mem)) ++ [D.tup [.int a, .int (mem.getD a.toNat 0)]] = p'.map (pr mem) := by
      rw [hp', List.length_map]
      split
      · rw [List.map_append, List.map_drop]; rfl
      · rw [List.map_append]; rfl
    rw [epp] at pt
    obtain ⟨h3, hh3⟩ : ∃ h3, h3 = h2.set r (.lst (p'.map (pr mem))) := ⟨_, rfl⟩
    rw [← hh3] at pt
    have k3 : KL [r] h2 h3 := by rw [hh3]; exact KL.set (by simp)
    have r3 : h3[r]? = some (.lst (p'.map (pr mem))) := by rw [hh3]; exact List.getElem?_set_self (get_lt er2)
    have g' : ∀ x ∈ cref U W S c2.rows, x ≠ r := fun x hx z => by
      subst z
      rcases af.grow x hx with m | m
      · exact nr m
      · have := get_lt er
        have := k1.1
        omega
    refine ⟨h3, A ++ (r, p') :: B, c2, ?_, o.all ?_ ⟨_, _, k3.get V2 (by simpa using n2)⟩ r3 ⟨af.ok.H.kl k3 fun x hx => by simpa using g' x hx, af.ok.P⟩ (fun x hx => ?_) ?_ fun _ _ _ _ => rfl⟩
    · refine call_ret f_Levels_load_eq rfl ?_
      refine seq_next (e1 := [some (.ref V), some (.int a), some (.ref r), some .non, none]) (pu_run (mr := mNil) ((meth_run (var_run rfl) hV rfl (cons_run (var_run rfl) nil_run) rfl).trans run)) ?_
      refine seq_next (e1 := [some (.ref V), some (.int a), some (.ref r), some .non, none]) (h1 := h) ?_ ?_
      · unfold p_Levels_load_1
        exact if_no (bool_run (m2_run (var_run rfl) c_run (by rfl)))
      · refine seq_next (e1 := [some (.ref V), some (.int a), some (.ref r), some .non, none]) (h1 := h1) ?_ ?_
        · unfold p_Levels_load_2
          rw [hh1, ← lt_misses (misses := misses)]
          exact fldA_run (var_run rfl) hV (by decide) ll_misses c_run (by rfl) hV fl5
        · refine seq_next (e1 := [some (.ref V), some (.int a), some (.ref r), some .non, some (.int (mem.getD a.toNat 0))]) (h1 := h2) ?_ ?_
          · unfold p_Levels_load_3
            exact asg_run ((meth_run (fld_run (var_run rfl) V1 (by decide) ll_under) ca1.H.hC rfl (cons_run (var_run rfl) nil_run) rfl).trans run2)
          · refine seq_next (e1 := [some (.ref V), some (.int a), some (.ref r), some .non, some (.int (mem.getD a.toNat 0))]) (h1 := h3) ?_ ?_
            · unfold p_Levels_load_4
              exact drop_run ((meth_run (var_run rfl) V2 rfl (cons_run (var_run rfl) (cons_run (var_run rfl) (cons_run (var_run rfl) nil_run))) rfl).trans pt)
            · unfold p_Levels_load_5
              exact ret_run (var_run rfl)
    · refine ((k1.sub (by simp)).trans (af.kl.sub fun x hx => List.mem_cons_of_mem _ (List.mem_cons_of_mem _ hx))).trans (k3.sub (by simp))
    · rcases af.grow x hx with m | m
      · exact .inl m
      · exact .inr (Nat.le_trans k1.1 m)
    · rw [hp']
      refine ⟨?_, ?_, ?_⟩
      · rw [List.nodup_append]
        refine ⟨?_, by simp, fun x hx y hy => ?_⟩
        · split
          · exact q1.sublist (List.drop_sublist _ _)
          · exact q1
        · rw [List.mem_singleton] at hy
          subst hy
          refine fun z => na (z ▸ ?_)
          split at hx
          · exact List.mem_of_mem_drop hx
          · exact hx
      · rw [List.length_append]
        split
        · rw [List.length_drop]; simp; omega
        · simp; omega
      · intro x hx
        rcases List.mem_append.mp hx with m | m
        · refine q3 x ?_
          split at m
          · exact List.mem_of_mem_drop m
          · exact m
        · rw [List.mem_singleton] at m
          subst m
          exact ⟨hA.symm, h0, h32⟩
  · -- a hit
    obtain ⟨h1, hh1⟩ : ∃ h1, h1 = h.set V (.ins "Levels" (lfl U T (hits + 1) misses)) := ⟨_, rfl⟩
    have k1 : KL [V] h h1 := by rw [hh1]; exact KL.set (by simp)
    have V1 : h1[V]? = some (.ins "Levels" (lfl U T (hits + 1) misses)) := by rw [hh1]; exact List.getElem?_set_self (get_lt hV)
    have er1 := k1.get er (by simpa using fun z => n2 z.symm)
    have wls : (p1 ++ a :: p2).map (pr mem) = p1.map (pr mem) ++ pr mem a :: p2.map (pr mem) := by rw [List.map_append, List.map_cons]
    have gat : ((p1 ++ a :: p2).map (pr mem))[p1.length]? = some (pr mem a) := by
      rw [wls, List.getElem?_append_right (by rw [List.length_map]; exact Nat.le_refl _), List.length_map, Nat.sub_self]
      rfl
    have era : ((p1 ++ a :: p2).map (pr mem)).eraseIdx p1.length = (p1 ++ p2).map (pr mem) := by
      rw [wls, List.eraseIdx_append_of_length_le (by rw [List.length_map]; exact Nat.le_refl _), List.length_map, Nat.sub_self, List.map_append]
      rfl
    have pp := fPop_at er1 gat (by rw [List.length_map]; omega)
    rw [era] at pp
    have r1' : (h1.set r (.lst ((p1 ++ p2).map (pr mem))))[r]? = some (.lst ((p1 ++ p2).map (pr mem))) := List.getElem?_set_self (get_lt er1)
    have pl : p1.length + p2.length + 1 ≤ 2 := by rw [List.length_append, List.length_cons] at q2; omega
    have ap := fAppend_ok (y := pr mem a) r1' (lim_lt (by rw [List.length_map, List.length_append]; omega))
    rw [List.set_set, show ((p1 ++ p2).map (pr mem) ++ [pr mem a]) = (p1 ++ p2 ++ [a]).map (pr mem) by simp] at ap
    obtain ⟨h2, hh2⟩ : ∃ h2, h2 = h1.set r (.lst ((p1 ++ p2 ++ [a]).map (pr mem))) := ⟨_, rfl⟩
    rw [← hh2] at ap
    have k2 : KL [r] h1 h2 := by rw [hh2]; exact KL.set (by simp)
    have r2 : h2[r]? = some (.lst ((p1 ++ p2 ++ [a]).map (pr mem))) := by rw [hh2]; exact List.getElem?_set_self (get_lt er1)
    have la := fIx_last (x := pr mem a) r2 (by simp)
    have kk : KL [V, r] h h2 := (k1.sub (by simp)).trans (k2.sub (by simp))
    have pm : (p1 ++ p2 ++ [a]).Perm (p1 ++ a :: p2) := by
      rw [List.append_assoc]
      exact List.Perm.append_left p1 (List.perm_append_comm (l₁ := p2) (l₂ := [a]))
    refine ⟨h2, A ++ (r, p1 ++ p2 ++ [a]) :: B, c, ?_, o.all (kk.sub (by simp)) ⟨_, _, k2.get V1 (by simpa using n2)⟩ r2 ⟨o.ca.H.kl kk fun x hx => ?_, o.ca.P⟩ Grow.refl ⟨pm.nodup_iff.mpr q1, by rw [pm.length_eq]; exact q2, fun x hx => q3 x (pm.mem_iff.mp hx)⟩ fun _ _ _ _ => rfl⟩
    · refine call_ret f_Levels_load_eq rfl ?_
      refine seq_next (e1 := [some (.ref V), some (.int a), some (.ref r), some (.int (p1.length : Int)), none]) (pu_run (mr := mNil) ((meth_run (var_run rfl) hV rfl (cons_run (var_run rfl) nil_run) rfl).trans run)) ?_
      refine seq_ret ?_
      unfold p_Levels_load_1 t_Levels_load_0 t_Levels_load_1 t_Levels_load_2
      refine if_t (bool_run (m2_run (var_run rfl) c_run (by rfl))) ?_
      refine seq_next (e1 := [some (.ref V), some (.int a), some (.ref r), some (.int (p1.length : Int)), none]) (h1 := h1) ?_ ?_
      · rw [hh1, ← lt_hits (hits := hits)]
        exact fldA_run (var_run rfl) hV (by decide) ll_hits c_run (by rfl) hV fl5
      · refine seq_next (drop_run (methL_run (var_run rfl) (isL_ok er1) (cons_run (methL_run (var_run rfl) (isL_ok er1) (cons_run (var_run rfl) nil_run) pp) nil_run) ap)) ?_
        exact ret_run (m2_run (m2_run (var_run rfl) (neg_run c_run) la) c_run (by rfl))
    · simp only [List.mem_cons, List.not_mem_nil, or_false, not_or]
      exact ⟨(n5 x hx).1, (n5 x hx).2.2.1⟩
theorem lvstore_ok {h : Hm} {V T U W S : Nat} {mem : List Int} {rws : List (Nat × List Int)} {c : Ca} (o : LvOk h V T U W S mem rws c) {a x : Int} (h0 : 0 ≤ a) (h32 : a < 32) :
    ∃ h' rws' c', f_Levels_store [.ref V, .int a, .int x] h = .ok .non h' ∧ LvAft V T U W S (mem.set a.toNat x) rws c h h' rws' c' := by
  obtain ⟨A, r, p, B, rfl, hA, fnd⟩ := find_ok o h0
  obtain ⟨n1, n2, n3, n4, n5⟩ := lref_ne o
  obtain ⟨hits, misses, hV⟩ := o.hV
  have er : h[r]? = some (.lst (p.map (pr mem))) := o.hr (r, p) (by simp)
  obtain ⟨q1, q2, q3⟩ := o.row A.length (r, p) get_at
  have q1 : p.Nodup := q1
  have q2 : p.length ≤ 2 := q2
  have q3 : ∀ a ∈ p, a % 2 = (A.length : Int) ∧ 0 ≤ a ∧ a < 32 := q3
  have al : a.toNat < mem.length := by rw [o.ca.P.ml]; omega
  have prn : ∀ b, 0 ≤ b → b ≠ a → pr (mem.set a.toNat x) b = pr mem b := fun b b0 nb => by
    unfold pr
    rw [getD_set al, if_neg (by omega)]
  have pra : pr (mem.set a.toNat x) a = .tup [.int a, .int x] := by
    unfold pr
    rw [getD_set al, if_pos rfl]
  -- without the address
  obtain ⟨k, p0, h1, run, S1, r1, k1, z1, z2, z3, z4⟩ : ∃ (k : D) (p0 : List Int) (h1 : Hm), f_Levels_find [.ref V, .int a] h = .ok (.tup [.ref r, k]) h ∧ p_Levels_store_1 [some (.ref V), some (.int a), some (.int x), some (.ref r), some k] h = .next [some (.ref V), some (.int a), some (.int x), some (.ref r), some k] h1 ∧ h1[r]? = some (.lst (p0.map (pr mem))) ∧ KL [r] h h1 ∧ p0.Nodup ∧ p0.length ≤ 2 ∧ (∀ b ∈ p0, b % 2 = (A.length : Int) ∧ 0 ≤ b ∧ b < 32) ∧ a ∉ p0 := by
    rcases fnd with ⟨na, run⟩ | ⟨p1, p2, rfl, np1, np2, run⟩
    · refine ⟨.non, p, h, run, ?_, er, KL.refl, q1, q2, q3, na⟩
      unfold p_Levels_store_1
      exact if_no (bool_run (m2_run (var_run rfl) c_run (by rfl)))
    · have wls : (p1 ++ a :: p2).map (pr mem) = p1.map (pr mem) ++ pr mem a :: p2.map (pr mem) := by rw [List.map_append, List.map_cons]
      have gat : ((p1 ++ a :: p2).map (pr mem))[p1.length]? = some (pr mem a) := by
        rw [wls, List.getElem?_append_right (by rw [List.length_map]; exact Nat.le_refl _), List.length_map, Nat.sub_self]
        rfl
      have era : ((p1 ++ a :: p2).map (pr mem)).eraseIdx p1.length = (p1 ++ p2).map (pr mem) := by
        rw [wls, List.eraseIdx_append_of_length_le (by rw [List.length_map]; exact Nat.le_refl _), List.length_map, Nat.sub_self, List.map_append]
        rfl
      have pp := fPop_at er gat (by rw [List.length_map]; omega)
      rw [era] at pp
      have sl : (p1 ++ p2).Sublist (p1 ++ a :: p2) := List.Sublist.append_left (List.sublist_cons_self a p2) p1
      refine ⟨.int (p1.length : Int), p1 ++ p2, h.set r (.lst ((p1 ++ p2).map (pr mem))), run, ?_, List.getElem?_set_self (get_lt er), KL.set (by simp), q1.sublist sl, Nat.le_trans sl.length_le q2, fun b hb => q3 b (sl.subset hb), fun z => (List.mem_append.mp z).elim np1 np2⟩
      unfold p_Levels_store_1 t_Levels_store_0
      exact if_t (bool_run (m2_run (var_run rfl) c_run (by rfl))) (drop_run (methL_run (var_run rfl) (isL_ok er) (cons_run (var_run rfl) nil_run) pp))
  have V1 := k1.get hV (by simpa using n2)
  have pt := put_ok (a := a) (x := x) V1 r1 (by rw [List.length_map]; exact z2) n2
  obtain ⟨p', hp'⟩ : ∃ p' : List Int, p' = (if p0.length = 2 then p0.drop 1 else p0) ++ [a] := ⟨_, rfl⟩
  have sub0 : ∀ b ∈ (if p0.length = 2 then p0.drop 1 else p0), b ∈ p0 := fun b hb => by
    split at hb
    · exact List.mem_of_mem_drop hb
    · exact hb
  have epp : (if (p0.map (pr mem)).length = 2 then (p0.map (pr mem)).drop 1 else p0.map (pr mem)) ++ [D.tup [.int a, .int x]] = p'.map (pr (mem.set a.toNat x)) := by
    rw [hp', List.map_append, List.map_cons, List.map_nil, pra, List.map_congr_left (f := pr (mem.set a.toNat x)) (g := pr mem) fun b hb => prn b (z3 b (sub0 b hb)).2.1 fun z => z4 (z ▸ sub0 b hb), List.length_map]
    split
    · rw [List.map_drop]
    · rfl
  rw [epp] at pt
  obtain ⟨h2, hh2⟩ : ∃ h2, h2 = h1.set r (.lst (p'.map (pr (mem.set a.toNat x)))) := ⟨_, rfl⟩
  rw [← hh2] at pt
  have k2 : KL [r] h1 h2 := by rw [hh2]; exact KL.set (by simp)
  have r2 : h2[r]? = some (.lst (p'.map (pr (mem.set a.toNat x)))) := by rw [hh2]; exact List.getElem?_set_self (get_lt r1)
  have nr : r ∉ cref U W S c.rows := fun z => (n5 r z).2.2.1 rfl
  have nV : V ∉ cref U W S c.rows := fun z => (n5 V z).1 rfl
  have kk : KL [r] h h2 := k1.trans k2
  have V2 := kk.get hV (by simpa using n2)
  have ca2 : CaOk h2 U W S mem c := ⟨o.ca.H.kl kk fun y hy => by simpa using (n5 y hy).2.2.1, o.ca.P⟩
  obtain ⟨h3, c3, run3, af⟩ := store_ok (x := x) ca2 h0 h32
  refine ⟨h3, A ++ (r, p') :: B, c3, ?_, o.all ?_ ⟨_, _, af.kl.get V2 nV⟩ (af.kl.get r2 nr) af.ok (fun y hy => ?_) ?_ ?_⟩
  · refine call_next (e1 := [some (.ref V), some (.int a), some (.int x), some (.ref r), some k]) f_Levels_store_eq rfl ?_
    refine seq_next (e1 := [some (.ref V), some (.int a), some (.int x), some (.ref r), some k]) (pu_run (mr := mNil) ((meth_run (var_run rfl) hV rfl (cons_run (var_run rfl) nil_run) rfl).trans run)) ?_
    refine seq_next S1 ?_
    refine seq_next (e1 := [some (.ref V), some (.int a), some (.int x), some (.ref r), some k]) (h1 := h2) ?_ ?_
    · unfold p_Levels_store_2
      exact drop_run ((meth_run (var_run rfl) V1 rfl (cons_run (var_run rfl) (cons_run (var_run rfl) (cons_run (var_run rfl) nil_run))) rfl).trans pt)
    · unfold p_Levels_store_3
      exact drop_run ((meth_run (fld_run (var_run rfl) V2 (by decide) ll_under) ca2.H.hC rfl (cons_run (var_run rfl) (cons_run (var_run rfl) nil_run)) rfl).trans run3)
  · exact (kk.sub (by simp)).trans (af.kl.sub fun y hy => List.mem_cons_of_mem _ (List.mem_cons_of_mem _ hy))
  · rcases af.grow y hy with m | m
    · exact .inl m
    · exact .inr (Nat.le_trans kk.1 m)
  · rw [hp']
    refine ⟨?_, ?_, ?_⟩
    · rw [List.nodup_append]
      refine ⟨?_, by simp, fun y hy z hz => ?_⟩
      · split
        · exact z1.sublist (List.drop_sublist _ _)
        · exact z1
      · rw [List.mem_singleton] at hz
        subst hz
        exact fun q => z4 (q ▸ sub0 y hy)
    · rw [List.length_append]
      split
      · rw [List.length_drop]; simp; omega
      · simp; omega
    · intro y hy
      rcases List.mem_append.mp hy with m | m
      · exact z3 y (sub0 y m)
      · rw [List.mem_singleton] at m
        subst m
        exact ⟨hA.symm, h0, h32⟩
  · intro w hw b hb
    obtain ⟨i, hi, ne⟩ : ∃ i : Nat, (A ++ (r, p) :: B)[i]? = some w ∧ i ≠ A.length := by
      rcases hw with m | m
      · obtain ⟨i, hi, q⟩ := List.mem_iff_getElem.mp m
        exact ⟨i, by rw [List.getElem?_append_left hi, List.getElem?_eq_getElem hi, q], by omega⟩
      · obtain ⟨i, hi, q⟩ := List.mem_iff_getElem.mp m
        exact ⟨A.length + (i + 1), by rw [List.getElem?_append_right (by omega), show A.length + (i + 1) - A.length = i + 1 by omega, List.getElem?_cons_succ, List.getElem?_eq_getElem hi, q], by omega⟩
    obtain ⟨b1, b2, b3⟩ := (o.row i w hi).2.2 b hb
    refine prn b b2 fun z => ne ?_
    rw [z] at b1
    omega
def Rs (h : Hm) (rs : List Nat) (ls : List (List Int)) : Prop := rs.length = ls.length ∧ ∀ (k r : Nat), rs[k]? = some r → h[r]? = some (O.lst ((ls.getD k []).map D.int))
theorem Rs.cons {h : Hm} {r : Nat} {rs : List Nat} {l : List Int} {ls : List (List Int)} (o : Rs h (r :: rs) (l :: ls)) : h[r]? = some (.lst (l.map D.int)) ∧ Rs h rs ls :=
  ⟨o.2 0 r rfl, by have := o.1; simpa using this, fun k s hk => o.2 (k + 1) s hk⟩
theorem Rs.mk' {h : Hm} {r : Nat} {rs : List Nat} {l : List Int} {ls : List (List Int)} (a : h[r]? = some (.lst (l.map D.int))) (o : Rs h rs ls) : Rs h (r :: rs) (l :: ls) := by
  refine ⟨by simp [o.1], fun k s hk => ?_⟩
  cases k with
  | zero => cases hk; exact a
  | succ k => exact o.2 k s hk
theorem Rs.app {h g : Hm} {rs : List Nat} {ls : List (List Int)} (o : Rs h rs ls) : Rs (h ++ g) rs ls := ⟨o.1, fun k r hk => keep_app (o.2 k r hk)⟩
theorem Rs.len {h : Hm} {rs : List Nat} {ls : List (List Int)} (o : Rs h rs ls) : rs.length = ls.length := o.1
/-- [[one for one in each] for each in rows] -/
theorem copies {env : Ev} (hE : env.length = 18) {gs : List (Nat × O)} : ∀ (rs : List Nat) (ls : List (List Int)) (h : Hm), (∀ g : Hm, gdOk gs (h ++ g) = true) → Rs h rs ls → (∀ l ∈ ls, l.length ≤ 1000) → ∃ (g : Hm) (ss : List Nat), lcL gs (gN 17) tYesM (mLc [16] (mItA (mVar 17)) (gN 16) tYesM (mVar 16)) env (rs.map D.ref) h = .ok (ss.map D.ref) (h ++ g) ∧ Rs (h ++ g) ss ls
  | [], ls, h, hg, o, hl => by
    refine ⟨[], [], ?_, ?_⟩
    · rw [List.map_nil, lcL, if_pos (by simpa using hg [])]
      simp
    · have := o.1
      cases ls with
      | nil => exact ⟨rfl, fun k r hk => (by cases hk)⟩
      | cons a b => cases this
  | r :: rs, [], h, hg, o, hl => by
    have := o.1
    cases this
  | r :: rs, l :: ls, h, hg, o, hl => by
    obtain ⟨er, o2⟩ := o.cons
    have P : Pu (mLc [16] (mItA (mVar 17)) (gN 16) tYesM (mVar 16)) (env.set 17 (some (.ref r))) h (IsL (l.filterMap fun x => some (D.int x))) := by
      refine pu_lc (gs := [(r, .lst (l.map D.int))]) D.int (fun x => some (D.int x)) l (hl l List.mem_cons_self) ⟨[], ?_, ?_⟩ fun g0 k hk => ?_
      · rw [List.append_nil]
        exact itA_run (var_run (List.getElem?_set_self (by omega))) er
      · rw [List.append_nil]
        exact gdOk_one er
      · have v : ((wipeE (env.set 17 (some (.ref r))) [16]).set 16 (some (.int k)))[16]? = some (some (.int k)) := List.getElem?_set_self (by simp [wipeE, hE])
        have t : gN 16 (.int k) (wipeE (env.set 17 (some (.ref r))) [16]) (h ++ g0) = .next ((wipeE (env.set 17 (some (.ref r))) [16]).set 16 (some (.int k))) (h ++ g0) := rfl
        simp only [lcTurn, t, run_tyes]
        rw [var_run v]
    rw [show (l.filterMap fun x => some (D.int x)) = l.map D.int by rw [← List.filterMap_eq_map]; rfl] at P
    obtain ⟨x, g1, e1, s, rfl, q1⟩ := P
    obtain ⟨g2, ss, e2, o3⟩ := copies hE rs ls (h ++ g1) (fun g => by rw [List.append_assoc]; exact hg _) o2.app fun l hl' => hl l (List.mem_cons_of_mem _ hl')
    refine ⟨g1 ++ g2, s :: ss, ?_, ?_⟩
    · have tn : lcTurn (gN 17) tYesM (mLc [16] (mItA (mVar 17)) (gN 16) tYesM (mVar 16)) env (.ref r) h = .ok (some (.ref s)) (h ++ g1) := by
        have t : gN 17 (.ref r) env h = .next (env.set 17 (some (.ref r))) h := rfl
        simp only [lcTurn, t, run_tyes, e1]
      rw [List.map_cons, lcL_cons (by simpa using hg []) tn, e2, ← List.append_assoc]
      rfl
    · rw [← List.append_assoc]
      exact Rs.mk' (keep_app q1) o3
theorem flat_loop {h0 : Hm} {r : Nat} {all : List D} {x0 : Option D} : ∀ (rs : List Nat) (ls : List (List Int)) (h : Hm) (acc : List Int) (a : Nat) (x2 : Option D), h[r]? = some (.lst all) → Rs h rs ls → h[a]? = some (.lst (acc.map D.int)) → acc.length + ls.flatten.length ≤ 1000 →
    ∃ (y2 : Option D) (b : Nat) (g : Hm), forL [(r, .lst all)] (gN 2) l__law_flat_0 (rs.map D.ref) [x0, some (.ref a), x2] h = .next [x0, some (.ref b), y2] (h ++ g) ∧ (h ++ g)[b]? = some (.lst ((acc ++ ls.flatten).map D.int))
  | [], ls, h, acc, a, x2, er, o, ea, hn => by
    have : ls = [] := by
      have := o.1
      cases ls with
      | nil => rfl
      | cons a b => cases this
    subst this
    refine ⟨x2, a, [], ?_, ?_⟩
    · rw [List.append_nil]
      exact forL_nil (gdOk_one er)
    · rw [List.append_nil, List.flatten_nil, List.append_nil]
      exact ea
  | s :: rs, [], h, acc, a, x2, er, o, ea, hn => by
    have := o.1
    cases this
  | s :: rs, l :: ls, h, acc, a, x2, er, o, ea, hn => by
    obtain ⟨es, o2⟩ := o.cons
    rw [List.flatten_cons, List.length_append] at hn
    have add : fAdd (.ref a) (.ref s) h = .ok (.ref h.length) (h ++ [.lst ((acc ++ l).map D.int)]) := by
      unfold fAdd
      simp only [ea, es]
      rw [if_pos (by rw [List.length_map, List.length_map]; exact lim_le (by omega)), List.map_append]
    obtain ⟨y2, b, g, run, q⟩ := flat_loop (h0 := h0) (x0 := x0) rs ls (h ++ [.lst ((acc ++ l).map D.int)]) (acc ++ l) h.length (some (.ref s)) (keep_app er) o2.app get_new (by rw [List.length_append]; omega)
    refine ⟨y2, b, [.lst ((acc ++ l).map D.int)] ++ g, ?_, ?_⟩
    · rw [List.map_cons, ← List.append_assoc]
      refine forL_next (e1 := [x0, some (.ref a), some (.ref s)]) (e2 := [x0, some (.ref h.length), some (.ref s)]) (gdOk_one er) rfl ?_ run
      exact asg_run (m2_run (var_run rfl) (var_run rfl) add)
    · rw [← List.append_assoc, List.flatten_cons, ← List.append_assoc]
      exact q
theorem flat_ok {h : Hm} {r : Nat} {rs : List Nat} {ls : List (List Int)} (er : h[r]? = some (.lst (rs.map D.ref))) (o : Rs h rs ls) (hn : ls.flatten.length ≤ 1000) : ∃ z g, f__law_flat [.ref r] h = .ok z (h ++ g) ∧ IsL (ls.flatten.map D.int) (h ++ g) z := by
  obtain ⟨y2, b, g, run, q⟩ := flat_loop (h0 := h) (x0 := some (.ref r)) rs ls (h ++ [.lst []]) [] h.length none (keep_app er) o.app get_new (by simpa using hn)
  refine ⟨.ref b, [.lst []] ++ g, ?_, ⟨b, rfl, by rw [← List.append_assoc]; simpa using q⟩⟩
  rw [← List.append_assoc]
  refine call_ret f__law_flat_eq rfl ?_
  refine seq_next (e1 := [some (.ref r), some (.ref h.length), none]) (asg_run (lst_run nil_run)) ?_
  refine seq_next (for_run (itA_run (var_run rfl) (keep_app er)) run) ?_
  exact ret_run (var_run rfl)
theorem sort_ok {h : Hm} {d : D} {l : List Int} (e : IsL (l.map D.int) h d) : ∃ z g, fSortedI [d] h = .ok z (h ++ g) ∧ IsL ((sortI l).map D.int) (h ++ g) z := by
  obtain ⟨r, rfl, q⟩ := e
  refine ⟨.ref h.length, [.lst ((sortI l).map D.int)], ?_, ⟨_, rfl, get_new⟩⟩
  unfold fSortedI
  simp only [q, intsD_map]
theorem pu_meth {cn m : Str} {p : Nat} {fn : Fc} {mo : Ev → Hm → R D} {mr : Ev → Hm → R (List D)} {env : Ev} {h h1 : Hm} {d : D} {g : Hm} {P : Hm → D → Prop} (e : mMethF cn m p fn mo mr env h = .ok d (h ++ g)) (hp : P (h ++ g) d) : Pu (mMethF cn m p fn mo mr) env h P := ⟨d, g, e, hp⟩
/-- the rows of the law are those held -/
theorem check_ok {h : Hm} {env : Ev} {C W S R : Nat} {mem : List Int} {c : Ca} {rs : List Nat} (hE : env.length = 18) (e7 : env[7]? = some (some (.ref C))) (e9 : env[9]? = some (some (.ref R))) (o : CaOk h C W S mem c) (eR : h[R]? = some (.lst (rs.map D.ref))) (q : Rs h rs (numsOf c)) : Ps q_12 env h env := by
  have small : ∀ l ∈ numsOf c, l.length ≤ 2 := fun l hl => by
    unfold numsOf at hl
    rw [List.mem_map] at hl
    obtain ⟨w, hw, rfl⟩ := hl
    obtain ⟨k, hk, q⟩ := List.mem_iff_getElem.mp hw
    have := (o.P.row k w (by rw [List.getElem?_eq_getElem hk, q])).ln
    have := o.P.wy
    rw [List.length_map]
    omega
  have nl : (numsOf c).length ≤ 4 := by unfold numsOf; rw [List.length_map]; have := o.P.sets; omega
  have fl : (numsOf c).flatten.length ≤ 1000 := by
    have : ∀ (ls : List (List Int)), (∀ l ∈ ls, l.length ≤ 2) → ls.flatten.length ≤ 2 * ls.length := by
      intro ls
      induction ls with
      | nil => intro _; simp
      | cons a b ih =>
        intro hh
        rw [List.flatten_cons, List.length_append, List.length_cons]
        have := hh a List.mem_cons_self
        have := ih fun l hl => hh l (List.mem_cons_of_mem _ hl)
        omega
    have := this _ small
    omega
  unfold q_12
  refine ps_no (pt_neL (l := sortI (numsOf c).flatten) (pu_listT ?_) fun g1 => ?_)
  · obtain ⟨g, e⟩ := held_ok o
    exact ⟨_, g, (meth_run (var_run e7) o.H.hC rfl nil_run rfl).trans e, rfl⟩
  · refine pu_fn1 (P := IsL ((numsOf c).flatten.map D.int)) ?_ fun h x e => sort_ok e
    -- the copies, one after another
    have wl : (wipeE env [17]).length = 18 := by simp [wipeE, hE]
    obtain ⟨g2, ss, e2, o2⟩ := copies wl (gs := [(R, .lst (rs.map D.ref))]) rs (numsOf c) (h ++ g1) (fun g => gdOk_one (keep_app (keep_app eR))) q.app fun l hl => Nat.le_trans (small l hl) (by decide)
    have L := lc_run (vs := [17]) (env := env) (it := (rs.map D.ref, [(R, .lst (rs.map D.ref))])) (itA_run (var_run e9) (keep_app eR)) (by rw [List.length_map, q.1]; omega) e2
    obtain ⟨z, g3, e3, q3⟩ := flat_ok (h := h ++ g1 ++ g2 ++ [O.lst (ss.map D.ref)]) get_new o2.app fl
    refine ⟨z, g2 ++ [O.lst (ss.map D.ref)] ++ g3, ?_, ?_⟩
    · rw [show h ++ g1 ++ (g2 ++ [O.lst (ss.map D.ref)] ++ g3) = h ++ g1 ++ g2 ++ [O.lst (ss.map D.ref)] ++ g3 by simp]
      exact callF_run (cons_run L nil_run) e3
    · rw [show h ++ g1 ++ (g2 ++ [O.lst (ss.map D.ref)] ++ g3) = h ++ g1 ++ g2 ++ [O.lst (ss.map D.ref)] ++ g3 by simp]
      exact q3
theorem filter_len {l : List Int} (hn : l.Nodup) (x : Int) : (l.filter fun y => !decide (y = x)).length + (if x ∈ l then 1 else 0) = l.length := by
  induction l with
  | nil => simp
  | cons a l ih =>
    rw [List.nodup_cons] at hn
    have ih := ih hn.2
    by_cases c : a = x
    · subst c
      simp only [List.filter_cons, decide_true, Bool.not_true, Bool.false_eq_true, if_false, List.mem_cons, true_or, if_true, List.length_cons]
      rw [if_neg hn.1] at ih
      omega
    · have c2 : ¬ x = a := fun z => c z.symm
      simp only [List.filter_cons, decide_eq_false c, Bool.not_false, if_true, List.mem_cons, c2, false_or, List.length_cons]
      omega
theorem step_len {w : Int} {nums : List Int} {x : Int} (hn : nums.Nodup) (hl : (nums.length : Int) ≤ w) (hw : 1 ≤ w) : stepN w nums x = (if w < ((nums.filter (fun y => !decide (y = x)) ++ [x]).length : Int) then (nums.filter (fun y => !decide (y = x)) ++ [x]).drop (((nums.filter (fun y => !decide (y = x)) ++ [x]).length : Int) - w).toNat else nums.filter (fun y => !decide (y = x)) ++ [x]) := by
  have fl := filter_len hn x
  unfold stepN
  by_cases c : x ∈ nums
  · rw [if_pos c] at fl ⊢
    rw [if_neg (by rw [List.length_append]; simp only [List.length_cons, List.length_nil]; omega)]
  · rw [if_neg c, filt_out c]
    by_cases d : (nums.length : Int) = w
    · rw [if_pos d, if_pos (by rw [List.length_append]; simp only [List.length_cons, List.length_nil]; omega), show (((nums ++ [x]).length : Int) - w).toNat = 1 by rw [List.length_append]; simp only [List.length_cons, List.length_nil]; omega, List.drop_append_of_le_length (by omega)]
    · rw [if_neg d, if_neg (by rw [List.length_append]; simp only [List.length_cons, List.length_nil]; omega)]
structure Fx where
  hb : Hm
  i : Nat
  M : Nat
  C : Nat
  W : Nat
  S : Nat
  V : Nat
  T : Nat
  U : Nat
  W2 : Nat
  S2 : Nat
  R : Nat
structure St where
  mm : List Int
  mc : List Int
  ml : List Int
  c : Ca
  rws : List (Nat × List Int)
  c2 : Ca
  refs : List Nat
  nums : List (List Int)
def XL (x : Fx) (s : St) : List Nat := x.M :: x.R :: (cref x.C x.W x.S s.c.rows ++ lref x.V x.T x.U x.W2 x.S2 s.rws s.c2)
structure LI (x : Fx) (h : Hm) (s : St) : Prop where
  d : IsDice h x.i
  f : Fr x.i x.hb h
  bi : x.i < x.hb.length
  hM : h[x.M]? = some (.lst (s.mm.map D.int))
  ml : s.mm.length = 32
  hR : h[x.R]? = some (.lst (s.refs.map D.ref))
  rf : Rs h s.refs s.nums
  ca : CaOk h x.C x.W x.S s.mc s.c
  lv : LvOk h x.V x.T x.U x.W2 x.S2 s.ml s.rws s.c2
  nd : (XL x s).Nodup
  ge : ∀ y ∈ XL x s, x.hb.length ≤ y
  rx : ∀ r ∈ s.refs, r ∉ XL x s ∧ x.hb.length ≤ r
theorem LI.ne {x : Fx} {h : Hm} {s : St} (l : LI x h s) : x.M ≠ x.R ∧ (∀ y ∈ cref x.C x.W x.S s.c.rows, y ≠ x.M ∧ y ≠ x.R ∧ y ∉ lref x.V x.T x.U x.W2 x.S2 s.rws s.c2) ∧ ∀ y ∈ lref x.V x.T x.U x.W2 x.S2 s.rws s.c2, y ≠ x.M ∧ y ≠ x.R := by
  have n := l.nd
  unfold XL at n
  rw [List.nodup_cons, List.nodup_cons, List.nodup_append] at n
  simp only [List.mem_cons, List.mem_append, not_or] at n
  exact ⟨n.1.1, fun y hy => ⟨fun z => n.1.2.1 (z ▸ hy), fun z => n.2.1.1 (z ▸ hy), fun z => n.2.2.2.2 y hy y z rfl⟩, fun y hy => ⟨fun z => n.1.2.2 (z ▸ hy), fun z => n.2.1.2 (z ▸ hy)⟩⟩
theorem LI.xi {x : Fx} {h : Hm} {s : St} (l : LI x h s) : x.i ∉ XL x s := fun z => by
  have := l.ge _ z
  have := l.bi
  omega
theorem LI.ri {x : Fx} {h : Hm} {s : St} (l : LI x h s) : ∀ r ∈ s.refs, r ≠ x.i ∧ r ≠ x.M ∧ r ≠ x.R ∧ r ∉ cref x.C x.W x.S s.c.rows ∧ r ∉ lref x.V x.T x.U x.W2 x.S2 s.rws s.c2 := fun r hr => by
  obtain ⟨a, b⟩ := l.rx r hr
  have := l.bi
  unfold XL at a
  simp only [List.mem_cons, List.mem_append, not_or] at a
  exact ⟨by omega, a.1, a.2.1, a.2.2.1, a.2.2.2⟩
theorem mem_get {α : Type} {l : List α} {k : Nat} {a : α} (h : l[k]? = some a) : a ∈ l := List.mem_of_getElem? h
theorem XL_lt {x : Fx} {h : Hm} {s : St} (l : LI x h s) : ∀ y ∈ XL x s, y < h.length := fun y hy => by
  unfold XL at hy
  simp only [List.mem_cons, List.mem_append] at hy
  rcases hy with rfl | rfl | hy | hy
  · exact get_lt l.hM
  · exact get_lt l.hR
  · exact cref_lt l.ca.H y hy
  · exact lref_lt l.lv y hy
/-- nothing of the law's is touched but the dice -/
theorem LI.roll {x : Fx} {h : Hm} {s : St} (l : LI x h s) {many : Int} (h1 : 0 < many) (h2 : many < 1000000) : ∃ v h', 0 ≤ v ∧ v < many ∧ f__law_roll [.ref x.i, .int many] h = .ok (.int v) h' ∧ LI x h' s := by
  obtain ⟨v, h', v1, v2, rn, d', l', f'⟩ := roll_fr l.d h1 (by omega)
  have k := f'.kl
  have xi := l.xi
  have fx : ∀ y ∈ XL x s, y ∉ [x.i] := fun y hy => by rw [List.mem_singleton]; exact fun z => xi (z ▸ hy)
  refine ⟨v, h', v1, v2, rn, d', fr_kl l.f k (fun y hy => .inl (by simpa using hy)), l.bi, k.get l.hM (fx _ (by simp [XL])), l.ml, k.get l.hR (fx _ (by simp [XL])), ⟨l.rf.1, fun j r hj => k.get (l.rf.2 j r hj) (by simpa using (l.ri r (mem_get hj)).1)⟩, ⟨l.ca.H.kl k fun y hy => fx y (by simp [XL, hy]), l.ca.P⟩, l.lv.kl k fun y hy => fx y (by simp [XL, hy]), l.nd, l.ge, l.rx⟩
theorem LI.app {x : Fx} {h g : Hm} {s : St} (l : LI x h s) : LI x (h ++ g) s := by
  have k : KL [] h (h ++ g) := KL.app
  exact ⟨l.d.app, fr_kl l.f k (by simp), l.bi, keep_app l.hM, l.ml, keep_app l.hR, l.rf.app, ⟨l.ca.H.kl k (by simp), l.ca.P⟩, l.lv.kl k (by simp), l.nd, l.ge, l.rx⟩
theorem LI.row {x : Fx} {h : Hm} {s : St} (l : LI x h s) {k r' : Nat} {ns : List Int} (e : h[r']? = some (.lst (ns.map D.int))) (n : r' ∉ XL x s ∧ x.hb.length ≤ r') (hk : k < s.refs.length) : LI x (h.set x.R (.lst ((s.refs.set k r').map D.ref))) { s with refs := s.refs.set k r', nums := s.nums.set k ns } := by
  have kk : KL [x.R] h (h.set x.R (.lst ((s.refs.set k r').map D.ref))) := KL.set (by simp)
  obtain ⟨n1, n2, n3⟩ := l.ne
  have rR : r' ≠ x.R := fun z => n.1 (by rw [z]; simp [XL])
  have iR : x.i ≠ x.R := fun z => l.xi (by rw [z]; simp [XL])
  refine ⟨IsDice.kl l.d kk (by simpa using iR), fr_kl l.f kk (fun y hy => .inr (by rw [List.mem_singleton] at hy; rw [hy]; exact l.ge _ (by simp [XL]))), l.bi, kk.get l.hM (by simpa using n1), l.ml, List.getElem?_set_self (get_lt l.hR), ?_, ⟨l.ca.H.kl kk fun y hy => by simpa using (n2 y hy).2.1, l.ca.P⟩, l.lv.kl kk fun y hy => by simpa using (n3 y hy).2, l.nd, l.ge, ?_⟩
  · refine ⟨by simp [l.rf.1], fun j r hj => ?_⟩
    rw [List.getElem?_set] at hj
    by_cases c : k = j
    · subst c
      rw [if_pos rfl, if_pos hk] at hj
      cases hj
      rw [List.getD_eq_getElem?_getD, List.getElem?_set_self (by rw [← l.rf.1]; exact hk)]
      exact kk.get e (by simpa using rR)
    · rw [if_neg c] at hj
      rw [List.getD_eq_getElem?_getD, List.getElem?_set_ne c, ← List.getD_eq_getElem?_getD]
      exact kk.get (l.rf.2 j r hj) (by simpa using (l.ri r (mem_get hj)).2.2.1)
  · intro r hr
    rcases List.mem_or_eq_of_mem_set hr with m | m
    · exact l.rx r m
    · subst m
      exact n
theorem LI.word {x : Fx} {h : Hm} {s : St} (l : LI x h s) {k : Nat} {v : Int} : LI x (h.set x.M (.lst ((s.mm.set k v).map D.int))) { s with mm := s.mm.set k v } := by
  have kk : KL [x.M] h (h.set x.M (.lst ((s.mm.set k v).map D.int))) := KL.set (by simp)
  obtain ⟨n1, n2, n3⟩ := l.ne
  have iM : x.i ≠ x.M := fun z => l.xi (by rw [z]; simp [XL])
  exact ⟨IsDice.kl l.d kk (by simpa using iM), fr_kl l.f kk (fun y hy => .inr (by rw [List.mem_singleton] at hy; rw [hy]; exact l.ge _ (by simp [XL]))), l.bi, List.getElem?_set_self (get_lt l.hM), by rw [List.length_set]; exact l.ml, kk.get l.hR (by simpa using fun z => n1 z.symm), ⟨l.rf.1, fun j r hj => kk.get (l.rf.2 j r hj) (by simpa using (l.ri r (mem_get hj)).2.1)⟩, ⟨l.ca.H.kl kk fun y hy => by simpa using (n2 y hy).1, l.ca.P⟩, l.lv.kl kk fun y hy => by simpa using (n3 y hy).1, l.nd, l.ge, l.rx⟩
theorem LI.cache {x : Fx} {h h' : Hm} {s : St} (l : LI x h s) {mem' : List Int} {c' : Ca} (ok : CaOk h' x.C x.W x.S mem' c') (k : KL (cref x.C x.W x.S s.c.rows) h h') (g : Grow h.length (cref x.C x.W x.S s.c.rows) (cref x.C x.W x.S c'.rows)) : LI x h' { s with mc := mem', c := c' } := by
  obtain ⟨n1, n2, n3⟩ := l.ne
  have lt := XL_lt l
  have gX : ∀ y ∈ cref x.C x.W x.S s.c.rows, y ∈ XL x s := fun y hy => by simp [XL, hy]
  have hM : x.M ∉ cref x.C x.W x.S s.c.rows := fun z => (n2 _ z).1 rfl
  have hR : x.R ∉ cref x.C x.W x.S s.c.rows := fun z => (n2 _ z).2.1 rfl
  have hl : x.hb.length ≤ h.length := l.f.1
  refine ⟨IsDice.kl l.d k fun z => l.xi (gX _ z), fr_kl l.f k (fun y hy => .inr (l.ge y (gX y hy))), l.bi, k.get l.hM hM, l.ml, k.get l.hR hR, ⟨l.rf.1, fun j r hj => k.get (l.rf.2 j r hj) (l.ri r (mem_get hj)).2.2.2.1⟩, ok, l.lv.kl k fun y hy z => (n2 y z).2.2 hy, ?_, ?_, ?_⟩
  · have n := l.nd
    unfold XL at n ⊢
    rw [List.nodup_cons, List.nodup_cons, List.nodup_append] at n ⊢
    simp only [List.mem_cons, List.mem_append, not_or] at n ⊢
    refine ⟨⟨n1, fun z => ?_, n.1.2.2⟩, ⟨fun z => ?_, n.2.1.2⟩, ok.H.nd, n.2.2.2.1, fun y hy z hz q => ?_⟩
    · rcases g _ z with m | m
      · exact hM m
      · have := get_lt l.hM; omega
    · rcases g _ z with m | m
      · exact hR m
      · have := get_lt l.hR; omega
    · subst q
      rcases g _ hy with m | m
      · exact (n2 y m).2.2 hz
      · have := lref_lt l.lv y hz; omega
  · intro y hy
    unfold XL at hy
    simp only [List.mem_cons, List.mem_append] at hy
    rcases hy with rfl | rfl | hy | hy
    · exact l.ge _ (by simp [XL])
    · exact l.ge _ (by simp [XL])
    · rcases g _ hy with m | m
      · exact l.ge _ (gX _ m)
      · omega
    · exact l.ge _ (by unfold XL; simp only [List.mem_cons, List.mem_append]; exact .inr (.inr (.inr hy)))
  · intro r hr
    have hr : r ∈ s.refs := hr
    obtain ⟨a1, a2, a3, a4, a5⟩ := l.ri r hr
    refine ⟨fun z => ?_, (l.rx r hr).2⟩
    unfold XL at z
    simp only [List.mem_cons, List.mem_append] at z
    rcases z with z | z | z | z
    · exact a2 z
    · exact a3 z
    · rcases g _ z with m | m
      · exact a4 m
      · obtain ⟨j, hj, q⟩ := List.mem_iff_getElem.mp hr
        have := get_lt (l.rf.2 j r (by rw [List.getElem?_eq_getElem hj, q]))
        omega
    · exact a5 z
theorem LI.lev {x : Fx} {h h' : Hm} {s : St} (l : LI x h s) {mem' : List Int} {rws' : List (Nat × List Int)} {c' : Ca} (af : LvAft x.V x.T x.U x.W2 x.S2 mem' s.rws s.c2 h h' rws' c') : LI x h' { s with ml := mem', rws := rws', c2 := c' } := by
  obtain ⟨n1, n2, n3⟩ := l.ne
  have k := af.kl
  have g := af.grow
  have gX : ∀ y ∈ lref x.V x.T x.U x.W2 x.S2 s.rws s.c2, y ∈ XL x s := fun y hy => by simp [XL, hy]
  have hM : x.M ∉ lref x.V x.T x.U x.W2 x.S2 s.rws s.c2 := fun z => (n3 _ z).1 rfl
  have hR : x.R ∉ lref x.V x.T x.U x.W2 x.S2 s.rws s.c2 := fun z => (n3 _ z).2 rfl
  have hl : x.hb.length ≤ h.length := l.f.1
  refine ⟨IsDice.kl l.d k fun z => l.xi (gX _ z), fr_kl l.f k (fun y hy => .inr (l.ge y (gX y hy))), l.bi, k.get l.hM hM, l.ml, k.get l.hR hR, ⟨l.rf.1, fun j r hj => k.get (l.rf.2 j r hj) (l.ri r (mem_get hj)).2.2.2.2⟩, ⟨l.ca.H.kl k fun y hy z => (n2 y hy).2.2 z, l.ca.P⟩, af.ok, ?_, ?_, ?_⟩
  · have n := l.nd
    unfold XL at n ⊢
    rw [List.nodup_cons, List.nodup_cons, List.nodup_append] at n ⊢
    simp only [List.mem_cons, List.mem_append, not_or] at n ⊢
    refine ⟨⟨n1, n.1.2.1, fun z => ?_⟩, ⟨n.2.1.1, fun z => ?_⟩, n.2.2.1, af.ok.nd, fun y hy z hz q => ?_⟩
    · rcases g _ z with m | m
      · exact hM m
      · have := get_lt l.hM; omega
    · rcases g _ z with m | m
      · exact hR m
      · have := get_lt l.hR; omega
    · subst q
      rcases g _ hz with m | m
      · exact (n2 y hy).2.2 m
      · have := cref_lt l.ca.H y hy; omega
  · intro y hy
    unfold XL at hy
    simp only [List.mem_cons, List.mem_append] at hy
    rcases hy with rfl | rfl | hy | hy
    · exact l.ge _ (by simp [XL])
    · exact l.ge _ (by simp [XL])
    · exact l.ge _ (by unfold XL; simp only [List.mem_cons, List.mem_append]; exact .inr (.inr (.inl hy)))
    · rcases g _ hy with m | m
      · exact l.ge _ (gX _ m)
      · omega
  · intro r hr
    have hr : r ∈ s.refs := hr
    obtain ⟨a1, a2, a3, a4, a5⟩ := l.ri r hr
    refine ⟨fun z => ?_, (l.rx r hr).2⟩
    unfold XL at z
    simp only [List.mem_cons, List.mem_append] at z
    rcases z with z | z | z | z
    · exact a2 z
    · exact a3 z
    · exact a4 z
    · rcases g _ z with m | m
      · exact a5 m
      · obtain ⟨j, hj, q⟩ := List.mem_iff_getElem.mp hr
        have := get_lt (l.rf.2 j r (by rw [List.getElem?_eq_getElem hj, q]))
        omega
abbrev EV (d : D) (x : Fx) (sets ways long : Int) (thr : Bool) (hits count : Int) (x12 x13 x14 x15 x16 x17 : Option D) : Ev := [some d, some (.ref x.i), some (.int sets), some (.int ways), some (.int long), some (.bl thr), some (.ref x.M), some (.ref x.C), some (.ref x.V), some (.ref x.R), some (.int hits), some (.int count), x12, x13, x14, x15, x16, x17]
structure Lk (s : St) (sets ways long : Int) (thr : Bool) (hits n : Int) : Prop where
  mc : s.mc = s.mm
  ml : s.ml = s.mm
  nums : s.nums = numsOf s.c
  sets : sets = (s.c.rows.length : Int)
  ways : s.c.ways = ways
  long : s.c.long = long
  thr : s.c.thr = thr
  hits' : s.c.hits = hits
  misses : s.c.misses = n - hits
def Moved (c : Ca) (n : Int) (c' : Ca) : Prop := (c'.ways = c.ways ∧ c'.long = c.long ∧ c'.thr = c.thr ∧ c'.rows.length = c.rows.length) ∧
  numsOf c' = (numsOf c).set (n % (c.rows.length : Int)).toNat (stepN c.ways ((numsOf c).getD (n % (c.rows.length : Int)).toNat []) n) ∧
  c'.hits = c.hits + (if n ∈ (numsOf c).getD (n % (c.rows.length : Int)).toNat [] then 1 else 0) ∧ c'.misses = c.misses + (if n ∈ (numsOf c).getD (n % (c.rows.length : Int)).toNat [] then 0 else 1)
theorem After.moved {C W S : Nat} {mem' : List Int} {c c' : Ca} {n : Int} {h h' : Hm} (a : After C W S mem' c n h h' c') : Moved c n c' := ⟨a.same, a.nums, a.hits, a.misses⟩
theorem thr_ws {mem : List Int} {c : Ca} (P : CaW mem c) (t : c.thr = true) : c.ws = mem := ws_mem P (P.through t).2
section
variable {d : D} {x : Fx} {sets ways long : Int} {thr : Bool} {hits count : Int} {x12 x13 x14 x15 x16 x17 : Option D} {h : Hm} {s : St}
theorem deed (l : LI x h s) (e1 : s.mc = s.mm) (e2 : s.ml = s.mm) (et : s.c.thr = thr) {a : Int} (h0 : 0 ≤ a) (h32 : a < 32) :
    ∃ h' s', q_11 (EV d x sets ways long thr hits count x12 (some (.int a)) x14 x15 x16 x17) h = .next (EV d x sets ways long thr hits count x12 (some (.int a)) x14 x15 x16 x17) h' ∧ LI x h' s' ∧ s'.refs = s.refs ∧ s'.nums = s.nums ∧ s'.mc = s'.mm ∧ s'.ml = s'.mm ∧ Moved s.c (a / s.c.long) s'.c := by
  obtain ⟨u, h1, u0, u2, r1, l1⟩ := l.roll (many := 2) (by decide) (by decide)
  unfold q_11
  have tst : mBool (m2 fEq (mCallF 2 f__law_roll (mCons (mVar 1) (mCons (mC (.int 2)) mNil))) (mC (.int 0))) (EV d x sets ways long thr hits count x12 (some (.int a)) x14 x15 x16 x17) h = .ok (decide (u = 0)) h1 := bool_run (m2_run (callF_run (cons_run (var_run rfl) (cons_run c_run nil_run)) r1) c_run (fEq_k rfl))
  have al : a.toNat < 32 := by omega
  by_cases c : u = 0
  · rw [decide_eq_true c] at tst
    obtain ⟨v, h2, v0, v9, r2, l2⟩ := l1.roll (many := 99) (by decide) (by decide)
    obtain ⟨mm, hmm⟩ : ∃ mm, mm = s.mm.set a.toNat v := ⟨_, rfl⟩
    obtain ⟨h3, hh3⟩ : ∃ h3, h3 = h2.set x.M (.lst (mm.map D.int)) := ⟨_, rfl⟩
    have l3 : LI x h3 { s with mm := mm } := by rw [hh3, hmm]; exact l2.word
    have S0 : t_law_0 (EV d x sets ways long thr hits count x12 (some (.int a)) x14 x15 x16 x17) h1 = .next (EV d x sets ways long thr hits count x12 (some (.int a)) x14 x15 x16 x17) h3 := by
      unfold t_law_0
      rw [hh3, hmm, List.map_set]
      exact sub_run (callF_run (cons_run (var_run rfl) (cons_run c_run nil_run)) r2) (var_run rfl) (var_run rfl) (fSet_int l2.hM h0 (by rw [List.length_map, l2.ml]; exact al))
    have mg : mm.getD a.toNat 0 = v := by rw [hmm, getD_set (by rw [l.ml]; exact al), if_pos rfl]
    have mml : mm.length = 32 := by rw [hmm, List.length_set]; exact l.ml
    have ix3 := ix_get l3.hM h0 (by show a < (mm.length : Int); rw [mml]; exact h32)
    rw [show ({ s with mm := mm } : St).mm = mm from rfl, mg] at ix3
    obtain ⟨h4, c4, run4, a4⟩ := store_ok (x := v) l3.ca h0 h32
    have l4 := l3.cache a4.ok a4.kl a4.grow
    have em : s.mc.set a.toNat v = mm := by rw [e1, hmm]
    have S1 : t_law_1 (EV d x sets ways long thr hits count x12 (some (.int a)) x14 x15 x16 x17) h3 = .next (EV d x sets ways long thr hits count x12 (some (.int a)) x14 x15 x16 x17) h4 := by
      unfold t_law_1
      exact drop_run ((meth_run (var_run rfl) l3.ca.H.hC rfl (cons_run (var_run rfl) (cons_run (m2_run (var_run rfl) (var_run rfl) ix3) nil_run)) rfl).trans run4)
    have ix4 := ix_get l4.hM h0 (by show a < (mm.length : Int); rw [mml]; exact h32)
    rw [show mm.getD a.toNat 0 = v from mg] at ix4
    obtain ⟨h5, rws5, c5, run5, a5⟩ := lvstore_ok (x := v) l4.lv h0 h32
    have l5 := l4.lev a5
    obtain ⟨p, q, hV⟩ := l4.lv.hV
    have S2 : t_law_2 (EV d x sets ways long thr hits count x12 (some (.int a)) x14 x15 x16 x17) h4 = .next (EV d x sets ways long thr hits count x12 (some (.int a)) x14 x15 x16 x17) h5 := by
      unfold t_law_2
      exact drop_run ((meth_run (var_run rfl) hV rfl (cons_run (var_run rfl) (cons_run (m2_run (var_run rfl) (var_run rfl) ix4) nil_run)) rfl).trans run5)
    have ix5 := ix_get l5.hM h0 (by show a < (mm.length : Int); rw [mml]; exact h32)
    rw [show mm.getD a.toNat 0 = v from mg] at ix5
    have S3 : t_law_3 (EV d x sets ways long thr hits count x12 (some (.int a)) x14 x15 x16 x17) h5 = .next (EV d x sets ways long thr hits count x12 (some (.int a)) x14 x15 x16 x17) h5 := by
      unfold t_law_3
      refine if_no ?_
      cases ht : thr with
      | false => exact and_no (tru_run (var_run rfl))
      | true =>
        refine and_run (tru_run (var_run rfl)) (bool_run (m2_run (m2_run (fld_run (var_run rfl) l5.ca.H.hC (by decide) lk_words) (var_run rfl) (ix_get l5.ca.H.hW h0 (by rw [l5.ca.P.wl]; exact h32))) (m2_run (var_run rfl) (var_run rfl) ix5) (fNe_k ?_)))
        have t4 : c4.thr = true := by rw [a4.same.2.2.1]; show s.c.thr = true; rw [et, ht]
        have := thr_ws l5.ca.P t4
        show c4.ws.getD a.toNat 0 = v
        rw [show c4.ws = s.mc.set a.toNat v from this, em, mg]
    refine ⟨h5, _, if_t tst (seq_next S0 (seq_next S1 (seq_next S2 S3))), l5, rfl, rfl, em, ?_, a4.moved⟩
    show s.ml.set a.toNat v = mm
    rw [e2, hmm]
  · rw [decide_eq_false c] at tst
    have ix1 := ix_get l1.hM h0 (by rw [l1.ml]; exact h32)
    obtain ⟨h2, c2, run2, a2⟩ := load_ok l1.ca h0 h32
    have l2 := l1.cache a2.ok a2.kl a2.grow
    have ix2 := ix_get l2.hM h0 (by rw [l2.ml]; exact h32)
    obtain ⟨h3, rws3, c3, run3, a3⟩ := lvload_ok l2.lv h0 h32
    have l3 := l2.lev a3
    have ix3 := ix_get l3.hM h0 (by rw [l3.ml]; exact h32)
    obtain ⟨p, q, hV⟩ := l2.lv.hV
    refine ⟨h3, _, if_f tst ?_, l3, rfl, rfl, e1, e2, a2.moved⟩
    unfold t_law_4
    refine if_no (or_run (bool_run (m2_run ((meth_run (var_run rfl) l1.ca.H.hC rfl (cons_run (var_run rfl) nil_run) rfl).trans run2) (m2_run (var_run rfl) (var_run rfl) ix2) (fNe_k ?_))) (bool_run (m2_run ((meth_run (var_run rfl) hV rfl (cons_run (var_run rfl) nil_run) rfl).trans run3) (m2_run (var_run rfl) (var_run rfl) ix3) (fNe_k ?_))))
    · show s.mc.getD a.toNat 0 = s.mm.getD a.toNat 0
      rw [e1]
    · show s.ml.getD a.toNat 0 = s.mm.getD a.toNat 0
      rw [e2]
theorem turn (l : LI x h s) {n : Int} (k : Lk s sets ways long thr hits n) : ∃ y13 y14 y15 hits' h' s', l_law_0 (EV d x sets ways long thr hits count x12 x13 x14 x15 x16 x17) h = .next (EV d x sets ways long thr hits' count x12 y13 y14 y15 x16 x17) h' ∧ LI x h' s' ∧ Lk s' sets ways long thr hits' (n + 1) := by
  obtain ⟨a, h1, h0, h32, r1, l1⟩ := l.roll (many := 32) (by decide) (by decide)
  have lb := l3b l1.ca.P.l3
  rw [k.long] at lb
  obtain ⟨x0, xh⟩ : ∃ x0, x0 = a / long := ⟨_, rfl⟩
  have sp : 0 < sets := by have := l.ca.P.sets; have := k.sets; omega
  have k0 := Int.emod_nonneg x0 (show sets ≠ 0 by omega)
  have k1 := Int.emod_lt_of_pos x0 sp
  have nl : s.nums.length = s.c.rows.length := by rw [k.nums]; unfold numsOf; rw [List.length_map]
  have rl : s.refs.length = s.c.rows.length := by rw [l.rf.1, nl]
  obtain ⟨kk, hk⟩ : ∃ kk : Nat, kk = (x0 % sets).toNat := ⟨_, rfl⟩
  have kl : kk < s.refs.length := by have := k.sets; omega
  obtain ⟨r, hr⟩ : ∃ r, s.refs[kk]? = some r := ⟨_, List.getElem?_eq_getElem kl⟩
  obtain ⟨ns, hns⟩ : ∃ ns, ns = s.nums.getD kk [] := ⟨_, rfl⟩
  have er := l1.rf.2 kk r hr
  rw [← hns] at er
  -- the row's laws
  obtain ⟨w, hw⟩ : ∃ w, s.c.rows[kk]? = some w := ⟨_, List.getElem?_eq_getElem (by omega)⟩
  have nsw : ns = w.ls.map (·.num) := by
    rw [hns, k.nums]
    unfold numsOf
    rw [List.getD_eq_getElem?_getD, List.getElem?_map, hw]
    rfl
  have rW := l.ca.P.row kk w hw
  have nnd : ns.Nodup := by rw [nsw]; exact rW.nd
  have nln : (ns.length : Int) ≤ ways := by rw [nsw, List.length_map, ← k.ways]; exact rW.ln
  have wy := l.ca.P.wy
  rw [k.ways] at wy
  have S5 : q_5 (EV d x sets ways long thr hits count x12 x13 x14 x15 x16 x17) h = .next (EV d x sets ways long thr hits count x12 (some (.int a)) x14 x15 x16 x17) h1 := asg_run (callF_run (cons_run (var_run rfl) (cons_run c_run nil_run)) r1)
  have S6 : q_6 (EV d x sets ways long thr hits count x12 (some (.int a)) x14 x15 x16 x17) h1 = .next (EV d x sets ways long thr hits count x12 (some (.int a)) (some (.int x0)) x15 x16 x17) h1 := by
    rw [xh]
    exact asg_run (m2_run (var_run rfl) (var_run rfl) (fd lb.2.2 lb.2.1))
  have S7 : q_7 (EV d x sets ways long thr hits count x12 (some (.int a)) (some (.int x0)) x15 x16 x17) h1 = .next (EV d x sets ways long thr hits count x12 (some (.int a)) (some (.int x0)) (some (.ref r)) x16 x17) h1 := by
    refine asg_run (m2_run (var_run rfl) (m2_run (var_run rfl) (var_run rfl) (fm sp)) (fIx_int l1.hR k0 ?_))
    rw [List.getElem?_map, ← hk, hr]
    rfl
  obtain ⟨hits', hh'⟩ : ∃ hits', hits' = hits + (if x0 ∈ ns then 1 else 0) := ⟨_, rfl⟩
  have S8 : q_8 (EV d x sets ways long thr hits count x12 (some (.int a)) (some (.int x0)) (some (.ref r)) x16 x17) h1 = .next (EV d x sets ways long thr hits' count x12 (some (.int a)) (some (.int x0)) (some (.ref r)) x16 x17) h1 := by
    rw [hh']
    refine asg_run (m2_run (var_run rfl) (call_run (cons_run (m2_run (var_run rfl) (var_run rfl) (fIn_f er x0)) nil_run) fInt_b) ?_)
    rw [fAdd_i]
    by_cases c : x0 ∈ ns
    · rw [if_pos c, decide_eq_true c]
      rfl
    · rw [if_neg c, decide_eq_false c]
      rfl
  -- the row anew
  obtain ⟨fl, hfl⟩ : ∃ fl, fl = ns.filter fun y => !decide (y = x0) := ⟨_, rfl⟩
  have fle : fl.length ≤ ns.length := by rw [hfl]; exact List.length_filter_le _ _
  obtain ⟨h2, hh2⟩ : ∃ h2 : Hm, h2 = h1 ++ [.lst (fl.map D.int)] ++ [.lst [.int x0]] := ⟨_, rfl⟩
  obtain ⟨h3, hh3⟩ : ∃ h3 : Hm, h3 = h2 ++ [.lst ((fl ++ [x0]).map D.int)] := ⟨_, rfl⟩
  have S9 : q_9 (EV d x sets ways long thr hits' count x12 (some (.int a)) (some (.int x0)) (some (.ref r)) x16 x17) h1 = .next (EV d x sets ways long thr hits' count x12 (some (.int a)) (some (.int x0)) (some (.ref h2.length)) x16 x17) h3 := by
    have T := lcL_pure (gs := [(r, .lst (ns.map D.int))]) (g := gN 16) (t := mBool (m2 fNe (mVar 16) (mVar 14))) (e := mVar 16) (env := EV d x sets ways long thr hits' count x12 (some (.int a)) (some (.int x0)) (some (.ref r)) none x17) (h := h1) (gdOk_one er) D.int (fun y => if y = x0 then none else some (.int y)) ns fun y _ => by
      have t : gN 16 (.int y) (EV d x sets ways long thr hits' count x12 (some (.int a)) (some (.int x0)) (some (.ref r)) none x17) h1 = .next (EV d x sets ways long thr hits' count x12 (some (.int a)) (some (.int x0)) (some (.ref r)) (some (.int y)) x17) h1 := rfl
      have tt : mBool (m2 fNe (mVar 16) (mVar 14)) (EV d x sets ways long thr hits' count x12 (some (.int a)) (some (.int x0)) (some (.ref r)) (some (.int y)) x17) h1 = .ok (!decide (y = x0)) h1 := bool_run (m2_run (var_run rfl) (var_run rfl) (by rw [fNe_i]))
      have t3 : mVar 16 (EV d x sets ways long thr hits' count x12 (some (.int a)) (some (.int x0)) (some (.ref r)) (some (.int y)) x17) h1 = .ok (.int y) h1 := rfl
      simp only [lcTurn, t, tt]
      by_cases c : y = x0
      · rw [decide_eq_true c, if_pos c]
        rfl
      · rw [decide_eq_false c, if_neg c]
        simp only [Bool.not_false, t3]
    have fm' : ns.filterMap (fun y => if y = x0 then none else some (D.int y)) = fl.map D.int := by
      rw [hfl]
      clear hns er nsw nnd nln fle hfl T S8 hh' 
      induction ns with
      | nil => rfl
      | cons y ys ih =>
        by_cases c : y = x0
        · simp only [List.filterMap_cons, List.filter_cons, c, if_true, decide_true, Bool.not_true, Bool.false_eq_true, if_false]
          exact ih
        · simp only [List.filterMap_cons, List.filter_cons, c, if_false, decide_false, Bool.not_false, if_true, List.map_cons]
          rw [ih]
    rw [fm'] at T
    have L := lc_run (m := mItA (mVar 15)) (vs := [16]) (env := EV d x sets ways long thr hits' count x12 (some (.int a)) (some (.int x0)) (some (.ref r)) x16 x17) (it := (ns.map D.int, [(r, .lst (ns.map D.int))])) (itA_run (var_run rfl) er) (by rw [List.length_map]; omega) T
    refine asg_run (m2_run L (lst_run (cons_run (var_run rfl) nil_run)) ?_)
    rw [← hh2, hh3]
    have q1 : h2[h1.length]? = some (.lst (fl.map D.int)) := by rw [hh2]; exact keep_app get_new
    have q2 : h2[(h1 ++ [O.lst (fl.map D.int)]).length]? = some (.lst ([x0].map D.int)) := by rw [hh2]; exact get_new
    unfold fAdd
    simp only [q1, q2]
    rw [if_pos (by rw [List.length_map, List.length_map]; exact lim_le (by simp; omega)), List.map_append]
  have l3 : LI x h3 s := by rw [hh3, hh2]; exact l1.app.app.app
  have e3 : h3[h2.length]? = some (.lst ((fl ++ [x0]).map D.int)) := by rw [hh3]; exact get_new
  have ln3 := fLen_lst e3
  rw [List.length_map] at ln3
  obtain ⟨m, hm⟩ : ∃ m : Int, m = ((fl ++ [x0]).length : Int) := ⟨_, rfl⟩
  rw [← hm] at ln3
  have stp := step_len (x := x0) nnd nln wy.1
  rw [← hfl, ← hm] at stp
  have fresh : ∀ j, h1.length ≤ j → j ∉ XL x s ∧ x.hb.length ≤ j := fun j hj => ⟨fun z => by have := XL_lt l1 j z; omega, Nat.le_trans l1.f.1 hj⟩
  have h12 : h1.length ≤ h2.length := by rw [hh2]; simp
  obtain ⟨h4, r', e4, f4, l4, S10⟩ : ∃ (h4 : Hm) (r' : Nat), h4[r']? = some (.lst ((stepN ways ns x0).map D.int)) ∧ h1.length ≤ r' ∧ LI x h4 s ∧ q_10 (EV d x sets ways long thr hits' count x12 (some (.int a)) (some (.int x0)) (some (.ref h2.length)) x16 x17) h3 = .next (EV d x sets ways long thr hits' count x12 (some (.int a)) (some (.int x0)) (some (.ref h2.length)) x16 x17) (h4.set x.R (.lst ((s.refs.set kk r').map D.ref))) := by
    have fin : ∀ (h4 : Hm) (r' : Nat), LI x h4 s → mIf (mBool (m2 fGt (mCall fLen (mCons (mVar 15) mNil)) (mVar 3))) (mSl (mVar 15) (mSome (m2 fSub (mCall fLen (mCons (mVar 15) mNil)) (mVar 3))) mNo) (mVar 15) (EV d x sets ways long thr hits' count x12 (some (.int a)) (some (.int x0)) (some (.ref h2.length)) x16 x17) h3 = .ok (.ref r') h4 → q_10 (EV d x sets ways long thr hits' count x12 (some (.int a)) (some (.int x0)) (some (.ref h2.length)) x16 x17) h3 = .next (EV d x sets ways long thr hits' count x12 (some (.int a)) (some (.int x0)) (some (.ref h2.length)) x16 x17) (h4.set x.R (.lst ((s.refs.set kk r').map D.ref))) := fun h4 r' l4 e => by
      rw [List.map_set, hk]
      exact sub_run e (var_run rfl) (m2_run (var_run rfl) (var_run rfl) (fm sp)) (fSet_int l4.hR k0 (by rw [List.length_map, ← hk]; exact kl))
    have tst : mBool (m2 fGt (mCall fLen (mCons (mVar 15) mNil)) (mVar 3)) (EV d x sets ways long thr hits' count x12 (some (.int a)) (some (.int x0)) (some (.ref h2.length)) x16 x17) h3 = .ok (decide (ways < m)) h3 := bool_run (m2_run (call_run (cons_run (var_run rfl) nil_run) ln3) (var_run rfl) rfl)
    by_cases c : ways < m
    · rw [decide_eq_true c] at tst
      rw [if_pos c] at stp
      obtain ⟨z, hz⟩ : ∃ z : Nat, (z : Int) = m - ways := ⟨(m - ways).toNat, by omega⟩
      have sl := fSl_lst e3 (some (m - ways)) none
      rw [← hz, cutD_from (by rw [List.length_map]; omega), ← List.map_drop, hz, show z = (m - ways).toNat by omega, ← stp] at sl
      refine ⟨h3 ++ [.lst ((stepN ways ns x0).map D.int)], h3.length, get_new, by rw [hh3]; simp; omega, l3.app, fin _ _ l3.app (ifE_t tst ?_)⟩
      exact sl_run (var_run rfl) (some_run (m2_run (call_run (cons_run (var_run rfl) nil_run) ln3) (var_run rfl) fSub_i)) no_run sl
    · rw [decide_eq_false c] at tst
      rw [if_neg c] at stp
      refine ⟨h3, h2.length, by rw [stp]; exact e3, h12, l3, fin _ _ l3 (ifE_f tst (var_run rfl))⟩
  have l5 := l4.row e4 (fresh r' f4) kl
  obtain ⟨h6, s6, S11, l6, z1, z2, z3, z4, mv⟩ := deed (d := d) (sets := sets) (ways := ways) (long := long) (hits := hits') (count := count) (x12 := x12) (x14 := some (.int x0)) (x15 := some (.ref h2.length)) (x16 := x16) (x17 := x17) l5 k.mc k.ml k.thr h0 h32
  have mv : Moved s.c (a / s.c.long) s6.c := mv
  rw [k.long, ← xh] at mv
  obtain ⟨⟨m1, m2, m3, m4⟩, m5, m6, m7⟩ := mv
  rw [← k.sets, ← hk] at m5 m6 m7
  have nk : (numsOf s.c).getD kk [] = ns := by rw [hns, k.nums]
  rw [nk] at m5 m6 m7
  have nm6 : s6.nums = numsOf s6.c := by
    rw [z2, m5, k.ways]
    show s.nums.set kk _ = _
    rw [k.nums]
  obtain ⟨g, S12⟩ := check_ok (env := EV d x sets ways long thr hits' count x12 (some (.int a)) (some (.int x0)) (some (.ref h2.length)) x16 x17) rfl rfl rfl l6.ca l6.hR (by rw [← nm6]; exact l6.rf)
  refine ⟨_, _, _, hits', h6 ++ g, s6, seq_next S5 (seq_next S6 (seq_next S7 (seq_next S8 (seq_next S9 (seq_next S10 (seq_next S11 S12)))))), l6.app, ⟨z3, z4, nm6, by rw [m4]; exact k.sets, by rw [m1, k.ways], by rw [m2, k.long], by rw [m3, k.thr], by rw [m6, k.hits', hh'], ?_⟩⟩
  rw [m7, k.misses, hh']
  split <;> omega
theorem loop : ∀ (ds : List D) (n hits : Int) (x12 x13 x14 x15 : Option D) (h : Hm) (s : St), LI x h s → Lk s sets ways long thr hits n → ∃ y12 y13 y14 y15 hits' h' s', forL [] (gN 12) l_law_0 ds (EV d x sets ways long thr hits count x12 x13 x14 x15 x16 x17) h = .next (EV d x sets ways long thr hits' count y12 y13 y14 y15 x16 x17) h' ∧ LI x h' s' ∧ Lk s' sets ways long thr hits' (n + ds.length)
  | [], n, hits, x12, x13, x14, x15, h, s, l, k => ⟨x12, x13, x14, x15, hits, h, s, forL_nil gdOk_nil, l, by simpa using k⟩
  | e :: ds, n, hits, x12, x13, x14, x15, h, s, l, k => by
    obtain ⟨y13, y14, y15, hits1, h1, s1, run1, l1, k1⟩ := turn (d := d) (count := count) (x12 := some e) (x13 := x13) (x14 := x14) (x15 := x15) (x16 := x16) (x17 := x17) l k
    obtain ⟨z12, z13, z14, z15, hits2, h2, s2, run2, l2, k2⟩ := loop ds (n + 1) hits1 (some e) y13 y14 y15 h1 s1 l1 k1
    refine ⟨z12, z13, z14, z15, hits2, h2, s2, forL_next gdOk_nil rfl run1 run2, l2, ?_⟩
    rw [show n + ((e :: ds).length : Int) = n + 1 + (ds.length : Int) by simp; omega]
    exact k2
end
theorem pick {i : Nat} {env : Ev} {h : Hm} (di : IsDice h i) (e1 : env[1]? = some (some (.ref i))) : ∃ v h', m2 fIx (mLst (mCons (mC (.int 1)) (mCons (mC (.int 2)) (mCons (mC (.int 4)) mNil)))) (mCallF 2 f__law_roll (mCons (mVar 1) (mCons (mC (.int 3)) mNil))) env h = .ok (.int v) h' ∧ L3 v ∧ IsDice h' i ∧ Fr i h h' := by
  obtain ⟨u, h1, u0, u3, run, d1, l1, f1⟩ := roll_fr (h := h ++ [O.lst [.int 1, .int 2, .int 4]]) di.app (show (0 : Int) < 3 by decide) (by decide)
  have ne : h.length ≠ i := by have := di.lt; omega
  have e : h1[h.length]? = some (.lst [.int 1, .int 2, .int 4]) := f1.get get_new ne
  have run' : f__law_roll [.ref i, .int 3] (h ++ [O.lst [.int 1, .int 2, .int 4]]) = .ok (.int u) h1 := run
  have L : mLst (mCons (mC (.int 1)) (mCons (mC (.int 2)) (mCons (mC (.int 4)) mNil))) env h = .ok (.ref h.length) (h ++ [O.lst [.int 1, .int 2, .int 4]]) := lst_run (cons_run c_run (cons_run c_run (cons_run c_run nil_run)))
  have R : mCallF 2 f__law_roll (mCons (mVar 1) (mCons (mC (.int 3)) mNil)) env (h ++ [O.lst [.int 1, .int 2, .int 4]]) = .ok (.int u) h1 := callF_run (cons_run (var_run e1) (cons_run c_run nil_run)) run'
  have fr : Fr i h h1 := Fr.app.trans f1
  rcases (show u = 0 ∨ u = 1 ∨ u = 2 by omega) with rfl | rfl | rfl
  · exact ⟨1, h1, m2_run L R (fIx_lst (j := 0) e rfl), .inl rfl, d1, fr⟩
  · exact ⟨2, h1, m2_run L R (fIx_lst (j := 1) e rfl), .inr (.inl rfl), d1, fr⟩
  · exact ⟨4, h1, m2_run L R (fIx_lst (j := 2) e rfl), .inr (.inr rfl), d1, fr⟩
theorem empties {j : Nat} {env : Ev} : ∀ (ds : List D) (h : Hm), lcL [] (gN j) tYesM (mLst mNil) env ds h = .ok ((List.range ds.length).map fun k => D.ref (h.length + k)) (h ++ List.replicate ds.length (O.lst []))
  | [], h => by
    rw [lcL, if_pos (by rfl)]
    simp
  | d :: ds, h => by
    have tn : lcTurn (gN j) tYesM (mLst mNil) env d h = .ok (some (.ref h.length)) (h ++ [O.lst []]) := rfl
    rw [lcL_cons (by rfl) tn, empties ds (h ++ [O.lst []])]
    show R.ok (D.ref h.length :: (List.range ds.length).map fun k => D.ref ((h ++ [O.lst []]).length + k)) (h ++ [O.lst []] ++ List.replicate ds.length (O.lst [])) = _
    rw [List.length_cons, List.range_succ_eq_map, List.map_cons, List.map_map, List.replicate_succ, List.append_assoc]
    congr 1
    congr 1
    apply List.map_congr_left
    intro k _
    simp only [Function.comp, List.length_append, List.length_cons, List.length_nil]
    congr 1
    omega
theorem rng_empties {j : Nat} {env : Ev} {h : Hm} {m : Ev → Hm → R (List D)} {s : Int} {n : Nat} (hn : s = 1 ∧ n = 1 ∨ s = 2 ∧ n = 2 ∨ s = 4 ∧ n = 4) (e : m env h = .ok [.int s] h) : mLc [j] (mRg1 m) (gN j) tYesM (mLst mNil) env h = .ok (.ref (h.length + n)) (h ++ List.replicate n (O.lst []) ++ [O.lst ((List.range n).map fun k => D.ref (h.length + k))]) := by
  have sm : sm62 s = true := sm62_of (by omega) (by omega)
  have st : s.toNat = n := by omega
  have E := empties (j := j) (env := wipeE env [j]) (rng1 0 n) h
  rw [rng1_len] at E
  have L := lc_run (vs := [j]) (m := mRg1 m) (it := (rng1 0 n, [])) (by rw [← st]; exact rg1_runv e sm) (by rw [rng1_len]; omega) E
  rw [L]
  simp
theorem set_at {H G : Hm} {a b : O} : (H ++ [a] ++ G).set H.length b = H ++ [b] ++ G := by simp
theorem get_at' {H G : Hm} {a : O} : (H ++ [a] ++ G)[H.length]? = some a := by simp
/-- the levels are made -/
def lvO (b : Nat) (mem : List Int) : Hm := initO (b + 1) 2 2 4 false mem ++ [O.lst [], O.lst [], O.lst [D.ref (b + 6), D.ref (b + 7)]]
theorem linit_run {H : Hm} {M : Nat} {mem : List Int} (eM : H[M]? = some (.lst (mem.map D.int))) (lm : mem.length = 32) : f_Levels___init__ [.ref H.length, .ref M, .tup [.int 2, .int 2], .tup [.int 2, .int 2, .int 4]] (H ++ [.ins "Levels" []]) = .ok .non (H ++ [.ins "Levels" (lfl (H.length + 1) (H.length + 8) 0 0)] ++ lvO H.length mem) := by
  obtain ⟨E, hE⟩ : ∃ E : Ev, E = [some (.ref H.length), some (.ref M), some (.tup [.int 2, .int 2]), some (.tup [.int 2, .int 2, .int 4]), none] := ⟨_, rfl⟩
  have E0 : E[0]? = some (some (.ref H.length)) := by rw [hE]; rfl
  have E1 : E[1]? = some (some (.ref M)) := by rw [hE]; rfl
  have E2 : E[2]? = some (some (.tup [.int 2, .int 2])) := by rw [hE]; rfl
  have E3 : E[3]? = some (some (.tup [.int 2, .int 2, .int 4])) := by rw [hE]; rfl
  have ci := cinit_run (H := H ++ [.ins "Levels" []]) (W0 := M) (n := 2) (s := 2) (ways := 2) (long := 4) (thr := false) (mem := mem) (.inr (.inl ⟨rfl, rfl⟩)) (keep_app eM) lm (by decide) (.inr (.inr rfl))
  rw [show (H ++ [O.ins "Levels" []]).length = H.length + 1 by simp] at ci
  obtain ⟨G, hG⟩ : ∃ G, G = initO (H.length + 1) 2 2 4 false mem := ⟨_, rfl⟩
  have lG : G.length = 5 := by rw [hG, initO_len]
  rw [← hG] at ci
  refine call_next (e1 := E) f_Levels___init___eq rfl ?_
  show b_Levels___init__ [some (.ref H.length), some (.ref M), some (.tup [.int 2, .int 2]), some (.tup [.int 2, .int 2, .int 4]), none] _ = _
  rw [← hE]
  unfold b_Levels___init__
  have mk : mMake "Cache" 6 f_Cache___init__ (mCons (mVar 1) (mCons (m2 fIx (mVar 3) (mC (.int 0))) (mCons (m2 fIx (mVar 3) (mC (.int 1))) (mCons (m2 fIx (mVar 3) (mC (.int 2))) (mCons (mC (.bl false)) mNil))))) E (H ++ [.ins "Levels" []]) = .ok (.ref (H ++ [O.ins "Levels" []]).length) (H ++ [.ins "Levels" []] ++ G) :=
    make_run (cons_run (var_run E1) (cons_run (m2_run (var_run E3) c_run (by rfl)) (cons_run (m2_run (var_run E3) c_run (by rfl)) (cons_run (m2_run (var_run E3) c_run (by rfl)) (cons_run c_run nil_run))))) rfl (by rw [show (H ++ [O.ins "Levels" []]).length = H.length + 1 by simp]; exact ci)
  rw [show (H ++ [O.ins "Levels" []]).length = H.length + 1 by simp] at mk
  refine seq_next (fldM_run mk (var_run E0) get_at' (by decide) (by decide)) ?_
  rw [set_at]
  have rgr := rng_empties (j := 4) (env := E) (h := H ++ [.ins "Levels" (putD "under" (.ref (H.length + 1)) [])] ++ G) (m := mCons (m2 fIx (mVar 2) (mC (.int 0))) mNil) (s := 2) (n := 2) (.inr (.inl ⟨rfl, rfl⟩)) (cons_run (m2_run (var_run E2) c_run (by rfl)) nil_run)
  rw [show (H ++ [O.ins "Levels" (putD "under" (.ref (H.length + 1)) [])] ++ G).length = H.length + 6 by simp [lG], show List.range 2 = [0, 1] from rfl] at rgr
  have rgr2 : mLc [4] (mRg1 (mCons (m2 fIx (mVar 2) (mC (.int 0))) mNil)) (gN 4) tYesM (mLst mNil) E (H ++ [.ins "Levels" (putD "under" (.ref (H.length + 1)) [])] ++ G) = .ok (.ref (H.length + 8)) (H ++ [.ins "Levels" (putD "under" (.ref (H.length + 1)) [])] ++ lvO H.length mem) := by
    rw [rgr]
    unfold lvO
    rw [← hG]
    simp [List.replicate]
  refine seq_next (fldM_run rgr2 (var_run E0) get_at' (by decide) (by show 1 < 1000; decide)) ?_
  rw [set_at]
  refine seq_next (fldM_run (m2_run (var_run E2) c_run (show fIx (.tup [.int 2, .int 2]) (.int 1) _ = .ok (.int 2) _ from rfl)) (var_run E0) get_at' (by decide) (by show 2 < 1000; decide)) ?_
  rw [set_at]
  refine seq_next (fldM_run c_run (var_run E0) get_at' (by decide) (by show 3 < 1000; decide)) ?_
  rw [set_at]
  refine (fldM_run c_run (var_run E0) get_at' (by decide) (by show 4 < 1000; decide)).trans ?_
  rw [set_at]
  rfl
theorem linit_ok {H : Hm} {mem : List Int} (lm : mem.length = 32) : LvOk (H ++ [.ins "Levels" (lfl (H.length + 1) (H.length + 8) 0 0)] ++ lvO H.length mem) H.length (H.length + 8) (H.length + 1) (H.length + 2) (H.length + 5) mem [(H.length + 6, []), (H.length + 7, [])] (c0 (H.length + 1) 2 2 4 false mem) := by
  obtain ⟨H1, hH1⟩ : ∃ H1 : Hm, H1 = H ++ [.ins "Levels" (lfl (H.length + 1) (H.length + 8) 0 0)] := ⟨_, rfl⟩
  have l1 : H1.length = H.length + 1 := by rw [hH1]; simp
  have ci := cinit_ok (H := H1) (n := 2) (ways := 2) (long := 4) (thr := false) (mem := mem) (.inr (.inl rfl)) lm (by decide) (.inr (.inr rfl))
  rw [l1] at ci
  have at' : ∀ k, (H ++ [O.ins "Levels" (lfl (H.length + 1) (H.length + 8) 0 0)] ++ lvO H.length mem)[H.length + 1 + k]? = (lvO H.length mem)[k]? := fun k => by
    rw [List.getElem?_append_right (by simp)]
    congr 1
    simp
  have lI : (initO (H.length + 1) 2 2 4 false mem).length = 5 := initO_len
  have at2 : ∀ k, (lvO H.length mem)[5 + k]? = [O.lst [], O.lst [], O.lst [D.ref (H.length + 6), D.ref (H.length + 7)]][k]? := fun k => by
    unfold lvO
    rw [List.getElem?_append_right (by omega)]
    congr 1
    omega
  refine ⟨⟨0, 0, get_at'⟩, ?_, ?_, rfl, ?_, ?_, ?_⟩
  · rw [show H.length + 8 = H.length + 1 + (5 + 2) by omega, at', at2]
    rfl
  · intro w hw
    simp only [List.mem_cons, List.not_mem_nil, or_false] at hw
    rcases hw with rfl | rfl
    · show _[H.length + 6]? = _
      rw [show H.length + 6 = H.length + 1 + (5 + 0) by omega, at', at2]
      rfl
    · show _[H.length + 7]? = _
      rw [show H.length + 7 = H.length + 1 + (5 + 1) by omega, at', at2]
      rfl
  · refine ⟨?_, ci.P⟩
    have := ci.H.kl (h' := H1 ++ initO (H.length + 1) 2 2 4 false mem ++ [O.lst [], O.lst [], O.lst [D.ref (H.length + 6), D.ref (H.length + 7)]]) (L := []) KL.app (by simp)
    rw [List.append_assoc, hH1] at this
    exact this
  · have n2 := ci.H.nd
    have ge := cinit_ge (b := H.length + 1) (n := 2) (ways := 2) (long := 4) (thr := false) (mem := mem)
    unfold lref
    rw [List.nodup_cons, List.nodup_cons, List.nodup_append]
    refine ⟨fun z => ?_, fun z => ?_, by simp, n2, fun y hy z hz q => ?_⟩
    · simp only [List.mem_cons, List.mem_append, List.map_cons, List.map_nil, List.not_mem_nil, or_false] at z
      rcases z with z | z | z
      · omega
      · omega
      · have := (ge _ z).1
        omega
    · simp only [List.mem_cons, List.mem_append, List.map_cons, List.map_nil, List.not_mem_nil, or_false] at z
      rcases z with z | z
      · omega
      · have := (ge _ z).2
        omega
    · subst q
      simp only [List.mem_cons, List.map_cons, List.map_nil, List.not_mem_nil, or_false] at hy
      have := (ge _ hz).2
      omega
  · intro k w hk
    have hw := mem_get hk
    simp only [List.mem_cons, List.not_mem_nil, or_false] at hw
    rcases hw with rfl | rfl <;> exact ⟨by simp, by simp, fun a ha => absurd ha List.not_mem_nil⟩
theorem lvO_len {b : Nat} {mem : List Int} : (lvO b mem).length = 8 := by
  unfold lvO
  rw [List.length_append, initO_len]
  rfl
theorem linit_ge {b : Nat} {mem : List Int} : ∀ y ∈ lref b (b + 8) (b + 1) (b + 2) (b + 5) [(b + 6, []), (b + 7, [])] (c0 (b + 1) 2 2 4 false mem), b ≤ y ∧ y < b + 9 := fun y hy => by
  unfold lref at hy
  simp only [List.mem_cons, List.mem_append, List.map_cons, List.map_nil, List.not_mem_nil, or_false] at hy
  rcases hy with rfl | rfl | (rfl | rfl) | hy
  · omega
  · omega
  · omega
  · omega
  · have := cinit_ge (b := b + 1) (n := 2) (ways := 2) (long := 4) (thr := false) (mem := mem) y hy
    omega
theorem start_ok {i : Nat} {hb hB : Hm} {n : Nat} {ways long : Int} {thr : Bool} {mem : List Int} (hn : n = 1 ∨ n = 2 ∨ n = 4) (hw : 1 ≤ ways ∧ ways ≤ 2) (hl : L3 long) (lm : mem.length = 32) (bi : i < hb.length) (d : IsDice hB i) (f : Fr i hb hB) :
    ∀ hC hD hE hF : Hm, hC = hB ++ [.lst (mem.map D.int)] → hD = hC ++ initO hC.length n ways long thr mem → hE = hD ++ [.ins "Levels" (lfl (hD.length + 1) (hD.length + 8) 0 0)] ++ lvO hD.length mem → hF = hE ++ List.replicate n (O.lst []) ++ [O.lst ((List.range n).map fun k => D.ref (hE.length + k))] →
    LI ⟨hb, i, hB.length, hC.length, hC.length + 1, hC.length + 2 + n, hD.length, hD.length + 8, hD.length + 1, hD.length + 2, hD.length + 5, hE.length + n⟩ hF ⟨mem, mem, mem, c0 hC.length n ways long thr mem, [(hD.length + 6, []), (hD.length + 7, [])], c0 (hD.length + 1) 2 2 4 false mem, (List.range n).map fun k => hE.length + k, List.replicate n []⟩ := by
  intro hC hD hE hF eC eD eE eF
  have lC : hC.length = hB.length + 1 := by rw [eC]; simp
  have lD : hD.length = hC.length + (n + 3) := by rw [eD, List.length_append, initO_len]
  have lE : hE.length = hD.length + 9 := by rw [eE, List.length_append, List.length_append, lvO_len]; rfl
  have lB := f.1
  have kCD : KL [] hC hD := by rw [eD]; exact KL.app
  have kDE : KL [] hD hE := by rw [eE, List.append_assoc]; exact KL.app
  have kEF : KL [] hE hF := by rw [eF, List.append_assoc]; exact KL.app
  have kBC : KL [] hB hC := by rw [eC]; exact KL.app
  have kBF := kBC.trans (kCD.trans (kDE.trans kEF))
  have ca := cinit_ok (H := hC) (thr := thr) hn lm hw hl
  rw [← eD] at ca
  have lv := linit_ok (H := hD) lm
  rw [← eE] at lv
  have g1 := cinit_ge (b := hC.length) (n := n) (ways := ways) (long := long) (thr := thr) (mem := mem)
  have g2 := linit_ge (b := hD.length) (mem := mem)
  have MC : hC[hB.length]? = some (.lst (mem.map D.int)) := by rw [eC]; exact get_new
  have lF : (hE ++ List.replicate n (O.lst [])).length = hE.length + n := by simp
  have nums0 : (List.replicate n ([] : List Int)).length = n := by simp
  have XLm : ∀ y ∈ XL ⟨hb, i, hB.length, hC.length, hC.length + 1, hC.length + 2 + n, hD.length, hD.length + 8, hD.length + 1, hD.length + 2, hD.length + 5, hE.length + n⟩ ⟨mem, mem, mem, c0 hC.length n ways long thr mem, [(hD.length + 6, []), (hD.length + 7, [])], c0 (hD.length + 1) 2 2 4 false mem, (List.range n).map fun k => hE.length + k, List.replicate n []⟩, hB.length ≤ y ∧ (y < hE.length ∨ y = hE.length + n) := by
    intro y hy
    unfold XL at hy
    simp only [List.mem_cons, List.mem_append] at hy
    rcases hy with rfl | rfl | hy | hy
    · omega
    · omega
    · have := g1 y hy; omega
    · have := g2 y hy; omega
  refine ⟨IsDice.kl d kBF (by simp), fr_kl f kBF (by simp), bi, (kCD.trans (kDE.trans kEF)).get MC (by simp), lm, ?_, ⟨by simp, fun k r hk => ?_⟩, ⟨ca.H.kl (kDE.trans kEF) (by simp), ca.P⟩, lv.kl kEF (by simp), ?_, fun y hy => by have := (XLm y hy).1; show hb.length ≤ y; omega, fun r hr => ?_⟩
  · show hF[hE.length + n]? = some (.lst (((List.range n).map fun k => hE.length + k).map D.ref))
    rw [eF, ← lF, get_new, List.map_map]
    rfl
  · have hk2 := hk
    rw [List.getElem?_map] at hk2
    by_cases c : k < n
    · rw [List.getElem?_range c] at hk2
      cases hk2
      have e0 : (List.replicate n ([] : List Int)).getD k [] = [] := by
        rw [List.getD_eq_getElem?_getD, List.getElem?_replicate, if_pos c]
        rfl
      show hF[hE.length + k]? = some (.lst (((List.replicate n ([] : List Int)).getD k []).map D.int))
      rw [e0, eF]
      refine keep_app ?_
      rw [List.getElem?_append_right (by omega), Nat.add_sub_cancel_left, List.getElem?_replicate, if_pos c]
      rfl
    · rw [List.getElem?_eq_none (by simp; omega)] at hk2
      cases hk2
  · unfold XL
    rw [List.nodup_cons, List.nodup_cons, List.nodup_append]
    refine ⟨fun z => ?_, fun z => ?_, ca.H.nd, lv.nd, fun y hy z hz q => ?_⟩
    · simp only [List.mem_cons, List.mem_append] at z
      rcases z with z | z | z
      · omega
      · have := g1 _ z; omega
      · have := g2 _ z; omega
    · simp only [List.mem_append] at z
      rcases z with z | z
      · have := g1 _ z; omega
      · have := g2 _ z; omega
    · subst q
      have := g1 _ hy
      have := g2 _ hz
      omega
  · have hr : r ∈ (List.range n).map fun k => hE.length + k := hr
    simp only [List.mem_map, List.mem_range] at hr
    obtain ⟨k, hk, rfl⟩ := hr
    refine ⟨fun z => ?_, by show hb.length ≤ hE.length + k; omega⟩
    have := XLm _ z
    omega
theorem fList_tup {h : Hm} {ds : List D} : fList [.tup ds] h = .ok (.ref h.length) (h ++ [.lst ds]) := rfl
theorem line_exn {h : Hm} {C W S : Nat} {mem : List Int} {c : Ca} (o : CaOk h C W S mem c) : f_Cache_load [.ref C, .int 32] h = .exn ⟨"BadOrder", []⟩ h := by
  have lW := fLen_lst o.H.hW
  rw [List.length_map, o.P.wl] at lW
  have A : f_Cache_line_at [.ref C, .int 32] h = .exn ⟨"BadOrder", []⟩ h := by
    refine call_exn (e1 := [some (.ref C), some (.int 32), none, none, none, none, none, none]) f_Cache_line_at_eq rfl (seq_exn ?_)
    show p_Cache_line_at_0 [some (.ref C), some (.int 32), none, none, none, none, none, none] h = _
    unfold p_Cache_line_at_0
    exact if_t (not_run (k := false) (bool_run (chain_run c_run (var_run rfl) (by rfl) (call_run (cons_run (fld_run (var_run rfl) o.H.hC (by decide) lk_words) nil_run) lW) (by rfl)))) rfl
  refine call_exn (e1 := [some (.ref C), some (.int 32)]) f_Cache_load_eq rfl ?_
  show b_Cache_load [some (.ref C), some (.int 32)] h = _
  unfold b_Cache_load
  have M : mMethF "Cache" "line_at" 2 f_Cache_line_at (mVar 0) (mCons (mVar 1) mNil) [some (.ref C), some (.int 32)] h = .exn ⟨"BadOrder", []⟩ h := (meth_run (var_run rfl) o.H.hC rfl (cons_run (var_run rfl) nil_run) rfl).trans A
  rw [run_ret, run_m2, run_m2, M]
  rfl
theorem short_exn {h : Hm} {r P : Nat} {es : List D} (e : h[r]? = some (.lst es)) (l : es.length = 5) : f_Cache___init__ [.ref P, .ref r, .int 1, .int 1, .int 2, .bl true] h = .exn ⟨"BadOrder", []⟩ h := by
  have ln := fLen_lst e
  rw [l] at ln
  refine call_exn (e1 := [some (.ref P), some (.ref r), some (.int 1), some (.int 1), some (.int 2), some (.bl true), none]) f_Cache___init___eq rfl (seq_exn ?_)
  refine if_t ?_ rfl
  refine or_run (bool_run (m2_run (var_run rfl) c_run (by rfl))) (or_run (bool_run (m2_run (var_run rfl) c_run (by rfl))) (or_run (bool_run (m2_run (var_run rfl) c_run (by rfl))) (bool_run (m2_run (m2_run (call_run (cons_run (var_run rfl) nil_run) ln) (var_run rfl) (fm (by decide))) c_run ?_))))
  rw [fNe_i]
  rfl
theorem flush_grow {C W S n : Nat} {c c' : Ca} (h : ∀ x ∈ cref C W S c'.rows, x ∈ cref C W S c.rows) : Grow n (cref C W S c.rows) (cref C W S c'.rows) := fun x hx => .inl (h x hx)
theorem round_ok : RoundOk 18 l_law_1 := by
  intro d i rest h hl di
  obtain ⟨x2, x3, x4, x5, x6, x7, x8, x9, x10, x11, x12, x13, x14, x15, x16, x17, rfl⟩ : ∃ x2 x3 x4 x5 x6 x7 x8 x9 x10 x11 x12 x13 x14 x15 x16 x17, rest = [x2, x3, x4, x5, x6, x7, x8, x9, x10, x11, x12, x13, x14, x15, x16, x17] := by
    match rest, hl with
    | [x2, x3, x4, x5, x6, x7, x8, x9, x10, x11, x12, x13, x14, x15, x16, x17], _ => exact ⟨_, _, _, _, _, _, _, _, _, _, _, _, _, _, _, _, rfl⟩
  have bi := di.lt
  obtain ⟨sets, h1, p1, L1, d1, f1⟩ := pick (env := [some d, some (.ref i), x2, x3, x4, x5, x6, x7, x8, x9, x10, x11, x12, x13, x14, x15, x16, x17]) di rfl
  obtain ⟨w0, h2, w1, w2, r2, d2, l2, f2⟩ := roll_fr d1 (show (0 : Int) < 2 by decide) (by decide)
  obtain ⟨long, h3, p3, L3', d3, f3⟩ := pick (env := [some d, some (.ref i), x2, x3, x4, x5, x6, x7, x8, x9, x10, x11, x12, x13, x14, x15, x16, x17]) d2 rfl
  obtain ⟨u, h4, u1, u2, r4, d4, l4, f4⟩ := roll_fr d3 (show (0 : Int) < 2 by decide) (by decide)
  have r2 : f__law_roll [.ref i, .int 2] h1 = .ok (.int w0) h2 := r2
  have r4 : f__law_roll [.ref i, .int 2] h3 = .ok (.int u) h4 := r4
  obtain ⟨ways, hways⟩ : ∃ ways, ways = 1 + w0 := ⟨_, rfl⟩
  obtain ⟨thr, hthr⟩ : ∃ thr, thr = decide (u = 0) := ⟨_, rfl⟩
  have S0 : q_0 [some d, some (.ref i), x2, x3, x4, x5, x6, x7, x8, x9, x10, x11, x12, x13, x14, x15, x16, x17] h = .next [some d, some (.ref i), some (.int sets), some (.int ways), some (.int long), some (.bl thr), x6, x7, x8, x9, x10, x11, x12, x13, x14, x15, x16, x17] h4 := by
    have T : mTup (mCons (m2 fIx (mLst (mCons (mC (.int 1)) (mCons (mC (.int 2)) (mCons (mC (.int 4)) mNil)))) (mCallF 2 f__law_roll (mCons (mVar 1) (mCons (mC (.int 3)) mNil)))) (mCons (m2 fAdd (mC (.int 1)) (mCallF 2 f__law_roll (mCons (mVar 1) (mCons (mC (.int 2)) mNil)))) (mCons (m2 fIx (mLst (mCons (mC (.int 1)) (mCons (mC (.int 2)) (mCons (mC (.int 4)) mNil)))) (mCallF 2 f__law_roll (mCons (mVar 1) (mCons (mC (.int 3)) mNil)))) (mCons (m2 fEq (mCallF 2 f__law_roll (mCons (mVar 1) (mCons (mC (.int 2)) mNil))) (mC (.int 0))) mNil)))) [some d, some (.ref i), x2, x3, x4, x5, x6, x7, x8, x9, x10, x11, x12, x13, x14, x15, x16, x17] h = .ok (.tup [.int sets, .int ways, .int long, .bl thr]) h4 := by
      refine tup_run (cons_run p1 (cons_run (m2_run c_run (callF_run (cons_run (var_run rfl) (cons_run c_run nil_run)) r2) (by rw [hways]; rfl)) (cons_run p3 (cons_run (m2_run (callF_run (cons_run (var_run rfl) (cons_run c_run nil_run)) r4) c_run ?_) nil_run))))
      rw [hthr, fEq_i]
    unfold q_0
    rw [run_asg, T, bindS_ok]
    rfl
  have hw : 1 ≤ ways ∧ ways ≤ 2 := by omega
  -- the words
  obtain ⟨mem, hB, lc5, mb, ml, d5, l5, f5⟩ := rolls_lc (i := i) (t := 12) (many := 99) (env := [some d, some (.ref i), some (.int sets), some (.int ways), some (.int long), some (.bl thr), x6, x7, x8, x9, x10, x11, none, x13, x14, x15, x16, x17]) (by decide) rfl (by decide) (by decide) (rng1 0 32) h4 d4
  have lm : mem.length = 32 := by rw [ml, rng1_len]
  obtain ⟨hC, eC⟩ : ∃ hC : Hm, hC = hB ++ [.lst (mem.map D.int)] := ⟨_, rfl⟩
  have S1 : q_1 [some d, some (.ref i), some (.int sets), some (.int ways), some (.int long), some (.bl thr), x6, x7, x8, x9, x10, x11, x12, x13, x14, x15, x16, x17] h4 = .next [some d, some (.ref i), some (.int sets), some (.int ways), some (.int long), some (.bl thr), some (.ref hB.length), x7, x8, x9, x10, x11, x12, x13, x14, x15, x16, x17] hC := by
    rw [eC]
    have rg : mRg1 (mCons (mC (.int 32)) mNil) [some d, some (.ref i), some (.int sets), some (.int ways), some (.int long), some (.bl thr), x6, x7, x8, x9, x10, x11, x12, x13, x14, x15, x16, x17] h4 = .ok (rng1 0 32, []) h4 := rg1_runv (v := 32) (cons_run c_run nil_run) (by decide)
    exact asg_run (lc_run (vs := [12]) rg (by rw [rng1_len]; decide) lc5)
  obtain ⟨n, hn⟩ : ∃ n : Nat, sets = 1 ∧ n = 1 ∨ sets = 2 ∧ n = 2 ∨ sets = 4 ∧ n = 4 := by
    rcases L1 with e | e | e
    · exact ⟨1, .inl ⟨e, rfl⟩⟩
    · exact ⟨2, .inr (.inl ⟨e, rfl⟩)⟩
    · exact ⟨4, .inr (.inr ⟨e, rfl⟩)⟩
  have hn' : n = 1 ∨ n = 2 ∨ n = 4 := by omega
  have MC : hC[hB.length]? = some (.lst (mem.map D.int)) := by rw [eC]; exact get_new
  obtain ⟨hD, eD⟩ : ∃ hD : Hm, hD = hC ++ initO hC.length n ways long thr mem := ⟨_, rfl⟩
  have MD : hD[hB.length]? = some (.lst (mem.map D.int)) := by rw [eD]; exact keep_app MC
  obtain ⟨hE, eE⟩ : ∃ hE : Hm, hE = hD ++ [.ins "Levels" (lfl (hD.length + 1) (hD.length + 8) 0 0)] ++ lvO hD.length mem := ⟨_, rfl⟩
  have ci := cinit_run (W0 := hB.length) (ways := ways) (thr := thr) hn MC lm hw.1 L3'
  rw [← eD] at ci
  have li := linit_run MD lm
  rw [← eE] at li
  have S2 : q_2 [some d, some (.ref i), some (.int sets), some (.int ways), some (.int long), some (.bl thr), some (.ref hB.length), x7, x8, x9, x10, x11, x12, x13, x14, x15, x16, x17] hC = .next [some d, some (.ref i), some (.int sets), some (.int ways), some (.int long), some (.bl thr), some (.ref hB.length), some (.ref hC.length), some (.ref hD.length), x9, x10, x11, x12, x13, x14, x15, x16, x17] hE := by
    unfold q_2
    refine (pu_run (mr := mNil) (tup_run (cons_run (make_run (cons_run (var_run rfl) (cons_run (var_run rfl) (cons_run (var_run rfl) (cons_run (var_run rfl) (cons_run (var_run rfl) nil_run))))) rfl ci) (cons_run (make_run (cons_run (var_run rfl) (cons_run (tup_run (cons_run c_run (cons_run c_run nil_run))) (cons_run (tup_run (cons_run c_run (cons_run c_run (cons_run c_run nil_run)))) nil_run))) rfl li) nil_run)))).trans ?_
    rfl
  obtain ⟨hF, eF⟩ : ∃ hF : Hm, hF = hE ++ List.replicate n (O.lst []) ++ [O.lst ((List.range n).map fun k => D.ref (hE.length + k))] := ⟨_, rfl⟩
  have S3 : q_3 [some d, some (.ref i), some (.int sets), some (.int ways), some (.int long), some (.bl thr), some (.ref hB.length), some (.ref hC.length), some (.ref hD.length), x9, x10, x11, x12, x13, x14, x15, x16, x17] hE = .next [some d, some (.ref i), some (.int sets), some (.int ways), some (.int long), some (.bl thr), some (.ref hB.length), some (.ref hC.length), some (.ref hD.length), some (.ref (hE.length + n)), some (.int 0), x11, x12, x13, x14, x15, x16, x17] hF := by
    have R := rng_empties (j := 12) (env := [some d, some (.ref i), some (.int sets), some (.int ways), some (.int long), some (.bl thr), some (.ref hB.length), some (.ref hC.length), some (.ref hD.length), x9, x10, x11, x12, x13, x14, x15, x16, x17]) (h := hE) (m := mCons (mVar 2) mNil) hn (cons_run (var_run rfl) nil_run)
    rw [← eF] at R
    unfold q_3
    rw [run_par, cons_run R (cons_run c_run nil_run), bindS_ok]
    rfl
  have fB : Fr i h hB := f1.trans (f2.trans (f3.trans (f4.trans f5)))
  have LI0 := start_ok (thr := thr) hn' hw L3' lm bi d5 fB hC hD hE hF eC eD eE eF
  generalize hx : (⟨h, i, hB.length, hC.length, hC.length + 1, hC.length + 2 + n, hD.length, hD.length + 8, hD.length + 1, hD.length + 2, hD.length + 5, hE.length + n⟩ : Fx) = x at LI0
  generalize hs : (⟨mem, mem, mem, c0 hC.length n ways long thr mem, [(hD.length + 6, []), (hD.length + 7, [])], c0 (hD.length + 1) 2 2 4 false mem, (List.range n).map fun k => hE.length + k, List.replicate n []⟩ : St) = s at LI0
  have k0 : Lk s sets ways long thr 0 0 := by
    rw [← hs]
    refine ⟨rfl, rfl, cinit_nums.symm, ?_, rfl, rfl, rfl, rfl, rfl⟩
    show sets = (((List.range n).map fun j => (⟨hC.length + 2 + j, []⟩ : Rw)).length : Int)
    rw [List.length_map, List.length_range]
    omega
  obtain ⟨count, hG, c1, c2, rG, LG⟩ := LI0.roll (many := 41) (by decide) (by decide)
  have S4 : q_4 [some d, some (.ref i), some (.int sets), some (.int ways), some (.int long), some (.bl thr), some (.ref hB.length), some (.ref hC.length), some (.ref hD.length), some (.ref (hE.length + n)), some (.int 0), x11, x12, x13, x14, x15, x16, x17] hF = .next (EV d x sets ways long thr 0 count x12 x13 x14 x15 x16 x17) hG := by
    rw [← hx] at rG ⊢
    exact asg_run (callF_run (cons_run (var_run rfl) (cons_run c_run nil_run)) rG)
  obtain ⟨y12, y13, y14, y15, hits, hH, s2, run, LH, k2⟩ := loop (d := d) (sets := sets) (ways := ways) (long := long) (thr := thr) (count := count) (x16 := x16) (x17 := x17) (rng1 0 count.toNat) 0 0 x12 x13 x14 x15 hG s LG k0
  rw [rng1_len, Int.zero_add, Int.toNat_of_nonneg c1] at k2
  have S5 : q_13 (EV d x sets ways long thr 0 count x12 x13 x14 x15 x16 x17) hG = .next (EV d x sets ways long thr hits count y12 y13 y14 y15 x16 x17) hH := for_run (rg1_runv (cons_run (var_run rfl) nil_run) (sm62_of c1 (by omega))) run
  have S6 : q_14 (EV d x sets ways long thr hits count y12 y13 y14 y15 x16 x17) hH = .next (EV d x sets ways long thr hits count y12 y13 y14 y15 x16 x17) hH := by
    unfold q_14
    exact if_no (or_run (bool_run (m2_run (fld_run (var_run rfl) LH.ca.H.hC (by decide) lk_hits) (var_run rfl) (fNe_k k2.hits'))) (bool_run (m2_run (fld_run (var_run rfl) LH.ca.H.hC (by decide) lk_misses) (m2_run (var_run rfl) (var_run rfl) fSub_i) (fNe_k k2.misses))))
  have S7 : q_15 (EV d x sets ways long thr hits count y12 y13 y14 y15 x16 x17) hH = .next (EV d x sets ways long thr hits count y12 y13 y14 y15 x16 x17) hH := by
    unfold q_15
    refine if_no ?_
    cases ht : thr with
    | false => exact and_no (tru_run (var_run rfl))
    | true =>
      have tt : s2.c.thr = true := by rw [k2.thr, ht]
      have we : s2.c.ws = s2.mm := by rw [thr_ws LH.ca.P tt, k2.mc]
      have hW := LH.ca.H.hW
      rw [we] at hW
      exact and_run (tru_run (var_run rfl)) (or_run (bool_run (m2_run (fld_run (var_run rfl) LH.ca.H.hC (by decide) lk_words) (var_run rfl) (fNe_rints hW LH.hM))) (bool_run (m2_run (fld_run (var_run rfl) LH.ca.H.hC (by decide) lk_put) c_run (fNe_k (LH.ca.P.through tt).1))))
  obtain ⟨hI, c3, runI, okI, clI, wsI, crI, kI⟩ := flush_ok LH.ca
  have LI1 := LH.cache okI kI (flush_grow crI)
  have S8 : q_16 (EV d x sets ways long thr hits count y12 y13 y14 y15 x16 x17) hH = .next (EV d x sets ways long thr hits count y12 y13 y14 y15 x16 x17) hI := by
    unfold q_16
    exact drop_run ((meth_run (var_run rfl) LH.ca.H.hC rfl nil_run rfl).trans runI)
  obtain ⟨hJ, c4, runJ, okJ, clJ, wsJ, crJ, kJ⟩ := flush_ok LI1.lv.ca
  obtain ⟨a0, b0, hV⟩ := LI1.lv.hV
  obtain ⟨e1', e2', e3'⟩ := LI1.ne
  have dis : ∀ y ∈ cref x.U x.W2 x.S2 s2.c2.rows, y ∈ lref x.V x.T x.U x.W2 x.S2 s2.rws s2.c2 := fun y hy => by
    unfold lref
    simp only [List.mem_cons, List.mem_append]
    exact .inr (.inr (.inr hy))
  have nV : x.V ∉ cref x.U x.W2 x.S2 s2.c2.rows := fun z => by
    have n := LI1.lv.nd
    unfold lref at n
    rw [List.nodup_cons] at n
    exact n.1 (List.mem_cons_of_mem _ (List.mem_append_right _ z))
  have hVJ := kJ.get hV nV
  have MJ := kJ.get LI1.hM fun z => (e3' _ (dis _ z)).1 rfl
  have caJ : CaOk hJ x.C x.W x.S s2.mc c3 := ⟨okI.H.kl kJ fun y hy z => (e2' y hy).2.2 (dis y z), okI.P⟩
  have dJ : IsDice hJ x.i := IsDice.kl LI1.d kJ fun z => LI1.xi (by simp [XL, dis _ z])
  have fJ : Fr x.i x.hb hJ := fr_kl LI1.f kJ fun y hy => .inr (LI1.ge y (by unfold XL; simp only [List.mem_cons, List.mem_append]; exact .inr (.inr (.inr (dis y hy)))))
  have hWI := okI.H.hW
  rw [wsI, k2.mc] at hWI
  have hWJ := okJ.H.hW
  rw [wsJ] at hWJ
  have wml : s2.ml = s2.mm := k2.ml
  have allw : f_Levels_all_words [.ref x.V] hI = .ok (.tup (s2.mm.map D.int)) hJ := by
    refine call_ret f_Levels_all_words_eq rfl ?_
    refine seq_next (e1 := [some (.ref x.V)]) (h1 := hJ) ?_ ?_
    · exact drop_run ((meth_run (fld_run (var_run rfl) hV (by decide) ll_under) LI1.lv.ca.H.hC rfl nil_run rfl).trans runJ)
    · refine ret_run (call_run (cons_run (fld_run (fld_run (var_run rfl) hVJ (by decide) ll_under) okJ.H.hC (by decide) lk_words) nil_run) ?_)
      rw [← wml]
      exact fTuple_lst hWJ
  obtain ⟨g, held⟩ := held_ok (h := hJ ++ [.lst (s2.mm.map D.int)]) ⟨caJ.H.kl (L := []) KL.app (by simp), caJ.P⟩
  have n0 : (numsOf c3).flatten = [] := by
    rw [List.flatten_eq_nil_iff]
    intro l hl
    unfold numsOf at hl
    rw [List.mem_map] at hl
    obtain ⟨w, hw, rfl⟩ := hl
    rw [clI w hw]
    rfl
  rw [n0] at held
  obtain ⟨hK, eK⟩ : ∃ hK, hK = hJ ++ [.lst (s2.mm.map D.int)] ++ g := ⟨_, rfl⟩
  rw [← eK] at held
  have kJK : KL [] hJ hK := by rw [eK]; exact KL.app.trans KL.app
  have caJ1 : (hJ ++ [O.lst (s2.mm.map D.int)])[x.C]? = some (.ins "Cache" (cfl x.W x.S c3)) := keep_app caJ.H.hC
  have S9 : q_17 (EV d x sets ways long thr hits count y12 y13 y14 y15 x16 x17) hI = .next (EV d x sets ways long thr hits count y12 y13 y14 y15 x16 x17) hK := by
    unfold q_17
    refine if_no (or_run (bool_run (m2_run (fld_run (var_run rfl) okI.H.hC (by decide) lk_words) (var_run rfl) (fNe_rints hWI LI1.hM))) (or_run (bool_run (m2_run (call_run (cons_run ((meth_run (var_run rfl) hV rfl nil_run rfl).trans allw) nil_run) fList_tup) (var_run rfl) (fNe_rints get_new (keep_app MJ)))) (bool_run (m2_run ((meth_run (var_run rfl) caJ1 rfl nil_run rfl).trans held) (tup_run nil_run) (fNe_tints (l := []))))))
  have caK : CaOk hK x.C x.W x.S s2.mc c3 := ⟨caJ.H.kl kJK (by simp), caJ.P⟩
  have fNe_so : ∀ hh : Hm, fNe (.str "order") (.str "order") hh = .ok (.bl false) hh := fun hh => by
    rw [fNe_s]
    simp
  have S10 : q_18 (EV d x sets ways long thr hits count y12 y13 y14 y15 x16 x17) hK = .next (EV d x sets ways long thr hits count y12 y13 y14 y15 x16 x17) hK := by
    unfold q_18
    exact if_no (bool_run (m2_run (told_exn ((meth_run (var_run rfl) caK.H.hC rfl (cons_run c_run nil_run) rfl).trans (line_exn caK)) (t := "order") (by simp [tellL, told_cs])) c_run (fNe_so _)))
  obtain ⟨hL, eL⟩ : ∃ hL : Hm, hL = hK ++ [.lst [.int 0]] ++ [.lst (List.replicate 5 (.int 0))] := ⟨_, rfl⟩
  have rep : m2 fMul (mLst (mCons (mC (.int 0)) mNil)) (mC (.int 5)) (EV d x sets ways long thr hits count y12 y13 y14 y15 x16 x17) hK = .ok (.ref (hK ++ [O.lst [.int 0]]).length) hL := by
    rw [eL]
    refine m2_run (lst_run (cons_run c_run nil_run)) c_run ?_
    have q := get_new (h := hK) (o := .lst [.int 0])
    unfold fMul
    simp only [q]
    rfl
  have e5 : hL[(hK ++ [O.lst [.int 0]]).length]? = some (.lst (List.replicate 5 (.int 0))) := by rw [eL]; exact get_new
  obtain ⟨hM, eM⟩ : ∃ hM : Hm, hM = hL ++ [.ins "Cache" []] := ⟨_, rfl⟩
  have S11 : q_19 (EV d x sets ways long thr hits count y12 y13 y14 y15 x16 x17) hK = .next (EV d x sets ways long thr hits count y12 y13 y14 y15 x16 x17) hM := by
    unfold q_19
    refine if_no (bool_run (m2_run (told_exn (t := "order") (x := ⟨"BadOrder", []⟩) (h1 := hM) ?_ (by simp [tellL, told_cs])) c_run (fNe_so _)))
    rw [run_make, cons_run rep (cons_run c_run (cons_run c_run (cons_run c_run (cons_run c_run nil_run)))), bind_ok, if_pos (by rfl), eM, short_exn (keep_app e5) (by rfl)]
  have kKM : KL [] hK hM := by rw [eM, eL]; exact (KL.app.trans KL.app).trans KL.app
  refine ⟨(EV d x sets ways long thr hits count y12 y13 y14 y15 x16 x17).drop 2, hM, seq_next S0 (seq_next S1 (seq_next S2 (seq_next S3 (seq_next S4 (seq_next S5 (seq_next S6 (seq_next S7 (seq_next S8 (seq_next S9 (seq_next S10 (S11.trans ?_))))))))))), rfl, ?_⟩
  · rw [← hx]
    rfl
  · have := fr_kl fJ (kJK.trans kKM) (by simp)
    rw [← hx] at this
    exact this
theorem plain (n : Nat) : PlainLaw f_law n := by
  rw [law_eq]
  exact plain_rounds (by decide) (by decide) round_ok
end K09
end MM

theorem PySem.Challenge.cw_corehall_k09_caches_over_memory_holds : PySem.Challenge.rw_corehall_k09_caches_over_memory.Holds := by
  exact MM.K09.holds MM.K09.plain
