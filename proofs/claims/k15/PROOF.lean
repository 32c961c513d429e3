import PyProof.Rows.All
import HandS.ForMost
import HandS.ForExc
import HandS.CallSlots
import HandS.Lambda
import HandS.TupAny
import HandS.TupMul
import HandS.Wide
import HandS.TupLe
import HandS.Flow
import HandS.Style
import HandS.Deep
import HandS.IsInst
import HandS.Small
import HandS.Conv
import HandS.WordsDict
import HandS.SetFor
import HandS.RaiseMore
import HandS.Walk
import HandS.Rev
import HandS.RevRange
import HandS.Zip
import HandS.WordsExc
import HandS.Defaults
import HandS.HeadHook2
import HandS.HeadEnd
import PyProof.SumWalkG
import PyProof.ExcBaseAll.ValueError
import HandS.HeadWalk
import HandS.TryMany
import HandS.HeadHook4
import HandS.TryOnly
import KE.KStateDown
import HandS.Head0
import HandS.Head1
import HandS.Head2
import PySem.Challenge.RW_corehall_k15_pages_and_answers
set_option Elab.async false
set_option linter.all false
set_option maxRecDepth 100000
set_option maxHeartbeats 0
namespace MM
open PySem L2

inductive D where
  | non | bl (b : Bool) | int (i : Int) | str (x : Str) | tup (ds : List D) | ref (i : Nat) | rol (ds : List D)
mutual
def D.beq : D → D → Bool
  | .non, .non => true
  | .bl a, .bl b => a == b
  | .int a, .int b => decide (a = b)
  | .str a, .str b => decide (a = b)
  | .tup a, .tup b => D.beqs a b
  | .ref a, .ref b => a == b
  | .rol a, .rol b => D.beqs a b
  | _, _ => false
def D.beqs : List D → List D → Bool
  | [], [] => true
  | a :: as, b :: bs => D.beq a b && D.beqs as bs
  | _, _ => false
end
mutual
theorem D.beq_ok : ∀ a b : D, D.beq a b = true → a = b := by
  intro a b h
  cases a <;> cases b <;> simp only [D.beq, Bool.false_eq_true, beq_iff_eq, decide_eq_true_eq] at h <;> first | rfl | (subst h; rfl) | (rw [D.beqs_ok _ _ h])
theorem D.beqs_ok : ∀ a b : List D, D.beqs a b = true → a = b := by
  intro a b h
  cases a <;> cases b <;> simp only [D.beqs, Bool.false_eq_true, Bool.and_eq_true] at h
  · rfl
  · rw [D.beq_ok _ _ h.1, D.beqs_ok _ _ h.2]
end
mutual
theorem D.beq_refl : ∀ a : D, D.beq a a = true := by
  intro a
  cases a <;> simp only [D.beq, beq_self_eq_true, decide_true]
  · exact D.beqs_refl _
  · exact D.beqs_refl _
theorem D.beqs_refl : ∀ a : List D, D.beqs a a = true := by
  intro a
  cases a
  · rfl
  · simp only [D.beqs, Bool.and_eq_true]
    exact ⟨D.beq_refl _, D.beqs_refl _⟩
end
instance : DecidableEq D := fun a b => decidable_of_iff (D.beq a b = true) ⟨D.beq_ok a b, fun e => by rw [e]; exact D.beq_refl b⟩
inductive O where
  | lst (ds : List D) | dic (kvs : List (Key × D)) | dicL (kvs : List (Key × D)) | ins (c : Str) (fs : List (Str × D))
  deriving DecidableEq
abbrev Hm := List O
abbrev Ev := List (Option D)
/-- an exception: its class's name, its fields -/
structure Ex where
  cls : Str
  fs : List (Str × D)
  deriving DecidableEq
inductive R (α : Type) where
  | ok (a : α) (h : Hm)
  | exn (x : Ex) (h : Hm)
  | bad
def R.bind {α β : Type} (r : R α) (k : α → Hm → R β) : R β := match r with
  | .ok a h => k a h
  | .exn x h => .exn x h
  | .bad => .bad

structure Gx where
  K : PySem.W.Frag
  mg : Str → Option Value
  T : List (Addr × Str)
def KTup (K : PySem.W.Frag) (a : Addr) (xs : List V) : Prop :=
  ∃ (o : Obj) (its : Array Value) (n : Nat), K.lookup a = some o ∧ o.cls = .type "tuple" ∧ o.data = .seq its n ∧ its.size ≤ sizeLine ∧ Vals xs its.toList
def KLst (K : PySem.W.Frag) (a : Addr) (xs : List V) : Prop :=
  ∃ (o : Obj) (its : Array Value) (n : Nat), K.lookup a = some o ∧ o.cls = .type "list" ∧ o.dict = none ∧ o.data = .seq its n ∧ its.size ≤ sizeLine ∧ Vals xs its.toList
def TupAt (K : PySem.W.Frag) (π : List Addr) (H : Hp) (a : Addr) (xs : List V) : Prop := (H a = some (.tup xs) ∧ a ∉ π) ∨ KTup K a xs
def LstAt (K : PySem.W.Frag) (π : List Addr) (H : Hp) (a : Addr) (xs : List V) : Prop := (∃ o, H a = some (.frz o (.lst xs)) ∧ a ∉ π) ∨ KLst K a xs
theorem TupAt.sq {K : PySem.W.Frag} {π : List Addr} {H : Hp} {a : Addr} {xs : List V} (h : TupAt K π H a xs) : SqT K H a xs := by
  rcases h with ⟨h, _⟩ | h
  · exact .inl (.inl h)
  · exact .inr h
theorem LstAt.sq {K : PySem.W.Frag} {π : List Addr} {H : Hp} {a : Addr} {xs : List V} (h : LstAt K π H a xs) : SqL K H a xs := by
  rcases h with ⟨o, h, _⟩ | h
  · exact .inl (.inr ⟨o, h⟩)
  · exact .inr h
/-- what a step of the program leaves of what it does not know -/
structure Step (π : List Addr) (H : Hp) (π' : List Addr) (H' : Hp) : Prop where
  ext : ∃ more, π' = π ++ more
  out : ∀ a o, H a = some o → a ∉ π → (∀ ps, o ≠ .tbl ps) → a ∉ π'
  keep : ∀ a o, H a = some o → a ∉ π → (∀ ps, o ≠ .tbl ps) → H' a = some o
  frz : ∀ a o u, H a = some (.frz o u) → H' a = some (.frz o u)
theorem Step.refl {π : List Addr} {H : Hp} : Step π H π H := ⟨⟨[], by simp⟩, fun _ _ _ h _ => h, fun _ _ h _ _ => h, fun _ _ _ h => h⟩
theorem Step.trans {π π1 π2 : List Addr} {H H1 H2 : Hp} (a : Step π H π1 H1) (b : Step π1 H1 π2 H2) : Step π H π2 H2 := by
  obtain ⟨m1, e1⟩ := a.ext
  obtain ⟨m2, e2⟩ := b.ext
  exact ⟨⟨m1 ++ m2, by rw [e2, e1, List.append_assoc]⟩, fun x o h n t => b.out x o (a.keep x o h n t) (a.out x o h n t) t, fun x o h n t => b.keep x o (a.keep x o h n t) (a.out x o h n t) t, fun x o u h => b.frz x o u (a.frz x o u h)⟩
theorem Step.get {π π' : List Addr} {H H' : Hp} (s : Step π H π' H') {i : Nat} {a : Addr} (h : π[i]? = some a) : π'[i]? = some a := by
  obtain ⟨m, e⟩ := s.ext
  rw [e, List.getElem?_append_left (List.getElem?_eq_some_iff.mp h).1]
  exact h
mutual
def DV (K : PySem.W.Frag) (π : List Addr) (H : Hp) : D → V → Prop
  | .non, v => v = .non
  | .bl b, v => v = .bl b
  | .int i, v => v = .int i
  | .str x, v => v = .str x
  | .ref i, v => ∃ a, π[i]? = some a ∧ v = .ref a
  | .tup ds, v => ∃ a xs, v = .ref a ∧ TupAt K π H a xs ∧ DVs K π H ds xs
  | .rol ds, v => ∃ a xs, v = .ref a ∧ LstAt K π H a xs ∧ DVs K π H ds xs
def DVs (K : PySem.W.Frag) (π : List Addr) (H : Hp) : List D → List V → Prop
  | [], xs => xs = []
  | d :: ds, xs => ∃ v vs, xs = v :: vs ∧ DV K π H d v ∧ DVs K π H ds vs
end
section
variable {K : PySem.W.Frag} {π π' : List Addr} {H H' : Hp}
theorem TupAt.step (s : Step π H π' H') {a : Addr} {xs : List V} (h : TupAt K π H a xs) : TupAt K π' H' a xs := by
  rcases h with ⟨h, n⟩ | h
  · exact .inl ⟨s.keep a _ h n (fun ps z => by cases z), s.out a _ h n (fun ps z => by cases z)⟩
  · exact .inr h
theorem LstAt.step (s : Step π H π' H') {a : Addr} {xs : List V} (h : LstAt K π H a xs) : LstAt K π' H' a xs := by
  rcases h with ⟨o, h, n⟩ | h
  · exact .inl ⟨o, s.keep a _ h n (fun ps z => by cases z), s.out a _ h n (fun ps z => by cases z)⟩
  · exact .inr h
mutual
theorem DV.step (s : Step π H π' H') : ∀ (d : D) (v : V), DV K π H d v → DV K π' H' d v
  | .non, _, h => h
  | .bl _, _, h => h
  | .int _, _, h => h
  | .str _, _, h => h
  | .ref _, _, ⟨a, h, e⟩ => ⟨a, s.get h, e⟩
  | .tup ds, _, ⟨a, xs, e, h, q⟩ => ⟨a, xs, e, h.step s, DVs.step s ds xs q⟩
  | .rol ds, _, ⟨a, xs, e, h, q⟩ => ⟨a, xs, e, h.step s, DVs.step s ds xs q⟩
theorem DVs.step (s : Step π H π' H') : ∀ (ds : List D) (xs : List V), DVs K π H ds xs → DVs K π' H' ds xs
  | [], _, h => h
  | d :: ds, _, ⟨v, vs, e, h, q⟩ => ⟨v, vs, e, DV.step s d v h, DVs.step s ds vs q⟩
end
theorem DVs.len : ∀ {ds : List D} {xs : List V}, DVs K π H ds xs → xs.length = ds.length
  | [], _, h => by rw [show _ = [] from h] <;> rfl
  | d :: ds, _, ⟨v, vs, e, _, q⟩ => by rw [e, List.length_cons, List.length_cons, DVs.len q]
theorem DVs.get : ∀ {ds : List D} {xs : List V} {i : Nat} {d : D}, DVs K π H ds xs → ds[i]? = some d → ∃ v, xs[i]? = some v ∧ DV K π H d v
  | d :: ds, _, 0, d', ⟨v, vs, e, h, q⟩, g => by
    have g' : d = d' := Option.some.inj g
    subst g'
    exact ⟨v, by rw [e] <;> rfl, h⟩
  | d :: ds, _, i + 1, d', ⟨v, vs, e, h, q⟩, g => by
    obtain ⟨w, h1, h2⟩ := DVs.get (i := i) q g
    exact ⟨w, by rw [e]; exact h1, h2⟩
theorem DVs.app : ∀ {ds es : List D} {xs ys : List V}, DVs K π H ds xs → DVs K π H es ys → DVs K π H (ds ++ es) (xs ++ ys)
  | [], _, _, _, h, q => by rw [show _ = [] from h]; exact q
  | d :: ds, _, _, _, ⟨v, vs, e, h, q⟩, r => ⟨v, vs ++ _, by rw [e] <;> rfl, h, DVs.app q r⟩
theorem DVs.one {d : D} {v : V} (h : DV K π H d v) : DVs K π H [d] [v] := ⟨v, [], rfl, h, rfl⟩
theorem DVs.two {d e : D} {v w : V} (h : DV K π H d v) (q : DV K π H e w) : DVs K π H [d, e] [v, w] := ⟨v, [w], rfl, h, w, [], rfl, q, rfl⟩
theorem DVs.take : ∀ (n : Nat) {ds : List D} {xs : List V}, DVs K π H ds xs → DVs K π H (ds.take n) (xs.take n)
  | 0, _, _, _ => rfl
  | n + 1, [], _, h => by rw [show _ = [] from h]; rfl
  | n + 1, d :: ds, _, ⟨v, vs, e, h, q⟩ => ⟨v, vs.take n, by rw [e] <;> rfl, h, DVs.take n q⟩
theorem DVs.drop : ∀ (n : Nat) {ds : List D} {xs : List V}, DVs K π H ds xs → DVs K π H (ds.drop n) (xs.drop n)
  | 0, _, _, h => h
  | n + 1, [], _, h => by rw [show _ = [] from h]; rfl
  | n + 1, d :: ds, _, ⟨v, vs, e, h, q⟩ => by rw [e]; exact DVs.drop n q
theorem DVs.set : ∀ (i : Nat) {ds : List D} {xs : List V} {d : D} {v : V}, DVs K π H ds xs → DV K π H d v → DVs K π H (ds.set i d) (xs.set i v)
  | _, [], _, _, _, h, _ => by rw [show _ = [] from h]; rfl
  | 0, d :: ds, _, _, w, ⟨v, vs, e, h, q⟩, r => ⟨w, vs, by rw [e] <;> rfl, r, q⟩
  | i + 1, d :: ds, _, _, w, ⟨v, vs, e, h, q⟩, r => ⟨v, vs.set i w, by rw [e] <;> rfl, h, DVs.set i q r⟩
theorem DVs.snoc {ds : List D} {xs : List V} {d : D} {v : V} (h : DVs K π H ds xs) (q : DV K π H d v) : DVs K π H (ds ++ [d]) (xs ++ [v]) := h.app (.one q)
theorem DVs.rev : ∀ {ds : List D} {xs : List V}, DVs K π H ds xs → DVs K π H ds.reverse xs.reverse
  | [], _, h => by rw [show _ = [] from h]; rfl
  | d :: ds, _, ⟨v, vs, e, h, q⟩ => by rw [e, List.reverse_cons, List.reverse_cons]; exact (DVs.rev q).snoc h
theorem DVs.erase : ∀ (i : Nat) {ds : List D} {xs : List V}, DVs K π H ds xs → DVs K π H (ds.eraseIdx i) (xs.eraseIdx i)
  | _, [], _, h => by rw [show _ = [] from h]; rfl
  | 0, d :: ds, _, ⟨v, vs, e, h, q⟩ => by rw [e]; exact q
  | i + 1, d :: ds, _, ⟨v, vs, e, h, q⟩ => ⟨v, vs.eraseIdx i, by rw [e] <;> rfl, h, DVs.erase i q⟩
end
def DPs {κ : Type} (K : PySem.W.Frag) (π : List Addr) (H : Hp) : List (κ × D) → List (κ × V) → Prop
  | [], xs => xs = []
  | p :: ps, xs => ∃ v vs, xs = (p.1, v) :: vs ∧ DV K π H p.2 v ∧ DPs K π H ps vs
theorem DPs.step {κ : Type} {K : PySem.W.Frag} {π π' : List Addr} {H H' : Hp} (s : Step π H π' H') : ∀ (ps : List (κ × D)) (xs : List (κ × V)), DPs K π H ps xs → DPs K π' H' ps xs
  | [], _, h => h
  | p :: ps, _, ⟨v, vs, e, h, q⟩ => ⟨v, vs, e, h.step s _ _, DPs.step s ps vs q⟩
theorem DPs.len {κ : Type} {K : PySem.W.Frag} {π : List Addr} {H : Hp} : ∀ {ps : List (κ × D)} {xs : List (κ × V)}, DPs K π H ps xs → xs.length = ps.length
  | [], _, h => by rw [show _ = [] from h] <;> rfl
  | p :: ps, _, ⟨v, vs, e, h, q⟩ => by rw [e, List.length_cons, List.length_cons, DPs.len q]
def OV (G : Gx) (π : List Addr) (H : Hp) (a : Addr) : O → Prop
  | .lst ds => ∃ xs, H a = some (.lst xs) ∧ DVs G.K π H ds xs
  | .dic kvs => ∃ xs, H a = some (.dK xs) ∧ DPs G.K π H kvs xs
  | .dicL kvs => ∃ o xs, H a = some (.frz o (.dK xs)) ∧ DPs G.K π H kvs xs
  | .ins c fs => ∃ C dx xs, G.mg c = some (.ref C) ∧ H a = some (.ins C dx xs) ∧ DPs G.K π H fs xs
theorem OV.some {G : Gx} {π : List Addr} {H : Hp} {a : Addr} {o : O} (h : OV G π H a o) : ∃ u, H a = some u := by
  cases o with
  | lst ds => obtain ⟨xs, h, _⟩ := h; exact ⟨_, h⟩
  | dic ds => obtain ⟨xs, h, _⟩ := h; exact ⟨_, h⟩
  | dicL ds => obtain ⟨o, xs, h, _⟩ := h; exact ⟨_, h⟩
  | ins c fs => obtain ⟨C, dx, xs, _, h, _⟩ := h; exact ⟨_, h⟩
/-- an object stands as it stood, the rest has gone on -/
theorem OV.step {G : Gx} {π π' : List Addr} {H H' : Hp} {a : Addr} {o : O} (s : Step π H π' H') (e : H' a = H a) (h : OV G π H a o) : OV G π' H' a o := by
  cases o with
  | lst ds => obtain ⟨xs, h, q⟩ := h; exact ⟨xs, e.trans h, q.step s _ _⟩
  | dic ds => obtain ⟨xs, h, q⟩ := h; exact ⟨xs, e.trans h, q.step s _ _⟩
  | dicL ds => obtain ⟨o, xs, h, q⟩ := h; exact ⟨o, xs, e.trans h, q.step s _ _⟩
  | ins c fs => obtain ⟨C, dx, xs, g, h, q⟩ := h; exact ⟨C, dx, xs, g, e.trans h, q.step s _ _⟩
structure Good (G : Gx) (π : List Addr) (h : Hm) (H : Hp) : Prop where
  len : π.length = h.length
  nd : π.Nodup
  ob : ∀ (i : Nat) (a : Addr) (o : O), π[i]? = some a → h[i]? = some o → OV G π H a o
  tabs : LamX.Tabs G.T H
  tout : ∀ p ∈ G.T, p.1 ∉ π
section
variable {G : Gx} {π π' : List Addr} {h h' : Hm} {H H' : Hp}
theorem Good.in_ (g : Good G π h H) {a : Addr} (m : a ∈ π) : ∃ u, H a = some u := by
  obtain ⟨i, hi, e⟩ := List.mem_iff_getElem.mp m
  have q : π[i]? = some a := by rw [List.getElem?_eq_getElem hi, e]
  obtain ⟨o, ho⟩ : ∃ o, h[i]? = some o := ⟨h[i]'(by rw [← g.len]; exact hi), List.getElem?_eq_getElem _⟩
  exact (g.ob i a o q ho).some
theorem Good.free (g : Good G π h H) {a : Addr} (n : H a = none) : a ∉ π := fun m => by
  obtain ⟨u, e⟩ := g.in_ m
  rw [n] at e
  cases e
theorem Good.at_ (g : Good G π h H) {i : Nat} {o : O} (e : h[i]? = some o) : ∃ a, π[i]? = some a ∧ OV G π H a o := by
  have hi : i < π.length := by rw [g.len]; exact (List.getElem?_eq_some_iff.mp e).1
  exact ⟨π[i], List.getElem?_eq_getElem hi, g.ob i _ o (List.getElem?_eq_getElem hi) e⟩
theorem Good.obj (g : Good G π h H) {i : Nat} {a : Addr} {o : O} (e : h[i]? = some o) (q : π[i]? = some a) : OV G π H a o := g.ob i a o q e
/-- a table is none of ours -/
theorem tab_at {P : Addr} {q : Str} {H : Hp} (t : LamX.TabS H P q) : ∃ ps, H P = some (.tbl ps) := by
  obtain ⟨ps, e, _⟩ := t
  exact ⟨ps, e⟩
/-- the tables stay -/
theorem Good.tabs_upd (g : Good G π h H) {a : Addr} {o : HO} (e : H a = none ∨ ∃ u, H a = some u ∧ ¬ (∃ ps, u = .tbl ps) ∧ ∀ c q, u ≠ LamX.CodeO c q) : LamX.Tabs G.T (upd H a o) := fun p hp => by
  obtain ⟨ps, e1, e2, e3⟩ := g.tabs p hp
  have n1 : p.1 ≠ a := fun z => by
    rw [z] at e1
    rcases e with e | ⟨u, e, n, _⟩
    · rw [e] at e1; cases e1
    · rw [e] at e1; cases e1; exact n ⟨_, rfl⟩
  refine ⟨ps, by rw [upd_ne n1]; exact e1, e2, fun pos cv hc => ?_⟩
  obtain ⟨c, h1, h2⟩ := e3 pos cv hc
  have n2 : c ≠ a := fun z => by
    rw [z] at h2
    rcases e with e | ⟨u, e, _, n⟩
    · rw [e] at h2; cases h2
    · rw [e] at h2; exact n _ _ (Option.some.inj h2)
  exact ⟨c, h1, by rw [upd_ne n2]; exact h2⟩
/-- a new thing that is none of ours (a tuple, an iterator) -/
theorem Step.other (g : Good G π h H) {a : Addr} {o : HO} (n : H a = none) : Step π H π (upd H a o) :=
  ⟨⟨[], by simp⟩, fun _ _ _ q _ => q, fun b u e _ _ => by rw [upd_ne (ne_of_none e n)]; exact e, fun b o u e => by rw [upd_ne (ne_of_none e n)]; exact e⟩
theorem Good.other (g : Good G π h H) {a : Addr} {o : HO} (n : H a = none) : Good G π h (upd H a o) := by
  have s : Step π H π (upd H a o) := Step.other g n
  refine ⟨g.len, g.nd, fun i b u e1 e2 => ?_, g.tabs_upd (.inl n), g.tout⟩
  obtain ⟨w, e⟩ := (g.ob i b u e1 e2).some
  exact (g.ob i b u e1 e2).step s (upd_ne (ne_of_none e n))
/-- a new object of ours -/
theorem Step.new (g : Good G π h H) {a : Addr} {u : HO} (n : H a = none) : Step π H (π ++ [a]) (upd H a u) := by
  refine ⟨⟨[a], rfl⟩, fun b o e q _ m => ?_, fun b o e _ _ => by rw [upd_ne (ne_of_none e n)]; exact e, fun b o u e => by rw [upd_ne (ne_of_none e n)]; exact e⟩
  rcases List.mem_append.mp m with m | m
  · exact q m
  · rw [List.mem_singleton] at m
    exact ne_of_none e n m
theorem Good.new (g : Good G π h H) {a : Addr} {u : HO} {o : O} (n : H a = none) (w : OV G (π ++ [a]) (upd H a u) a o) : Good G (π ++ [a]) (h ++ [o]) (upd H a u) := by
  have s := Step.new (u := u) g n
  refine ⟨by rw [List.length_append, List.length_append, g.len] <;> rfl, ?_, fun i b v e1 e2 => ?_, g.tabs_upd (.inl n), fun p hp m => ?_⟩
  · rw [List.nodup_append]
    refine ⟨g.nd, by simp, fun x hx y hy z => ?_⟩
    rw [List.mem_singleton] at hy
    rw [z, hy] at hx
    exact g.free n hx
  · by_cases hi : i < π.length
    · rw [List.getElem?_append_left hi] at e1
      rw [List.getElem?_append_left (by rw [← g.len]; exact hi)] at e2
      obtain ⟨w', e⟩ := (g.ob i b v e1 e2).some
      exact (g.ob i b v e1 e2).step s (upd_ne (ne_of_none e n))
    · have h1 := (List.getElem?_eq_some_iff.mp e1).1
      have hi' : i = π.length := by
        rw [List.length_append, List.length_singleton] at h1
        omega
      subst hi'
      rw [List.getElem?_append_right (Nat.le_refl _), Nat.sub_self] at e1
      rw [List.getElem?_append_right (by rw [g.len]; exact Nat.le_refl _), g.len, Nat.sub_self] at e2
      have e1' : a = b := Option.some.inj e1
      have e2' : o = v := Option.some.inj e2
      subst e1' e2'
      exact w
  · rcases List.mem_append.mp m with m | m
    · exact g.tout p hp m
    · rw [List.mem_singleton] at m
      obtain ⟨ps, e⟩ := tab_at (g.tabs p hp)
      rw [m, n] at e
      cases e
theorem nodup_ix' {α : Type} {l : List α} (hN : l.Nodup) {i j : Nat} {x : α} (a : l[i]? = some x) (b : l[j]? = some x) : i = j := by
  obtain ⟨h1, e1⟩ := List.getElem?_eq_some_iff.mp a
  obtain ⟨h2, e2⟩ := List.getElem?_eq_some_iff.mp b
  exact (List.getElem_inj hN).mp (e1.trans e2.symm)
theorem nfz {a : Addr} {v : HO} (e : H a = some v) (n : ∀ o u, v ≠ .frz o u) : ∀ o u, H a ≠ some (.frz o u) := fun o u z => n o u (Option.some.inj (e.symm.trans z))
/-- an object of ours changes -/
theorem Step.put {i : Nat} {a : Addr} {u : HO} (m : π[i]? = some a) (nf : ∀ o u, H a ≠ some (.frz o u)) : Step π H π (upd H a u) := by
  have ma := List.mem_of_getElem? m
  exact ⟨⟨[], by simp⟩, fun _ _ _ q _ => q, fun b o e q _ => by rw [upd_ne (show b ≠ a from fun z => q (by rw [z]; exact ma))]; exact e, fun b o u e => by rw [upd_ne (show b ≠ a from fun z => nf o u (by rw [← z]; exact e))]; exact e⟩
theorem Good.put (g : Good G π h H) {i : Nat} {a : Addr} {u : HO} {o : O} (m : π[i]? = some a) (nf : ∀ o u, H a ≠ some (.frz o u)) (w : OV G π (upd H a u) a o) : Good G π (h.set i o) (upd H a u) := by
  have s : Step π H π (upd H a u) := Step.put m nf
  have hi : i < h.length := by rw [← g.len]; exact (List.getElem?_eq_some_iff.mp m).1
  have tb : ∀ b v, b ∈ π → H b = some v → (¬ ∃ ps, v = .tbl ps) ∧ ∀ c q, v ≠ LamX.CodeO c q := fun b v hb e => by
    obtain ⟨j, hj, ej⟩ := List.mem_iff_getElem.mp hb
    have q : π[j]? = some b := by rw [List.getElem?_eq_getElem hj, ej]
    have ho : h[j]? = some (h[j]'(by rw [← g.len]; exact hj)) := List.getElem?_eq_getElem _
    have z := g.ob j b _ q ho
    generalize h[j]'(by rw [← g.len]; exact hj) = oo at z
    cases oo with
    | lst ds => obtain ⟨xs, z, _⟩ := z; rw [e] at z; cases z; exact ⟨fun ⟨ps, z⟩ => (by cases z), fun c q z => (by unfold LamX.CodeO at z; cases z)⟩
    | dic ds => obtain ⟨xs, z, _⟩ := z; rw [e] at z; cases z; exact ⟨fun ⟨ps, z⟩ => (by cases z), fun c q z => (by unfold LamX.CodeO at z; cases z)⟩
    | dicL ds => obtain ⟨o, xs, z, _⟩ := z; rw [e] at z; cases z; exact ⟨fun ⟨ps, z⟩ => (by cases z), fun c q z => (by unfold LamX.CodeO at z; cases z)⟩
    | ins c fs => obtain ⟨C, dx, xs, _, z, _⟩ := z; rw [e] at z; cases z; exact ⟨fun ⟨ps, z⟩ => (by cases z), fun c q z => (by unfold LamX.CodeO at z; cases z)⟩
  obtain ⟨v0, e0⟩ := g.in_ (List.mem_of_getElem? m)
  obtain ⟨t1, t2⟩ := tb a v0 (List.mem_of_getElem? m) e0
  refine ⟨by rw [List.length_set]; exact g.len, g.nd, fun j b v e1 e2 => ?_, g.tabs_upd (.inr ⟨v0, e0, t1, t2⟩), g.tout⟩
  by_cases hj : j = i
  · subst hj
    rw [m] at e1
    cases e1
    rw [List.getElem?_set_self hi] at e2
    cases e2
    exact w
  · rw [List.getElem?_set_ne (Ne.symm hj)] at e2
    have ne : b ≠ a := fun z => hj (nodup_ix' g.nd e1 (by rw [z]; exact m))
    exact (g.ob j b v e1 e2).step s (upd_ne ne)
end
end MM

namespace MM
open PySem L2

abbrev gx (X : Cx) (T : List (Addr × Str)) : Gx := ⟨X.K, X.mg, T⟩
structure EnvOk (G : Gx) (π : List Addr) (H : Hp) (env : Ev) (σ : L2.St) : Prop where
  len : σ.length = env.length
  get : ∀ (i : Nat) (d : D), env[i]? = some (some d) → ∃ v, σ[i]? = some (some v) ∧ DV G.K π H d v
structure S (G : Gx) (π : List Addr) (env : Ev) (h : Hm) (σ : L2.St) (H : Hp) : Prop where
  good : Good G π h H
  env : EnvOk G π H env σ
def ExV (G : Gx) (π : List Addr) (H : Hp) (x : Ex) (cls : Value) (d : Option Addr) : Prop :=
  ∃ C, G.mg x.cls = some (.ref C) ∧ cls = .ref C ∧ match d with
    | none => x.fs = []
    | some dx => ∃ xs, H dx = some (.xd xs) ∧ dx ∉ π ∧ DPs G.K π H x.fs xs
def Post (G : Gx) (W : WX) (π : List Addr) (σ : L2.St) (H : Hp) {α : Type} (r : R α) (Q : List Addr → Hp → Hm → α → Prop) : Prop := match r with
  | .ok a h' => ∀ π' H', Step π H π' H' → Good G π' h' H' → Q π' H' h' a
  | .exn x h' => ∀ π' H' cls d, Step π H π' H' → Good G π' h' H' → ExV G π' H' x cls d → W cls d σ H'
  | .bad => False
section
variable {G : Gx} {W : WX} {π π' : List Addr} {σ : L2.St} {H H' : Hp} {env : Ev} {h h' : Hm} {α β : Type}
theorem EnvOk.step (s : Step π H π' H') (e : EnvOk G π H env σ) : EnvOk G π' H' env σ := ⟨e.len, fun i d q => by
  obtain ⟨v, h1, h2⟩ := e.get i d q
  exact ⟨v, h1, h2.step s _ _⟩⟩
theorem EnvOk.set (e : EnvOk G π H env σ) {d : D} {v : V} (q : DV G.K π H d v) (i : Nat) : EnvOk G π H (env.set i (some d)) (σ.set i (some v)) := by
  refine ⟨by rw [List.length_set, List.length_set, e.len], fun j d' g => ?_⟩
  by_cases hj : j = i
  · subst hj
    have hl : j < env.length := by
      have z := (List.getElem?_eq_some_iff.mp g).1
      rw [List.length_set] at z
      exact z
    rw [List.getElem?_set_self hl] at g
    cases g
    exact ⟨v, List.getElem?_set_self (by rw [e.len]; exact hl), q⟩
  · rw [List.getElem?_set_ne (Ne.symm hj)] at g
    obtain ⟨w, h1, h2⟩ := e.get j d' g
    exact ⟨w, by rw [List.getElem?_set_ne (Ne.symm hj)]; exact h1, h2⟩
theorem EnvOk.gone (e : EnvOk G π H env σ) (i : Nat) : EnvOk G π H (env.set i none) (σ.set i none) := by
  refine ⟨by rw [List.length_set, List.length_set, e.len], fun j d' g => ?_⟩
  by_cases hj : j = i
  · subst hj
    have hl : j < env.length := by
      have z := (List.getElem?_eq_some_iff.mp g).1
      rw [List.length_set] at z
      exact z
    rw [List.getElem?_set_self hl] at g
    cases g
  · rw [List.getElem?_set_ne (Ne.symm hj)] at g
    obtain ⟨w, h1, h2⟩ := e.get j d' g
    exact ⟨w, by rw [List.getElem?_set_ne (Ne.symm hj)]; exact h1, h2⟩
theorem S.step (s : Step π H π' H') (g : Good G π' h' H') (x : S G π env h σ H) : S G π' env h' σ H' := ⟨g, x.env.step s⟩
theorem Post.mono {r : R α} {Q Q' : List Addr → Hp → Hm → α → Prop} (p : Post G W π σ H r Q) (w : ∀ π' H' h' a, Step π H π' H' → Good G π' h' H' → Q π' H' h' a → Q' π' H' h' a) : Post G W π σ H r Q' := by
  cases r with
  | ok a h' => exact fun π' H' s g => w _ _ _ _ s g (p π' H' s g)
  | exn x h' => exact p
  | bad => exact p
theorem Post.bind {r : R α} {k : α → Hm → R β} {Q : List Addr → Hp → Hm → β → Prop} (p : Post G W π σ H (r.bind k) Q) : Post G W π σ H r fun π' H' h' a => Post G W π' σ H' (k a h') Q := by
  cases r with
  | ok a h' =>
    intro π' H' s g
    have p' : Post G W π σ H (k a h') Q := p
    generalize k a h' = z at p' ⊢
    cases z with
    | ok b h2 => exact fun π2 H2 s2 g2 => p' π2 H2 (s.trans s2) g2
    | exn x h2 => exact fun π2 H2 cls d s2 g2 e => p' π2 H2 cls d (s.trans s2) g2 e
    | bad => exact p'
  | exn x h' => exact p
  | bad => exact p
end
/-- an expression's run, as a reading -/
def tE (G : Gx) (W : WX) (m : Ev → Hm → R D) : TE := fun σ H Q => ∃ π env h, S G π env h σ H ∧ Post G W π σ H (m env h) fun π' H' _ d => ∀ v, DV G.K π' H' d v → Q v H'
def tB' (G : Gx) (W : WX) (m : Ev → Hm → R Bool) : TT := fun σ H Q => ∃ π env h, S G π env h σ H ∧ Post G W π σ H (m env h) fun _ H' _ b => Q b H'
def tL (G : Gx) (W : WX) (m : Ev → Hm → R (List D)) : TA := fun σ H Q => ∃ π env h, S G π env h σ H ∧ Post G W π σ H (m env h) fun π' H' _ ds => ∀ vs, DVs G.K π' H' ds vs → Q vs H'
theorem PE.of {X : Cx} {e : Expr} {t t' : TE} (p : PE X e t) (w : ∀ σ H Q, t' σ H Q → t σ H Q) : PE X e t' := ⟨fun pins s σ H Q I h => p.run pins s σ H Q I (w σ H Q h)⟩
theorem PT.of {X : Cx} {e : Expr} {t t' : TT} (p : PT X e t) (w : ∀ σ H Q, t' σ H Q → t σ H Q) : PT X e t' := ⟨fun pins s σ H Q I h => p.run pins s σ H Q I (w σ H Q h)⟩
theorem PA.of {X : Cx} {e : List Expr} {t t' : TA} (p : PA X e t) (w : ∀ σ H Q, t' σ H Q → t σ H Q) : PA X e t' := ⟨fun pos pins s σ H Q I h => p.run pos pins s σ H Q I (w σ H Q h)⟩
theorem PS.of {X : Cx} {e : Stmt} {t t' : TS} (p : PS X e t) (w : ∀ D σ H, t' D σ H → t D σ H) : PS X e t' := ⟨fun pins s σ H D I h => p.run pins s σ H D I (w D σ H h)⟩
theorem PSs.of {X : Cx} {e : List Stmt} {t t' : TS} (p : PSs X e t) (w : ∀ D σ H, t' D σ H → t D σ H) : PSs X e t' := ⟨fun pins s σ H D I h => p.run pins s σ H D I (w D σ H h)⟩
abbrev Em (X : Cx) (T : List (Addr × Str)) (W : WX) (e : Expr) (m : Ev → Hm → R D) : Prop := PE X e (tE (gx X T) W m)
abbrev Tm (X : Cx) (T : List (Addr × Str)) (W : WX) (e : Expr) (m : Ev → Hm → R Bool) : Prop := PT X e (tB' (gx X T) W m)
abbrev Am (X : Cx) (T : List (Addr × Str)) (W : WX) (e : List Expr) (m : Ev → Hm → R (List D)) : Prop := PA X e (tL (gx X T) W m)

def mC (d : D) : Ev → Hm → R D := fun _ h => .ok d h
def mVar (i : Nat) : Ev → Hm → R D := fun env h => match env[i]? with
  | some (some d) => .ok d h
  | _ => .bad
/-- a two-place operation on data -/
abbrev F2 := D → D → Hm → R D
def m2 (f : F2) (a b : Ev → Hm → R D) : Ev → Hm → R D := fun env h => (a env h).bind fun x h1 => (b env h1).bind fun y h2 => f x y h2
def mNil : Ev → Hm → R (List D) := fun _ h => .ok [] h
def mCons (a : Ev → Hm → R D) (r : Ev → Hm → R (List D)) : Ev → Hm → R (List D) := fun env h => (a env h).bind fun x h1 => (r env h1).bind fun xs h2 => .ok (x :: xs) h2
def mTup (r : Ev → Hm → R (List D)) : Ev → Hm → R D := fun env h => (r env h).bind fun xs h1 => .ok (.tup xs) h1
def mLst (r : Ev → Hm → R (List D)) : Ev → Hm → R D := fun env h => (r env h).bind fun xs h1 => .ok (.ref h1.length) (h1 ++ [.lst xs])
section
variable {X : Cx} {T : List (Addr × Str)} {W : WX} {a b e : Expr} {es : List Expr} {ma mb me : Ev → Hm → R D} {mr : Ev → Hm → R (List D)} {pos : Pos}
theorem em_int {i j} : Em X T W (.Constant (.int i) j pos) (mC (.int i)) := PE.of pe_int fun σ H Q ⟨π, env, h, s, p⟩ => p π H Step.refl s.good _ rfl
theorem em_bl {i j} : Em X T W (.Constant (.bool i) j pos) (mC (.bl i)) := PE.of pe_bl fun σ H Q ⟨π, env, h, s, p⟩ => p π H Step.refl s.good _ rfl
theorem em_non {j} : Em X T W (.Constant .none j pos) (mC .non) := PE.of pe_non fun σ H Q ⟨π, env, h, s, p⟩ => p π H Step.refl s.good _ rfl
theorem em_str {i j} : Em X T W (.Constant (.str i) j pos) (mC (.str i)) := PE.of pe_str fun σ H Q ⟨π, env, h, s, p⟩ => p π H Step.refl s.good _ rfl
theorem em_var (i : Nat) {x : Str} (hN : X.N[i]? = some x := by rfl) (hv : Vis X.env.scope x := by first | exact Or.inl rfl | exact Or.inr (Or.inl rfl) | exact Or.inr (Or.inr rfl)) (hd : (x == ("__debug__" : Str)) = false := by rfl)
    (hcd : (x == ("__classdict__" : Str)) = false := by rfl) : Em X T W (.Name x pos) (mVar i) := PE.of (pe_var hN hv hd hcd) fun σ H Q ⟨π, env, h, s, p⟩ => by
  cases q : env[i]? with
  | none => simp only [mVar, q] at p; exact p.elim
  | some o =>
    cases o with
    | none => simp only [mVar, q] at p; exact p.elim
    | some d =>
      obtain ⟨v, h1, h2⟩ := s.env.get i d q
      simp only [mVar, q] at p
      exact ⟨v, h1, p π H Step.refl s.good v h2⟩
/-- a value of the module -/
theorem em_glob {x : Str} {d : D} {v : V} {u : Value} (hg : Gl X x) (hm : X.mg x = some u) (r : RelV v u) (hd : ∀ π H, DV X.K π H d v) (hdb : (x == ("__debug__" : Str)) = false := by rfl) : Em X T W (.Name x pos) (mC d) :=
  PE.of (pe_glob hg hm r hdb) fun σ H Q ⟨π, env, h, s, p⟩ => p π H Step.refl s.good _ (hd π H)
/-- what a rule of the hand layer does, in data -/
def Op2 (G : Gx) (r : R2) (f : F2) : Prop := ∀ (W : WX) (π : List Addr) (σ : L2.St) (h : Hm) (H : Hp) (d e : D) (x y : V) (Q : VK), Good G π h H → DV G.K π H d x → DV G.K π H e y → Post G W π σ H (f d e h) (fun π' H' _ z => ∀ v, DV G.K π' H' z v → Q v H') → r x y H Q
theorem chain2 {r : R2} {f : F2} (ho : Op2 (gx X T) r f) {σ : L2.St} {H : Hp} {Q : VK} (p : tE (gx X T) W (m2 f ma mb) σ H Q) : tOp r (tE (gx X T) W ma) (tE (gx X T) W mb) σ H Q := by
  obtain ⟨π, env, h, s, p⟩ := p
  refine ⟨π, env, h, s, p.bind.mono fun π1 H1 h1 d s1 g1 p1 x dx => ?_⟩
  refine ⟨π1, env, h1, s.step s1 g1, p1.bind.mono fun π2 H2 h2 e s2 g2 p2 y ey => ?_⟩
  exact ho W π2 σ h2 H2 d e x y Q g2 (dx.step s2 _ _) ey p2
theorem em_op {op : Operator} {r : R2} {f : F2} (hr : OpR X (binaryOp op) r) (ho : Op2 (gx X T) r f) (ha : Em X T W a ma) (hb : Em X T W b mb) : Em X T W (.BinOp a op b pos) (m2 f ma mb) :=
  PE.of (pe_op hr ha hb) fun σ H Q p => chain2 ho p
theorem em_cmp {op : CmpOp} {r : R2} {f : F2} (hr : OpR X (compareOp op) r) (ho : Op2 (gx X T) r f) (ha : Em X T W a ma) (hb : Em X T W b mb) (hm : behindInMarks op b = false) : Em X T W (.Compare a [op] [b] pos) (m2 f ma mb) :=
  PE.of (pe_cmpR hr ha hb hm) fun σ H Q p => chain2 ho p
theorem am_nil : Am X T W [] mNil := PA.of pa_nil fun σ H Q ⟨π, env, h, s, p⟩ => p π H Step.refl s.good _ rfl
theorem am_cons (ha : Em X T W e me) (hr : Am X T W es mr) (hs : starEach (e :: es) X.env = (false, eval e X.env) :: starEach es X.env := by rfl) : Am X T W (e :: es) (mCons me mr) :=
  PA.of (pa_cons ha hr hs) fun σ H Q ⟨π, env, h, s, p⟩ => by
    refine ⟨π, env, h, s, p.bind.mono fun π1 H1 h1 d s1 g1 p1 x dx => ?_⟩
    refine ⟨π1, env, h1, s.step s1 g1, p1.bind.mono fun π2 H2 h2 e s2 g2 p2 y ey => ?_⟩
    exact p2 π2 H2 Step.refl g2 _ ⟨x, y, rfl, dx.step s2 _ _, ey⟩
end
end MM

namespace MM
open PySem L2

theorem szl {n : Nat} (h : n ≤ 16777216) : n ≤ sizeLine := by rw [sizeLine_eq]; exact h
theorem szl' {n : Nat} (h : n < 16777216) : n < sizeLine := by rw [sizeLine_eq]; exact h
section
variable {G : Gx} {π : List Addr} {h : Hm} {H : Hp} {α : Type}
theorem post_ok {W : WX} {σ : L2.St} {a : α} {Q : List Addr → Hp → Hm → α → Prop} (g : Good G π h H) (p : Post G W π σ H (.ok a h) Q) : Q π H h a := p π H Step.refl g
/-- an answer that stands by itself -/
theorem post_val {W : WX} {σ : L2.St} {d : D} {v : V} {Q : VK} (g : Good G π h H) (p : Post G W π σ H (.ok d h) fun π' H' _ z => ∀ v, DV G.K π' H' z v → Q v H') (e : DV G.K π H d v) : Q v H := p π H Step.refl g v e
/-- a new tuple -/
theorem post_tup {W : WX} {σ : L2.St} {ds : List D} {xs : List V} {Q : VK} (g : Good G π h H) (p : Post G W π σ H (.ok (.tup ds) h) fun π' H' _ z => ∀ v, DV G.K π' H' z v → Q v H') (e : DVs G.K π H ds xs) (a : Addr) (n : H a = none) : Q (.ref a) (upd H a (.tup xs)) :=
  p π _ (Step.other g n) (g.other n) _ ⟨a, xs, rfl, .inl ⟨upd_same, g.free n⟩, e.step (Step.other g n) _ _⟩
/-- a new list -/
theorem post_lst {W : WX} {σ : L2.St} {ds : List D} {xs : List V} {Q : VK} (g : Good G π h H) (p : Post G W π σ H (.ok (.ref h.length) (h ++ [.lst ds])) fun π' H' _ z => ∀ v, DV G.K π' H' z v → Q v H') (e : DVs G.K π H ds xs) (a : Addr) (n : H a = none) : Q (.ref a) (upd H a (.lst xs)) := by
  have s := Step.new (a := a) (u := .lst xs) g n
  refine p (π ++ [a]) _ s (g.new n ⟨xs, upd_same, e.step s _ _⟩) _ ⟨a, ?_, rfl⟩
  rw [List.getElem?_append_right (by rw [g.len]; exact Nat.le_refl _), g.len, Nat.sub_self] <;> rfl
/-- a list of ours, read -/
theorem Good.lst (g : Good G π h H) {i : Nat} {ds : List D} {a : Addr} (e : h[i]? = some (.lst ds)) (q : π[i]? = some a) : ∃ xs, H a = some (.lst xs) ∧ DVs G.K π H ds xs := g.obj e q
end

def fAdd : F2 := fun x y h => match x, y with
  | .int a, .int b => .ok (.int (a + b)) h
  | .str a, .str b => if a.length + b.length ≤ 16777216 then .ok (.str (a ++ b)) h else .bad
  | .tup a, .tup b => if a.length + b.length ≤ 16777216 then .ok (.tup (a ++ b)) h else .bad
  | .ref i, .ref j => match h[i]?, h[j]? with
    | some (.lst a), some (.lst b) => if a.length + b.length ≤ 16777216 then .ok (.ref h.length) (h ++ [.lst (a ++ b)]) else .bad
    | _, _ => .bad
  | _, _ => .bad
def rAddM (K : PySem.W.Frag) : R2 := fun x y H Q => rI0 (fun i j => .int (i + j)) x y H Q ∨ (∃ i j, x = .str i ∧ y = .str j ∧ i.length + j.length ≤ sizeLine ∧ Q (.str (i ++ j)) H) ∨ rCatA K x y H Q ∨ rCat x y H Q
theorem or_add {X : Cx} : OpR X (binaryOp .Add) (rAddM X.K) := op_add.or (op_add_str.or (op_catA.or op_cat))
theorem o2_add {G : Gx} : Op2 G (rAddM G.K) fAdd := by
  intro W π σ h H d e x y Q g dx ey p
  unfold fAdd at p
  split at p
  · obtain rfl := (show x = _ from dx)
    obtain rfl := (show y = _ from ey)
    exact .inl ⟨_, _, rfl, rfl, post_val g p rfl⟩
  · obtain rfl := (show x = _ from dx)
    obtain rfl := (show y = _ from ey)
    split at p
    · rename_i hl
      exact .inr (.inl ⟨_, _, rfl, rfl, szl hl, post_val g p rfl⟩)
    · exact p.elim
  · obtain ⟨a, xs, rfl, ta, da⟩ := dx
    obtain ⟨b, ys, rfl, tb, db⟩ := ey
    split at p
    · rename_i hl
      refine .inr (.inr (.inl ⟨a, b, xs, ys, rfl, rfl, ta.sq, tb.sq, szl (by rw [da.len, db.len]; exact hl), fun z => ?_, fun z1 z2 => ?_, fun z1 z2 q n => ?_⟩))
      · subst z
        have e0 := da.len
        have e1 : _ = [] := List.length_eq_zero_iff.mp e0.symm
        subst e1
        exact post_val g p ⟨b, ys, rfl, tb, db⟩
      · subst z2
        have e0 := db.len
        have e1 : _ = [] := List.length_eq_zero_iff.mp e0.symm
        subst e1
        rw [List.append_nil] at p
        exact post_val g p ⟨a, xs, rfl, ta, da⟩
      · exact post_tup g p (da.app db) q n
    · exact p.elim
  · obtain ⟨a, qa, rfl⟩ := dx
    obtain ⟨b, qb, rfl⟩ := ey
    split at p
    · rename_i u v e1 e2
      split at p
      · rename_i hl
        obtain ⟨xs, ha, da⟩ := g.lst e1 qa
        obtain ⟨ys, hb, db⟩ := g.lst e2 qb
        exact .inr (.inr (.inr ⟨a, b, xs, ys, rfl, rfl, ha, hb, szl (by rw [da.len, db.len]; exact hl), fun q n => post_lst g p (da.app db) q n⟩))
      · exact p.elim
    · exact p.elim
  · exact p.elim

def fI (f : Int → Int → Option D) : F2 := fun x y h => match x, y with
  | .int a, .int b => match f a b with
    | some d => .ok d h
    | none => .bad
  | _, _ => .bad
theorem o2_int {G : Gx} {r : R2} {f : Int → Int → Option D} (w : ∀ i j d H Q v, f i j = some d → DV G.K [] H d v → Q v H → r (.int i) (.int j) H Q) (flat : ∀ i j d, f i j = some d → (∃ k, d = .int k) ∨ ∃ b, d = .bl b) : Op2 G r (fI f) := by
  intro W π σ h H d e x y Q g dx ey p
  unfold fI at p
  split at p
  · rename_i i j
    obtain rfl := (show x = _ from dx)
    obtain rfl := (show y = _ from ey)
    cases q : f i j with
    | none => rw [q] at p; exact p.elim
    | some z =>
      rw [q] at p
      rcases flat i j z q with ⟨k, rfl⟩ | ⟨b, rfl⟩
      · exact w i j _ H Q _ q rfl (post_val g p rfl)
      · exact w i j _ H Q _ q rfl (post_val g p rfl)
  · exact p.elim
theorem o2_I0 {G : Gx} {g : Int → Int → Int} : Op2 G (rI0 fun i j => .int (g i j)) (fI fun i j => some (.int (g i j))) :=
  o2_int (fun i j d H Q v e dv q => by cases e; obtain rfl := (show v = _ from dv); exact ⟨i, j, rfl, rfl, q⟩) (fun i j d e => by cases e; exact .inl ⟨_, rfl⟩)
theorem o2_B0 {G : Gx} {g : Int → Int → Bool} : Op2 G (rI0 fun i j => .bl (g i j)) (fI fun i j => some (.bl (g i j))) :=
  o2_int (fun i j d H Q v e dv q => by cases e; obtain rfl := (show v = _ from dv); exact ⟨i, j, rfl, rfl, q⟩) (fun i j d e => by cases e; exact .inr ⟨_, rfl⟩)
theorem o2_IC {G : Gx} {C : Int → Int → Prop} [∀ i j, Decidable (C i j)] {g : Int → Int → Int} : Op2 G (rI C fun i j => .int (g i j)) (fI fun i j => if C i j then some (.int (g i j)) else none) :=
  o2_int (fun i j d H Q v e dv q => by
    by_cases hc : C i j
    · rw [if_pos hc] at e
      cases e
      obtain rfl := (show v = _ from dv)
      exact ⟨i, j, rfl, rfl, hc, q⟩
    · rw [if_neg hc] at e
      cases e) (fun i j d e => by
    by_cases hc : C i j
    · rw [if_pos hc] at e
      cases e
      exact .inl ⟨_, rfl⟩
    · rw [if_neg hc] at e
      cases e)
def fSub : F2 := fI fun i j => some (.int (i - j))
instance {i j : Int} : Decidable (CMul i j) := inferInstanceAs (Decidable ((-(2 ^ 64) < i ∧ i < 2 ^ 64) ∨ (-(2 ^ 64) < j ∧ j < 2 ^ 64)))
instance {i j : Int} : Decidable (CDivN i j) := inferInstanceAs (Decidable (j ≠ 0 ∧ j.natAbs < 1073741824))
instance {i j : Int} : Decidable (CPow i j) := inferInstanceAs (Decidable (0 ≤ j ∧ j ≤ 1000000 ∧ i.natAbs < 2 ^ 64))
def fMulI : F2 := fI fun i j => if CMul i j then some (.int (i * j)) else none
def fDiv : F2 := fI fun i j => if CDivN i j then some (.int (i.fdiv j)) else none
def fMod : F2 := fI fun i j => if j ≠ 0 then some (.int (i.fmod j)) else none
def fPow : F2 := fI fun i j => if CPow i j then some (.int (i ^ j.toNat)) else none
def fLt : F2 := fI fun i j => some (.bl (decide (i < j)))
def fLe : F2 := fI fun i j => some (.bl (decide (i ≤ j)))
def fGt : F2 := fI fun i j => some (.bl (decide (j < i)))
def fGe : F2 := fI fun i j => some (.bl (decide (j ≤ i)))
/-- * of numbers, of a list by a number, of a tuple by a number -/
def fMul : F2 := fun x y h => match x, y with
  | .int _, .int _ => fMulI x y h
  | .ref i, .int k => match h[i]? with
    | some (.lst a) => if -(2 ^ 63) ≤ k ∧ k < 2 ^ 63 ∧ a.length * k.toNat ≤ 16777216 then .ok (.ref h.length) (h ++ [.lst (List.replicate k.toNat a).flatten]) else .bad
    | _ => .bad
  | .tup a, .int k => if a ≠ [] ∧ 2 ≤ k ∧ k ≤ 1000 ∧ a.length ≤ 1000 then .ok (.tup (List.replicate k.toNat a).flatten) h else .bad
  | _, _ => .bad
theorem DVs.rep {K : PySem.W.Frag} {π : List Addr} {H : Hp} {ds : List D} {xs : List V} (h : DVs K π H ds xs) : ∀ n : Nat, DVs K π H (List.replicate n ds).flatten (List.replicate n xs).flatten
  | 0 => rfl
  | n + 1 => by
    rw [List.replicate_succ, List.replicate_succ, List.flatten_cons, List.flatten_cons]
    exact h.app (DVs.rep h n)
def rMulM (K : PySem.W.Frag) : R2 := fun x y H Q => rI CMul (fun i j => .int (i * j)) x y H Q ∨ rRep x y H Q ∨ rRepT K x y H Q
theorem or_mul {X : Cx} : OpR X (binaryOp .Mult) (rMulM X.K) := op_mul.or (op_rep.or op_repT)
theorem o2_mul {G : Gx} : Op2 G (rMulM G.K) fMul := by
  intro W π σ h H d e x y Q g dx ey p
  unfold fMul at p
  split at p
  · exact .inl (o2_IC W π σ h H _ _ x y Q g dx ey p)
  · obtain ⟨a, qa, rfl⟩ := dx
    obtain rfl := (show y = _ from ey)
    split at p
    · rename_i e1
      split at p
      · rename_i hl
        obtain ⟨xs, ha, da⟩ := g.lst e1 qa
        exact .inr (.inl ⟨a, _, xs, rfl, rfl, ha, hl.1, hl.2.1, szl (by rw [da.len]; exact hl.2.2), fun q n => post_lst g p (da.rep _) q n⟩)
      · exact p.elim
    · exact p.elim
  · obtain ⟨a, xs, rfl, ta, da⟩ := dx
    obtain rfl := (show y = _ from ey)
    split at p
    · rename_i hl
      refine .inr (.inr ⟨a, _, xs, rfl, rfl, ta.sq, fun z => hl.1 ?_, hl.2.1, hl.2.2.1, by rw [da.len]; exact hl.2.2.2, fun q n => post_tup g p (da.rep _) q n⟩)
      subst z
      exact List.length_eq_zero_iff.mp da.len.symm
    · exact p.elim
  · exact p.elim
section
variable {X : Cx} {T : List (Addr × Str)} {W : WX} {a b : Expr} {ma mb : Ev → Hm → R D} {pos : Pos}
theorem em_add (ha : Em X T W a ma) (hb : Em X T W b mb) : Em X T W (.BinOp a .Add b pos) (m2 fAdd ma mb) := em_op or_add o2_add ha hb
theorem em_sub (ha : Em X T W a ma) (hb : Em X T W b mb) : Em X T W (.BinOp a .Sub b pos) (m2 fSub ma mb) := em_op op_sub o2_I0 ha hb
theorem em_mul (ha : Em X T W a ma) (hb : Em X T W b mb) : Em X T W (.BinOp a .Mult b pos) (m2 fMul ma mb) := em_op or_mul o2_mul ha hb
theorem em_div (ha : Em X T W a ma) (hb : Em X T W b mb) : Em X T W (.BinOp a .FloorDiv b pos) (m2 fDiv ma mb) := em_op op_fdivN o2_IC ha hb
theorem em_mod (ha : Em X T W a ma) (hb : Em X T W b mb) : Em X T W (.BinOp a .Mod b pos) (m2 fMod ma mb) := em_op op_modN o2_IC ha hb
theorem em_pow (ha : Em X T W a ma) (hb : Em X T W b mb) : Em X T W (.BinOp a .Pow b pos) (m2 fPow ma mb) := em_op op_pow o2_IC ha hb
theorem em_lt (ha : Em X T W a ma) (hb : Em X T W b mb) : Em X T W (.Compare a [.Lt] [b] pos) (m2 fLt ma mb) := em_cmp op_lt o2_B0 ha hb (nomark _)
theorem em_le (ha : Em X T W a ma) (hb : Em X T W b mb) : Em X T W (.Compare a [.LtE] [b] pos) (m2 fLe ma mb) := em_cmp op_le o2_B0 ha hb (nomark _)
theorem em_gt (ha : Em X T W a ma) (hb : Em X T W b mb) : Em X T W (.Compare a [.Gt] [b] pos) (m2 fGt ma mb) := em_cmp op_gt o2_B0 ha hb (nomark _)
theorem em_ge (ha : Em X T W a ma) (hb : Em X T W b mb) : Em X T W (.Compare a [.GtE] [b] pos) (m2 fGe ma mb) := em_cmp op_ge o2_B0 ha hb (nomark _)
end
end MM

namespace MM
open PySem L2

def mapO {α β : Type} (f : α → Option β) : List α → Option (List β)
  | [] => some []
  | a :: as => match f a with
    | some b => match mapO f as with
      | some bs => some (b :: bs)
      | none => none
    | none => none
/-- a datum as the library's plain data -/
def py (h : Hm) : Nat → D → Option PyData
  | 0, _ => none
  | n + 1, d => match d with
    | .non => some .none
    | .bl b => some (.bool b)
    | .int i => some (.int i)
    | .str x => if PyData.canLay0 (.str x) = true then some (.str x) else none
    | .tup ds => (mapO (py h n) ds).map .tuple
    | .rol ds => (mapO (py h n) ds).map .list
    | .ref i => match h[i]? with
      | some (.lst ds) => (mapO (py h n) ds).map .list
      | _ => none
section
variable {G : Gx} {π : List Addr} {h : Hm} {H : Hp}
def PyOk (q : PyData) (n : Nat) : Prop := q.canLay0 = true ∧ q.depth ≤ n
theorem pys_ok {n : Nat} (ih : ∀ d v q, DV G.K π H d v → py h n d = some q → Dp G.K H v q ∧ PyOk q n) : ∀ (ds : List D) (vs : List V) (qs : List PyData), DVs G.K π H ds vs → mapO (py h n) ds = some qs → DpAll G.K H vs qs ∧ PyData.canLayAll0 qs = true ∧ PyData.depthAll qs ≤ n
  | [], vs, qs, dv, e => by
    obtain rfl := (show vs = [] from dv)
    cases e
    exact ⟨.nil, rfl, Nat.zero_le _⟩
  | d :: ds, vs, qs, ⟨v, ws, ev, h1, h2⟩, e => by
    subst ev
    unfold mapO at e
    cases q1 : py h n d with
    | none => rw [q1] at e; cases e
    | some a =>
      cases q2 : mapO (py h n) ds with
      | none => rw [q1, q2] at e; cases e
      | some as =>
        rw [q1, q2] at e
        cases e
        obtain ⟨i1, i2, i3⟩ := ih d v a h1 q1
        obtain ⟨j1, j2, j3⟩ := pys_ok ih ds ws as h2 q2
        refine ⟨.cons i1 j1, ?_, ?_⟩
        · simp only [PyData.canLayAll0, i2, j2, Bool.and_self]
        · simp only [PyData.depthAll]
          omega
theorem map_some {α β : Type} {f : α → β} {o : Option α} {b : β} (e : o.map f = some b) : ∃ a, o = some a ∧ f a = b := by
  cases o with
  | none => cases e
  | some a => exact ⟨a, rfl, Option.some.inj e⟩
theorem py_ok (g : Good G π h H) : ∀ (n : Nat) (d : D) (v : V) (q : PyData), DV G.K π H d v → py h n d = some q → Dp G.K H v q ∧ PyOk q n
  | 0, _, _, _, _, e => by cases e
  | n + 1, d, v, q, dv, e => by
    have ih := pys_ok (G := G) (π := π) (h := h) (H := H) (py_ok g n)
    cases d with
    | non => cases e; obtain rfl := (show v = _ from dv); exact ⟨.non, rfl, Nat.zero_le _⟩
    | bl b => cases e; obtain rfl := (show v = _ from dv); exact ⟨.bl b, rfl, Nat.zero_le _⟩
    | int b => cases e; obtain rfl := (show v = _ from dv); exact ⟨.int b, rfl, Nat.zero_le _⟩
    | str x =>
      obtain rfl := (show v = _ from dv)
      have e' : (if PyData.canLay0 (.str x) = true then some (PyData.str x) else none) = some q := e
      by_cases hc : PyData.canLay0 (.str x) = true
      · rw [if_pos hc] at e'
        cases e'
        exact ⟨.str x, hc, Nat.zero_le _⟩
      · rw [if_neg hc] at e'
        cases e'
    | tup ds =>
      obtain ⟨a, xs, rfl, t, ds'⟩ := dv
      have e' : (mapO (py h n) ds).map PyData.tuple = some q := e
      obtain ⟨qs, e1, rfl⟩ := map_some e'
      obtain ⟨i1, i2, i3⟩ := ih ds xs qs ds' e1
      exact ⟨.tup t.sq i1, by simp only [PyData.canLay0]; exact i2, by simp only [PyData.depth]; omega⟩
    | rol ds =>
      obtain ⟨a, xs, rfl, t, ds'⟩ := dv
      have e' : (mapO (py h n) ds).map PyData.list = some q := e
      obtain ⟨qs, e1, rfl⟩ := map_some e'
      obtain ⟨i1, i2, i3⟩ := ih ds xs qs ds' e1
      exact ⟨.lst t.sq i1, by simp only [PyData.canLay0]; exact i2, by simp only [PyData.depth]; omega⟩
    | ref i =>
      obtain ⟨a, qa, rfl⟩ := dv
      have e' : (match h[i]? with
        | some (.lst ds) => (mapO (py h n) ds).map PyData.list
        | _ => none) = some q := e
      split at e'
      · rename_i ds e0
        obtain ⟨xs, ha, ds'⟩ := g.lst e0 qa
        obtain ⟨qs, e1, rfl⟩ := map_some e'
        obtain ⟨i1, i2, i3⟩ := ih ds xs qs ds' e1
        exact ⟨.lst (SqL.of ha) i1, by simp only [PyData.canLay0]; exact i2, by simp only [PyData.depth]; omega⟩
      · cases e'
theorem shaped_of {q : PyData} (p : PyOk q 60) : SeqAt.shaped q = true := by
  unfold SeqAt.shaped
  rw [p.1, Bool.true_and]
  exact decide_eq_true (Nat.le_trans p.2 (by decide))
end
/-- data that compare without looking at the heap -/
def flat2 : D → D → Bool
  | .non, .non => true | .non, .int _ => true | .int _, .non => true | .non, .bl _ => true | .bl _, .non => true | .non, .str _ => true | .str _, .non => true
  | .int _, .int _ => true | .bl _, .bl _ => true | .str _, .str _ => true
  | .int _, .str _ => true | .str _, .int _ => true | .bl _, .str _ => true | .str _, .bl _ => true
  | _, _ => false
def fEq : F2 := fun x y h => if flat2 x y = true then .ok (.bl (decide (x = y))) h else match py h 60 x, py h 60 y with
  | some a, some b => .ok (.bl (PyData.eqv a b)) h
  | _, _ => .bad
def fNe : F2 := fun x y h => if flat2 x y = true then .ok (.bl (!decide (x = y))) h else match py h 60 x, py h 60 y with
  | some a, some b => .ok (.bl (!PyData.eqv a b)) h
  | _, _ => .bad
def rEqM (K : PySem.W.Frag) : R2 := fun x y H Q => rEq x y H Q ∨ rEqD K x y H Q
def rNeM (K : PySem.W.Frag) : R2 := fun x y H Q => rNe x y H Q ∨ rNeD K x y H Q
theorem flat2_scal {K : PySem.W.Frag} {π : List Addr} {H : Hp} {d e : D} {x y : V} (f : flat2 d e = true) (dx : DV K π H d x) (ey : DV K π H e y) : scal x y = true ∧ decide (x = y) = decide (d = e) := by
  cases d <;> cases e <;> first
    | exact absurd f Bool.false_ne_true
    | (obtain rfl := (show x = _ from dx)
       obtain rfl := (show y = _ from ey)
       exact ⟨rfl, by simp⟩)
theorem o2_eq {G : Gx} : Op2 G (rEqM G.K) fEq := by
  intro W π σ h H d e x y Q g dx ey p
  unfold fEq at p
  split at p
  · rename_i f
    obtain ⟨h1, h2⟩ := flat2_scal f dx ey
    exact .inl ⟨h1, post_val g p (by rw [h2]; rfl)⟩
  · split at p
    · rename_i a b e1 e2
      obtain ⟨i1, i2⟩ := py_ok g _ _ _ _ dx e1
      obtain ⟨j1, j2⟩ := py_ok g _ _ _ _ ey e2
      exact .inr ⟨a, b, i1, j1, shaped_of i2, shaped_of j2, post_val g p rfl⟩
    · exact p.elim
theorem o2_ne {G : Gx} : Op2 G (rNeM G.K) fNe := by
  intro W π σ h H d e x y Q g dx ey p
  unfold fNe at p
  split at p
  · rename_i f
    obtain ⟨h1, h2⟩ := flat2_scal f dx ey
    exact .inl ⟨h1, post_val g p (by rw [h2]; rfl)⟩
  · split at p
    · rename_i a b e1 e2
      obtain ⟨i1, i2⟩ := py_ok g _ _ _ _ dx e1
      obtain ⟨j1, j2⟩ := py_ok g _ _ _ _ ey e2
      exact .inr ⟨a, b, i1, j1, shaped_of i2, shaped_of j2, post_val g p rfl⟩
    · exact p.elim

def flatD : D → Bool
  | .non => true | .bl _ => true | .int _ => true | .str _ => true
  | _ => false
def eqF : D → D → Bool
  | .non, .non => true
  | .bl a, .bl b => a == b
  | .bl a, .int b => (if a then 1 else 0) == b
  | .int a, .bl b => a == (if b then 1 else 0)
  | .int a, .int b => a == b
  | .str a, .str b => a == b
  | _, _ => false
def inF (x : D) (ds : List D) : Bool := ds.any fun y => eqF y x
def keyD : D → Option Key
  | .int i => some (.inl i)
  | .str x => some (.inr x)
  | _ => none
def getK (kvs : List (Key × D)) (k : Key) : Option D := (kvs.find? fun p => decide (p.1 = k)).map (·.2)
def fIn (neg : Bool) : F2 := fun x y h => match y with
  | .tup ds => if flatD x = true ∧ ds.all flatD = true then .ok (.bl (if neg then !inF x ds else inF x ds)) h else .bad
  | .rol ds => if flatD x = true ∧ ds.all flatD = true then .ok (.bl (if neg then !inF x ds else inF x ds)) h else .bad
  | .ref i => match h[i]? with
    | some (.lst ds) => if flatD x = true ∧ ds.all flatD = true then .ok (.bl (if neg then !inF x ds else inF x ds)) h else match py h 60 x, py h 60 (.ref i) with
      | some a, some (.list bs) => .ok (.bl (if neg then !bs.any fun z => PyData.eqv z a else bs.any fun z => PyData.eqv z a)) h
      | _, _ => .bad
    | some (.dic kvs) => match keyD x with
      | some k => .ok (.bl (if neg then !(getK kvs k).isSome else (getK kvs k).isSome)) h
      | none => .bad
    | some (.dicL kvs) => match keyD x with
      | some k => .ok (.bl (if neg then !(getK kvs k).isSome else (getK kvs k).isSome)) h
      | none => .bad
    | _ => .bad
  | .str b => match x with
    | .str a => .ok (.bl (if neg then !(!(Builtin.Str.occurrences b a 0 b.length 1).isEmpty) else !(Builtin.Str.occurrences b a 0 b.length 1).isEmpty)) h
    | _ => .bad
  | _ => .bad
section
variable {K : PySem.W.Frag} {π : List Addr} {H : Hp}
theorem flatD_V : ∀ {d : D} {x : V}, flatD d = true → DV K π H d x → flatV x = true := by
  intro d x f dx
  cases d <;> first
    | exact absurd f Bool.false_ne_true
    | (obtain rfl := (show x = _ from dx); rfl)
theorem eqF_V {d e : D} {x y : V} (f : flatD d = true) (f' : flatD e = true) (dx : DV K π H d x) (ey : DV K π H e y) : eqV x y = eqF d e := by
  cases d <;> cases e <;> first
    | exact absurd f Bool.false_ne_true
    | exact absurd f' Bool.false_ne_true
    | (obtain rfl := (show x = _ from dx)
       obtain rfl := (show y = _ from ey)
       rfl)
theorem flatDs_V : ∀ {ds : List D} {xs : List V}, ds.all flatD = true → DVs K π H ds xs → xs.all flatV = true
  | [], _, _, h => by rw [show _ = [] from h] <;> rfl
  | d :: ds, _, f, ⟨v, vs, e, h, q⟩ => by
    rw [List.all_cons, Bool.and_eq_true] at f
    rw [e, List.all_cons, flatD_V f.1 h, flatDs_V f.2 q] <;> rfl
theorem inF_V {d : D} {x : V} (f : flatD d = true) (dx : DV K π H d x) : ∀ {ds : List D} {xs : List V}, ds.all flatD = true → DVs K π H ds xs → inV x xs = inF d ds
  | [], _, _, h => by rw [show _ = [] from h] <;> rfl
  | e :: ds, _, fs, ⟨v, vs, ev, h, q⟩ => by
    rw [List.all_cons, Bool.and_eq_true] at fs
    have ih := inF_V f dx fs.2 q
    unfold inV inF at ih ⊢
    rw [ev, List.any_cons, List.any_cons, ih, eqF_V fs.1 f h dx]
theorem keyD_V {d : D} {x : V} {k : Key} (e : keyD d = some k) (dx : DV K π H d x) : x = kV k := by
  cases d <;> first
    | (cases e; obtain rfl := (show x = _ from dx); rfl)
    | cases e
theorem getK_V {κ : Key} : ∀ {kvs : List (Key × D)} {xs : List (Key × V)}, DPs K π H kvs xs → match getK kvs κ with
    | some d => ∃ v, valV xs κ = some v ∧ DV K π H d v
    | none => valV xs κ = none
  | [], _, h => by rw [show _ = [] from h] <;> rfl
  | p :: ps, _, ⟨v, vs, e, h, q⟩ => by
    have ih := getK_V (κ := κ) q
    rw [e]
    unfold getK valV at ih ⊢
    by_cases hk : p.1 = κ
    · simp only [List.find?_cons, hk, decide_true, Option.map_some]
      first
        | exact ⟨v, rfl, h⟩
        | (refine ⟨v, ?_, h⟩; simp)
    · simp only [List.find?_cons, hk, decide_false]
      first
        | exact ih
        | (simp [hk]; exact ih)
end
end MM

namespace MM
open PySem L2

def rDin (neg : Bool) : R2 := fun x y H Q => ∃ a o, y = .ref a ∧ DGet H a x o ∧ Q (.bl (if neg then !o.isSome else o.isSome)) H
theorem op_din {X : Cx} (hu : X.A.units + 1 < cLine) : OpR X (compareOp .In) (rDin false) := by
  intro pins s σ H x y v u Q I rx ry h
  obtain ⟨a, o, rfl, g, q⟩ := h
  obtain rfl : u = Value.ref a := ry
  exact d_in hu I g rx fun s3 I3 => ⟨.bl o.isSome, H, I3, rfl, q⟩
theorem op_dnotin {X : Cx} (hu : X.A.units + 1 < cLine) : OpR X (compareOp .NotIn) (rDin true) := by
  intro pins s σ H x y v u Q I rx ry h
  obtain ⟨a, o, rfl, g, q⟩ := h
  obtain rfl : u = Value.ref a := ry
  exact d_notIn hu I g rx fun s3 I3 => ⟨.bl (!o.isSome), H, I3, rfl, q⟩
def rInDn (K : PySem.W.Frag) (neg : Bool) : R2 := fun x y H Q => ∃ d ds, Dp K H x d ∧ Dp K H y (.list ds) ∧ SeqAt.shaped d = true ∧ SeqAt.shaped (.list ds) = true ∧ Q (.bl (if neg then !ds.any fun z => PyData.eqv z d else ds.any fun z => PyData.eqv z d)) H
def rInS (neg : Bool) : R2 := fun x y H Q => ∃ i j, x = .str i ∧ y = .str j ∧ Q (.bl (if neg then !(!(Builtin.Str.occurrences j i 0 j.length 1).isEmpty) else !(Builtin.Str.occurrences j i 0 j.length 1).isEmpty)) H
def rInM (K : PySem.W.Frag) (neg : Bool) : R2 := fun x y H Q => rIn K neg x y H Q ∨ rInDn K neg x y H Q ∨ rDin neg x y H Q ∨ rInS neg x y H Q
theorem or_in {X : Cx} (hu : X.A.units + 65 < cLine) : OpR X (compareOp .In) (rInM X.K false) := op_in_seq.or ((op_inD hu).or ((op_din (by omega)).or op_in_str))
theorem or_nin {X : Cx} (hu : X.A.units + 65 < cLine) : OpR X (compareOp .NotIn) (rInM X.K true) := op_notIn_seq.or ((op_notInD hu).or ((op_dnotin (by omega)).or op_notin_str))
theorem o2_in {G : Gx} {neg : Bool} : Op2 G (rInM G.K neg) (fIn neg) := by
  intro W π σ h H d e x y Q g dx ey p
  unfold fIn at p
  split at p
  · obtain ⟨a, xs, rfl, t, ds'⟩ := ey
    split at p
    · rename_i f
      refine .inl ⟨a, xs, rfl, .inr t.sq, flatD_V f.1 dx, flatDs_V f.2 ds', ?_⟩
      rw [inF_V f.1 dx f.2 ds']
      exact post_val g p rfl
    · exact p.elim
  · obtain ⟨a, xs, rfl, t, ds'⟩ := ey
    split at p
    · rename_i f
      refine .inl ⟨a, xs, rfl, .inl t.sq, flatD_V f.1 dx, flatDs_V f.2 ds', ?_⟩
      rw [inF_V f.1 dx f.2 ds']
      exact post_val g p rfl
    · exact p.elim
  · split at p
    · rename_i e0
      split at p
      · rename_i f
        obtain ⟨a, qa, rfl⟩ := ey
        obtain ⟨xs, ha, ds'⟩ := g.lst e0 qa
        refine .inl ⟨a, xs, rfl, .inl (SqL.of ha), flatD_V f.1 dx, flatDs_V f.2 ds', ?_⟩
        rw [inF_V f.1 dx f.2 ds']
        exact post_val g p rfl
      · split at p
        · rename_i a bs e1 e2
          obtain ⟨i1, i2⟩ := py_ok g _ _ _ _ dx e1
          obtain ⟨j1, j2⟩ := py_ok g _ _ _ _ ey e2
          exact .inr (.inl ⟨a, bs, i1, j1, shaped_of i2, shaped_of j2, post_val g p rfl⟩)
        · exact p.elim
    · rename_i kvs e0
      split at p
      · rename_i k ek
        obtain ⟨a, qa, rfl⟩ := ey
        obtain ⟨xs, ha, ds'⟩ := g.obj e0 qa
        obtain rfl := keyD_V ek dx
        refine .inr (.inr (.inl ⟨a, _, rfl, DGet.k ha, ?_⟩))
        have z := getK_V (κ := k) ds'
        cases q : getK kvs k with
        | none =>
          rw [q] at z p
          rw [show valV xs k = none from z]
          exact post_val g p rfl
        | some w =>
          rw [q] at z p
          obtain ⟨v, z1, z2⟩ := z
          rw [z1]
          exact post_val g p rfl
      · exact p.elim
    · rename_i kvs e0
      split at p
      · rename_i k ek
        obtain ⟨a, qa, rfl⟩ := ey
        obtain ⟨oo, xs, ha, ds'⟩ := g.obj e0 qa
        obtain rfl := keyD_V ek dx
        refine .inr (.inr (.inl ⟨a, _, rfl, Or.inl ⟨xs, _, .inr ⟨oo, ha⟩, rfl, rfl⟩, ?_⟩))
        have z := getK_V (κ := k) ds'
        cases q : getK kvs k with
        | none =>
          rw [q] at z p
          rw [show valV xs k = none from z]
          exact post_val g p rfl
        | some w =>
          rw [q] at z p
          obtain ⟨v, z1, z2⟩ := z
          rw [z1]
          exact post_val g p rfl
      · exact p.elim
    · exact p.elim
  · obtain rfl := (show y = _ from ey)
    split at p
    · obtain rfl := (show x = _ from dx)
      exact .inr (.inr (.inr ⟨_, _, rfl, rfl, post_val g p rfl⟩))
    · exact p.elim
  · exact p.elim

def fIs (neg : Bool) : F2 := fun x y h => match y with
  | .non => .ok (.bl (if neg then !decide (x = .non) else decide (x = .non))) h
  | .bl b => match x with
    | .bl a => .ok (.bl (if neg then !decide (a = b) else decide (a = b))) h
    | _ => .bad
  | _ => .bad
def rIsM (neg : Bool) : R2 := fun x y H Q => (y = .non ∧ Q (.bl (if neg then !decide (x = .non) else decide (x = .non))) H) ∨ ∃ a b : Bool, x = .bl a ∧ y = .bl b ∧ Q (.bl (if neg then !decide (a = b) else decide (a = b))) H
theorem or_is {X : Cx} : OpR X (compareOp .Is) (rIsM false) := op_isN.or op_isBl
theorem or_isnot {X : Cx} : OpR X (compareOp .IsNot) (rIsM true) := op_notN.or op_notBl
theorem non_iff {K : PySem.W.Frag} {π : List Addr} {H : Hp} {d : D} {x : V} (dx : DV K π H d x) : decide (x = .non) = decide (d = .non) := by
  cases d <;> first
    | (obtain rfl := (show x = _ from dx); simp)
    | (obtain ⟨a, _, rfl⟩ := dx; simp)
    | (obtain ⟨a, xs, rfl, _⟩ := dx; simp)
theorem o2_is {G : Gx} {neg : Bool} : Op2 G (rIsM neg) (fIs neg) := by
  intro W π σ h H d e x y Q g dx ey p
  unfold fIs at p
  split at p
  · obtain rfl := (show y = _ from ey)
    refine .inl ⟨rfl, ?_⟩
    rw [non_iff dx]
    exact post_val g p rfl
  · obtain rfl := (show y = _ from ey)
    split at p
    · obtain rfl := (show x = _ from dx)
      exact .inr ⟨_, _, rfl, rfl, post_val g p rfl⟩
    · exact p.elim
  · exact p.elim
section
variable {X : Cx} {T : List (Addr × Str)} {W : WX} {a b : Expr} {ma mb : Ev → Hm → R D} {pos : Pos}
theorem em_eq (hu : X.A.units + 64 < cLine) (ha : Em X T W a ma) (hb : Em X T W b mb) : Em X T W (.Compare a [.Eq] [b] pos) (m2 fEq ma mb) := em_cmp (op_eq.or (op_eqD hu)) o2_eq ha hb (nomark _)
theorem em_ne (hu : X.A.units + 64 < cLine) (ha : Em X T W a ma) (hb : Em X T W b mb) : Em X T W (.Compare a [.NotEq] [b] pos) (m2 fNe ma mb) := em_cmp (op_ne.or (op_neD hu)) o2_ne ha hb (nomark _)
theorem em_in (hu : X.A.units + 65 < cLine) (ha : Em X T W a ma) (hb : Em X T W b mb) (hm : behindInMarks .In b = false := by rfl) : Em X T W (.Compare a [.In] [b] pos) (m2 (fIn false) ma mb) := em_cmp (or_in hu) o2_in ha hb hm
theorem em_nin (hu : X.A.units + 65 < cLine) (ha : Em X T W a ma) (hb : Em X T W b mb) (hm : behindInMarks .NotIn b = false := by rfl) : Em X T W (.Compare a [.NotIn] [b] pos) (m2 (fIn true) ma mb) := em_cmp (or_nin hu) o2_in ha hb hm
theorem em_is (ha : Em X T W a ma) (hb : Em X T W b mb) : Em X T W (.Compare a [.Is] [b] pos) (m2 (fIs false) ma mb) := em_cmp or_is o2_is ha hb (nomark _)
theorem em_isnot (ha : Em X T W a ma) (hb : Em X T W b mb) : Em X T W (.Compare a [.IsNot] [b] pos) (m2 (fIs true) ma mb) := em_cmp or_isnot o2_is ha hb (nomark _)
end

def truD (h : Hm) : D → Option Bool
  | .non => some false
  | .bl b => some b
  | .int i => some (i != 0)
  | .str x => if x.length ≤ 16777216 then some ((x.length : Int) != 0) else none
  | .tup ds => some (!ds.isEmpty)
  | .rol ds => some (!ds.isEmpty)
  | .ref i => match h[i]? with
    | some (.lst ds) => some (!ds.isEmpty)
    | some (.dic kvs) => some (!kvs.isEmpty)
    | _ => none
def fTru (x : D) (h : Hm) : R Bool := match truD h x with
  | some b => .ok b h
  | none => .bad
theorem DVs.isEmpty {K : PySem.W.Frag} {π : List Addr} {H : Hp} : ∀ {ds : List D} {xs : List V}, DVs K π H ds xs → xs.isEmpty = ds.isEmpty
  | [], _, h => by rw [show _ = [] from h] <;> rfl
  | d :: ds, _, ⟨v, vs, e, _, _⟩ => by rw [e] <;> rfl
theorem DPs.isEmpty {κ : Type} {K : PySem.W.Frag} {π : List Addr} {H : Hp} : ∀ {ds : List (κ × D)} {xs : List (κ × V)}, DPs K π H ds xs → xs.isEmpty = ds.isEmpty
  | [], _, h => by rw [show _ = [] from h] <;> rfl
  | d :: ds, _, ⟨v, vs, e, _, _⟩ => by rw [e] <;> rfl
theorem tru_V {G : Gx} {π : List Addr} {h : Hm} {H : Hp} (g : Good G π h H) {d : D} {x : V} {k : Bool} (dx : DV G.K π H d x) (e : truD h d = some k) : TruV G.K x H k := by
  cases d with
  | non => obtain rfl := (show x = _ from dx); cases e; rfl
  | bl b => obtain rfl := (show x = _ from dx); cases e; rfl
  | int b => obtain rfl := (show x = _ from dx); cases e; rfl
  | str b =>
    obtain rfl := (show x = _ from dx)
    have e' : (if b.length ≤ 16777216 then some ((b.length : Int) != 0) else none) = some k := e
    by_cases hl : b.length ≤ 16777216
    · rw [if_pos hl] at e'
      cases e'
      exact ⟨szl hl, rfl⟩
    · rw [if_neg hl] at e'
      cases e'
  | tup ds => obtain ⟨a, xs, rfl, t, q⟩ := dx; cases e; exact .inr (.inl ⟨xs, t.sq, by rw [q.isEmpty]⟩)
  | rol ds => obtain ⟨a, xs, rfl, t, q⟩ := dx; cases e; exact .inl ⟨xs, t.sq, by rw [q.isEmpty]⟩
  | ref i =>
    obtain ⟨a, qa, rfl⟩ := dx
    have e' : (match h[i]? with
      | some (.lst ds) => some (!ds.isEmpty)
      | some (.dic kvs) => some (!kvs.isEmpty)
      | _ => none) = some k := e
    split at e'
    · rename_i ds e0
      obtain ⟨xs, ha, ds'⟩ := g.lst e0 qa
      cases e'
      exact .inl ⟨xs, SqL.of ha, by rw [ds'.isEmpty]⟩
    · rename_i kvs e0
      obtain ⟨xs, ha, ds'⟩ := g.obj e0 qa
      cases e'
      exact .inr (.inr ⟨xs, ha, by rw [ds'.isEmpty]⟩)
    · cases e'
def mTru (m : Ev → Hm → R D) : Ev → Hm → R Bool := fun env h => (m env h).bind fTru
/-- the answer is True or False -/
def mBool (m : Ev → Hm → R D) : Ev → Hm → R Bool := fun env h => (m env h).bind fun x h1 => match x with
  | .bl b => .ok b h1
  | _ => .bad
def mAnd (a b : Ev → Hm → R Bool) : Ev → Hm → R Bool := fun env h => (a env h).bind fun k h1 => if k = true then b env h1 else .ok false h1
def mOr (a b : Ev → Hm → R Bool) : Ev → Hm → R Bool := fun env h => (a env h).bind fun k h1 => if k = true then .ok true h1 else b env h1
def mNot (a : Ev → Hm → R Bool) : Ev → Hm → R Bool := fun env h => (a env h).bind fun k h1 => .ok (!k) h1
def mAndV (a b : Ev → Hm → R D) : Ev → Hm → R D := fun env h => (a env h).bind fun x h1 => (fTru x h1).bind fun k h2 => if k = true then b env h2 else .ok x h2
def mOrV (a b : Ev → Hm → R D) : Ev → Hm → R D := fun env h => (a env h).bind fun x h1 => (fTru x h1).bind fun k h2 => if k = true then .ok x h2 else b env h2
def mNotV (a : Ev → Hm → R D) : Ev → Hm → R D := fun env h => (a env h).bind fun x h1 => (fTru x h1).bind fun k h2 => .ok (.bl (!k)) h2
def mIf (c : Ev → Hm → R Bool) (a b : Ev → Hm → R D) : Ev → Hm → R D := fun env h => (c env h).bind fun k h1 => if k = true then a env h1 else b env h1
def mChain (f f' : F2) (a b c : Ev → Hm → R D) : Ev → Hm → R D := fun env h => (a env h).bind fun x h1 => (b env h1).bind fun y h2 => (f x y h2).bind fun z h3 => match z with
  | .bl k => if k = true then (c env h3).bind fun w h4 => f' y w h4 else .ok (.bl false) h3
  | _ => .bad
def mNeg (a : Ev → Hm → R D) : Ev → Hm → R D := fun env h => (a env h).bind fun x h1 => match x with
  | .int i => .ok (.int (-i)) h1
  | _ => .bad
abbrev Wm (X : Cx) (T : List (Addr × Str)) (W : WX) (e : Expr) (m : Ev → Hm → R Bool) : Prop := PW X e (tB' (gx X T) W m)
theorem PW.of {X : Cx} {e : Expr} {t t' : TT} (p : PW X e t) (w : ∀ σ H Q, t' σ H Q → t σ H Q) : PW X e t' := ⟨fun wh pins s σ H Q I h => p.run wh pins s σ H Q I (w σ H Q h)⟩
section
variable {X : Cx} {T : List (Addr × Str)} {W : WX} {a b c : Expr} {rest : List Expr} {ma mb mc : Ev → Hm → R D} {ta tb tc : Ev → Hm → R Bool} {pos : Pos}
theorem tm_tru (ha : Em X T W a ma) (he : ∀ whole, isTrue a X.env whole = (do let v ← whole; standAt a.pos; holding [v] (truthy v)) := by intro _; rfl) : Tm X T W a (mTru ma) := PT.of (pt_truth ha he) fun σ H Q ⟨π, env, h, s, p⟩ => by
  refine ⟨π, env, h, s, p.bind.mono fun π1 H1 h1 d s1 g1 p1 x dx => ?_⟩
  unfold fTru at p1
  cases q : truD h1 d with
  | none => rw [q] at p1; exact p1.elim
  | some k => rw [q] at p1; exact ⟨k, tru_V g1 dx q, p1 π1 H1 Step.refl g1⟩
theorem tm_val (ha : Em X T W a ma) (he : ∀ whole, isTrue a X.env whole = (do let v ← whole; standAt a.pos; holding [v] (truthy v)) := by intro _; rfl) : Tm X T W a (mBool ma) := PT.of (pt_val ha he) fun σ H Q ⟨π, env, h, s, p⟩ => by
  refine ⟨π, env, h, s, p.bind.mono fun π1 H1 h1 d s1 g1 p1 x dx => ?_⟩
  cases d <;> first
    | exact p1.elim
    | (obtain rfl := (show x = _ from dx); exact ⟨_, rfl, p1 π1 H1 Step.refl g1⟩)
/-- a comparison as a test -/
theorem tm_cmp {op : CmpOp} {r : R2} {f : F2} (hr : OpR X (compareOp op) r) (ho : Op2 (gx X T) r f) (ha : Em X T W a ma) (hb : Em X T W b mb) (hm : behindInMarks op b = false) : Tm X T W (.Compare a [op] [b] pos) (mBool (m2 f ma mb)) :=
  PT.of (pt_cmpR hr ha hb hm) fun σ H Q ⟨π, env, h, s, p⟩ => by
    refine chain2 ho ⟨π, env, h, s, p.bind.mono fun π1 H1 h1 d s1 g1 p1 x dx => ?_⟩
    cases d <;> first
      | exact p1.elim
      | (obtain rfl := (show x = _ from dx); exact ⟨_, rfl, p1 π1 H1 Step.refl g1⟩)
theorem tm_lt (ha : Em X T W a ma) (hb : Em X T W b mb) : Tm X T W (.Compare a [.Lt] [b] pos) (mBool (m2 fLt ma mb)) := tm_cmp op_lt o2_B0 ha hb (nomark _)
theorem tm_le (ha : Em X T W a ma) (hb : Em X T W b mb) : Tm X T W (.Compare a [.LtE] [b] pos) (mBool (m2 fLe ma mb)) := tm_cmp op_le o2_B0 ha hb (nomark _)
theorem tm_gt (ha : Em X T W a ma) (hb : Em X T W b mb) : Tm X T W (.Compare a [.Gt] [b] pos) (mBool (m2 fGt ma mb)) := tm_cmp op_gt o2_B0 ha hb (nomark _)
theorem tm_ge (ha : Em X T W a ma) (hb : Em X T W b mb) : Tm X T W (.Compare a [.GtE] [b] pos) (mBool (m2 fGe ma mb)) := tm_cmp op_ge o2_B0 ha hb (nomark _)
theorem tm_eq (hu : X.A.units + 64 < cLine) (ha : Em X T W a ma) (hb : Em X T W b mb) : Tm X T W (.Compare a [.Eq] [b] pos) (mBool (m2 fEq ma mb)) := tm_cmp (op_eq.or (op_eqD hu)) o2_eq ha hb (nomark _)
theorem tm_ne (hu : X.A.units + 64 < cLine) (ha : Em X T W a ma) (hb : Em X T W b mb) : Tm X T W (.Compare a [.NotEq] [b] pos) (mBool (m2 fNe ma mb)) := tm_cmp (op_ne.or (op_neD hu)) o2_ne ha hb (nomark _)
theorem tm_in (hu : X.A.units + 65 < cLine) (ha : Em X T W a ma) (hb : Em X T W b mb) (hm : behindInMarks .In b = false := by rfl) : Tm X T W (.Compare a [.In] [b] pos) (mBool (m2 (fIn false) ma mb)) := tm_cmp (or_in hu) o2_in ha hb hm
theorem tm_nin (hu : X.A.units + 65 < cLine) (ha : Em X T W a ma) (hb : Em X T W b mb) (hm : behindInMarks .NotIn b = false := by rfl) : Tm X T W (.Compare a [.NotIn] [b] pos) (mBool (m2 (fIn true) ma mb)) := tm_cmp (or_nin hu) o2_in ha hb hm
theorem tm_is (ha : Em X T W a ma) (hb : Em X T W b mb) : Tm X T W (.Compare a [.Is] [b] pos) (mBool (m2 (fIs false) ma mb)) := tm_cmp or_is o2_is ha hb (nomark _)
theorem tm_isnot (ha : Em X T W a ma) (hb : Em X T W b mb) : Tm X T W (.Compare a [.IsNot] [b] pos) (mBool (m2 (fIs true) ma mb)) := tm_cmp or_isnot o2_is ha hb (nomark _)
theorem wm_and1 (ha : Tm X T W a ta) : Wm X T W (.BoolOp .And [a] pos) ta := pw_and1 ha
theorem wm_or1 (ha : Tm X T W a ta) : Wm X T W (.BoolOp .Or [a] pos) ta := pw_or1 ha
theorem wm_and (ha : Tm X T W a ta) (hb : Wm X T W (.BoolOp .And (b :: rest) pos) tb) : Wm X T W (.BoolOp .And (a :: b :: rest) pos) (mAnd ta tb) := PW.of (pw_and ha hb) fun σ H Q ⟨π, env, h, s, p⟩ => by
  refine ⟨π, env, h, s, p.bind.mono fun π1 H1 h1 k s1 g1 p1 => ?_⟩
  cases k with
  | true => exact iteT ⟨π1, env, h1, s.step s1 g1, p1⟩
  | false => exact iteF (p1 π1 H1 Step.refl g1)
theorem wm_or (ha : Tm X T W a ta) (hb : Wm X T W (.BoolOp .Or (b :: rest) pos) tb) : Wm X T W (.BoolOp .Or (a :: b :: rest) pos) (mOr ta tb) := PW.of (pw_or ha hb) fun σ H Q ⟨π, env, h, s, p⟩ => by
  refine ⟨π, env, h, s, p.bind.mono fun π1 H1 h1 k s1 g1 p1 => ?_⟩
  cases k with
  | true => exact iteT (p1 π1 H1 Step.refl g1)
  | false => exact iteF ⟨π1, env, h1, s.step s1 g1, p1⟩
theorem tm_wm (h : Wm X T W a ta) : Tm X T W a ta := PW.pt h
theorem tm_not (ha : Tm X T W a ta) : Tm X T W (.UnaryOp .Not a pos) (mNot ta) := PT.of (pt_not ha) fun σ H Q ⟨π, env, h, s, p⟩ =>
  ⟨π, env, h, s, p.bind.mono fun π1 H1 h1 k s1 g1 p1 => p1 π1 H1 Step.refl g1⟩
theorem em_one {op} (ha : Em X T W a ma) : Em X T W (.BoolOp op [a] pos) ma := pe_one ha
theorem em_and (ha : Em X T W a ma) (hb : Em X T W (.BoolOp .And (b :: rest) pos) mb) : Em X T W (.BoolOp .And (a :: b :: rest) pos) (mAndV ma mb) := PE.of (pe_andT ha hb) fun σ H Q ⟨π, env, h, s, p⟩ => by
  refine ⟨π, env, h, s, p.bind.mono fun π1 H1 h1 d s1 g1 p1 x dx => ?_⟩
  unfold fTru at p1
  cases q : truD h1 d with
  | none => rw [q] at p1; exact p1.elim
  | some k =>
    rw [q] at p1
    refine ⟨k, tru_V g1 dx q, ?_⟩
    cases k with
    | true => exact iteT ⟨π1, env, h1, s.step s1 g1, p1⟩
    | false => exact iteF (p1 π1 H1 Step.refl g1 x dx)
theorem em_or (ha : Em X T W a ma) (hb : Em X T W (.BoolOp .Or (b :: rest) pos) mb) : Em X T W (.BoolOp .Or (a :: b :: rest) pos) (mOrV ma mb) := PE.of (pe_orT ha hb) fun σ H Q ⟨π, env, h, s, p⟩ => by
  refine ⟨π, env, h, s, p.bind.mono fun π1 H1 h1 d s1 g1 p1 x dx => ?_⟩
  unfold fTru at p1
  cases q : truD h1 d with
  | none => rw [q] at p1; exact p1.elim
  | some k =>
    rw [q] at p1
    refine ⟨k, tru_V g1 dx q, ?_⟩
    cases k with
    | true => exact iteT (p1 π1 H1 Step.refl g1 x dx)
    | false => exact iteF ⟨π1, env, h1, s.step s1 g1, p1⟩
theorem em_not (ha : Em X T W a ma) : Em X T W (.UnaryOp .Not a pos) (mNotV ma) := PE.of (pe_notT ha) fun σ H Q ⟨π, env, h, s, p⟩ => by
  refine ⟨π, env, h, s, p.bind.mono fun π1 H1 h1 d s1 g1 p1 x dx => ?_⟩
  unfold fTru at p1
  cases q : truD h1 d with
  | none => rw [q] at p1; exact p1.elim
  | some k => rw [q] at p1; exact ⟨k, tru_V g1 dx q, p1 π1 H1 Step.refl g1 _ rfl⟩
theorem em_if (hc : Tm X T W c tc) (ha : Em X T W a ma) (hb : Em X T W b mb) : Em X T W (.IfExp c a b pos) (mIf tc ma mb) := PE.of (pe_ifExp hc ha hb) fun σ H Q ⟨π, env, h, s, p⟩ => by
  refine ⟨π, env, h, s, p.bind.mono fun π1 H1 h1 k s1 g1 p1 => ?_⟩
  cases k with
  | true => exact iteT ⟨π1, env, h1, s.step s1 g1, p1⟩
  | false => exact iteF ⟨π1, env, h1, s.step s1 g1, p1⟩
theorem em_neg (ha : Em X T W a ma) : Em X T W (.UnaryOp .USub a pos) (mNeg ma) := PE.of (pe_un un_neg ha) fun σ H Q ⟨π, env, h, s, p⟩ => by
  refine ⟨π, env, h, s, p.bind.mono fun π1 H1 h1 d s1 g1 p1 x dx => ?_⟩
  cases d <;> first
    | exact p1.elim
    | (obtain rfl := (show x = _ from dx); exact ⟨_, rfl, p1 π1 H1 Step.refl g1 _ rfl⟩)
theorem chain3 {r r' : R2} {f f' : F2} (ho : Op2 (gx X T) r f) (ho' : Op2 (gx X T) r' f') {σ : L2.St} {H : Hp} {Q : VK} (p : tE (gx X T) W (mChain f f' ma mb mc) σ H Q) : tChain r r' (tE (gx X T) W ma) (tE (gx X T) W mb) (tE (gx X T) W mc) σ H Q := by
  obtain ⟨π, env, h, s, p⟩ := p
  refine ⟨π, env, h, s, p.bind.mono fun π1 H1 h1 d s1 g1 p1 x dx => ?_⟩
  refine ⟨π1, env, h1, s.step s1 g1, p1.bind.mono fun π2 H2 h2 e s2 g2 p2 y ey => ?_⟩
  refine ho W π2 σ h2 H2 d e x y _ g2 (dx.step s2 _ _) ey (p2.bind.mono fun π3 H3 h3 z s3 g3 p3 v zv => ?_)
  cases z <;> first
    | exact p3.elim
    | skip
  rename_i k
  obtain rfl := (show v = _ from zv)
  refine ⟨k, rfl, ?_⟩
  cases k with
  | true => exact iteT ⟨π3, env, h3, ((s.step s1 g1).step s2 g2).step s3 g3, p3.bind.mono fun π4 H4 h4 w s4 g4 p4 u wu => ho' W π4 σ h4 H4 e w y u Q g4 ((ey.step s3 _ _).step s4 _ _) wu p4⟩
  | false => exact iteF (p3 π3 H3 Step.refl g3 _ rfl)
theorem em_chain {op op' : CmpOp} {r r' : R2} {f f' : F2} (hr : OpR X (compareOp op) r) (ho : Op2 (gx X T) r f) (hr' : OpR X (compareOp op') r') (ho' : Op2 (gx X T) r' f') (ha : Em X T W a ma) (hb : Em X T W b mb) (hc : Em X T W c mc) (hm : lastMarks [op, op'] [b, c] = false := by rfl) :
    Em X T W (.Compare a [op, op'] [b, c] pos) (mChain f f' ma mb mc) := PE.of (pe_chain hr hr' ha hb hc hm) fun σ H Q p => chain3 ho ho' p
theorem tm_chain {op op' : CmpOp} {r r' : R2} {f f' : F2} (hr : OpR X (compareOp op) r) (ho : Op2 (gx X T) r f) (hr' : OpR X (compareOp op') r') (ho' : Op2 (gx X T) r' f') (ha : Em X T W a ma) (hb : Em X T W b mb) (hc : Em X T W c mc) (hm : lastMarks [op, op'] [b, c] = false := by rfl) :
    Tm X T W (.Compare a [op, op'] [b, c] pos) (mBool (mChain f f' ma mb mc)) := PT.of (pt_chain hr hr' ha hb hc hm) fun σ H Q ⟨π, env, h, s, p⟩ => by
  refine chain3 ho ho' ⟨π, env, h, s, p.bind.mono fun π1 H1 h1 d s1 g1 p1 x dx => ?_⟩
  cases d <;> first
    | exact p1.elim
    | (obtain rfl := (show x = _ from dx); exact ⟨_, rfl, p1 π1 H1 Step.refl g1⟩)
/-- lt, le, gt, ge as the chain wants them -/
theorem cl_lt : OpR X (compareOp .Lt) (rI0 fun i j => .bl (decide (i < j))) ∧ Op2 (gx X T) (rI0 fun i j => .bl (decide (i < j))) fLt := ⟨op_lt, o2_B0⟩
theorem cl_le : OpR X (compareOp .LtE) (rI0 fun i j => .bl (decide (i ≤ j))) ∧ Op2 (gx X T) (rI0 fun i j => .bl (decide (i ≤ j))) fLe := ⟨op_le, o2_B0⟩
end
end MM

namespace MM
open PySem L2

inductive SR where
  | next (env : Ev) (h : Hm)
  | ret (d : D) (h : Hm)
  | brk (env : Ev) (h : Hm)
  | cont (env : Ev) (h : Hm)
  | exn (x : Ex) (env : Ev) (h : Hm)
  | bad
def R.bindS {α : Type} (r : R α) (env : Ev) (k : α → Hm → SR) : SR := match r with
  | .ok a h => k a h
  | .exn x h => .exn x env h
  | .bad => .bad
/-- what stands behind a block -/
def SR.then (r : SR) (k : Ev → Hm → SR) : SR := match r with
  | .next env h => k env h
  | r => r
def PostS (G : Gx) (W : WX) (D : Ends) (π : List Addr) (H : Hp) (r : SR) : Prop := match r with
  | .next env h => ∀ π' σ' H', Step π H π' H' → S G π' env h σ' H' → D.nx σ' H'
  | .ret d h => ∀ π' H' v, Step π H π' H' → Good G π' h H' → DV G.K π' H' d v → D.rt v H'
  | .brk env h => ∀ π' σ' H', Step π H π' H' → S G π' env h σ' H' → D.bk σ' H'
  | .cont env h => ∀ π' σ' H', Step π H π' H' → S G π' env h σ' H' → D.ct σ' H'
  | .exn x env h => ∀ π' σ' H' cls d, Step π H π' H' → S G π' env h σ' H' → ExV G π' H' x cls d → W cls d σ' H'
  | .bad => False
def tS (G : Gx) (W : WX) (m : Ev → Hm → SR) : TS := fun D σ H => ∃ π env h, S G π env h σ H ∧ PostS G W D π H (m env h)
section
variable {G : Gx} {W : WX} {D : Ends} {π π' : List Addr} {σ : L2.St} {H H' : Hp} {env : Ev} {h h' : Hm} {α : Type}
theorem PostS.step {r : SR} (s : Step π H π' H') (p : PostS G W D π H r) : PostS G W D π' H' r := by
  cases r with
  | next env h => exact fun π2 σ2 H2 s2 x => p π2 σ2 H2 (s.trans s2) x
  | ret d h => exact fun π2 H2 v s2 x e => p π2 H2 v (s.trans s2) x e
  | brk env h => exact fun π2 σ2 H2 s2 x => p π2 σ2 H2 (s.trans s2) x
  | cont env h => exact fun π2 σ2 H2 s2 x => p π2 σ2 H2 (s.trans s2) x
  | exn y env h => exact fun π2 σ2 H2 cls d s2 x e => p π2 σ2 H2 cls d (s.trans s2) x e
  | bad => exact p
theorem PostS.bind {r : R α} {k : α → Hm → SR} (s : S G π env h σ H) (p : PostS G W D π H (r.bindS env k)) : Post G W π σ H r fun π' H' h' a => PostS G W D π' H' (k a h') := by
  cases r with
  | ok a h' => exact fun π' H' s' g => PostS.step s' p
  | exn x h' => exact fun π' H' cls d s' g e => p π' σ H' cls d s' ⟨g, s.env.step s'⟩ e
  | bad => exact p
theorem PostS.then {r : SR} {k : Ev → Hm → SR} (p : PostS G W D π H (r.then k)) : PostS G W { D with nx := tS G W k D } π H r := by
  cases r with
  | next env h => exact fun π2 σ2 H2 s2 x => ⟨π2, env, h, x, PostS.step s2 p⟩
  | ret d h => exact p
  | brk env h => exact p
  | cont env h => exact p
  | exn y env h => exact p
  | bad => exact p
theorem PostS.mono {D' : Ends} {r : SR} (p : PostS G W D π H r) (h1 : ∀ σ H, D.nx σ H → D'.nx σ H) (h2 : ∀ v H, D.rt v H → D'.rt v H) (h3 : ∀ σ H, D.bk σ H → D'.bk σ H) (h4 : ∀ σ H, D.ct σ H → D'.ct σ H) : PostS G W D' π H r := by
  cases r with
  | next env h => exact fun π2 σ2 H2 s2 x => h1 _ _ (p π2 σ2 H2 s2 x)
  | ret d h => exact fun π2 H2 v s2 x e => h2 _ _ (p π2 H2 v s2 x e)
  | brk env h => exact fun π2 σ2 H2 s2 x => h3 _ _ (p π2 σ2 H2 s2 x)
  | cont env h => exact fun π2 σ2 H2 s2 x => h4 _ _ (p π2 σ2 H2 s2 x)
  | exn y env h => exact p
  | bad => exact p
end
abbrev Sm (X : Cx) (T : List (Addr × Str)) (W : WX) (e : Stmt) (m : Ev → Hm → SR) : Prop := PS X e (tS (gx X T) W m)
abbrev Ssm (X : Cx) (T : List (Addr × Str)) (W : WX) (e : List Stmt) (m : Ev → Hm → SR) : Prop := PSs X e (tS (gx X T) W m)

/-- a store goes on, or is wrong -/
def SR.only (r : SR) : SR := match r with
  | .next env h => .next env h
  | .exn x env h => .exn x env h
  | _ => .bad
abbrev Gt := D → Ev → Hm → SR
abbrev Gts := List D → Ev → Hm → SR
def nxO (Q : L2.St → Hp → Prop) : Ends := { nx := Q, rt := fun _ _ => False }
def tG (G : Gx) (W : WX) (g : Gt) : TG := fun v σ H Q => ∃ π env h d, S G π env h σ H ∧ DV G.K π H d v ∧ PostS G W (nxO Q) π H (g d env h)
def tGs (G : Gx) (W : WX) (g : Gts) : TGs := fun vs σ H Q => ∃ π env h ds, S G π env h σ H ∧ DVs G.K π H ds vs ∧ PostS G W (nxO Q) π H (g ds env h)
theorem PG.of {X : Cx} {e : Expr} {t t' : TG} (p : PG X e t) (w : ∀ v σ H Q, t' v σ H Q → t v σ H Q) : PG X e t' := ⟨fun pins s σ H v u Q I r h => p.run pins s σ H v u Q I r (w v σ H Q h)⟩
theorem PGs.of {X : Cx} {e : List Expr} {t t' : TGs} (p : PGs X e t) (w : ∀ v σ H Q, t' v σ H Q → t v σ H Q) : PGs X e t' := ⟨fun pins s σ H v u Q I r h => p.run pins s σ H v u Q I r (w v σ H Q h)⟩
abbrev Gm (X : Cx) (T : List (Addr × Str)) (W : WX) (e : Expr) (g : Gt) : Prop := PG X e (tG (gx X T) W g)
abbrev Gsm (X : Cx) (T : List (Addr × Str)) (W : WX) (e : List Expr) (g : Gts) : Prop := PGs X e (tGs (gx X T) W g)
def gN (i : Nat) : Gt := fun d env h => .next (env.set i (some d)) h
def gsNil : Gts := fun ds env h => match ds with
  | [] => .next env h
  | _ => .bad
def gsCons (g : Gt) (r : Gts) : Gts := fun ds env h => match ds with
  | d :: ds => (g d env h).then (r ds)
  | [] => .bad
/-- a tuple is unpacked -/
def gT (n : Nat) (r : Gts) : Gt := fun d env h => match d with
  | .tup ds => if ds.length = n then r ds env h else .bad
  | _ => .bad
/-- a list is unpacked -/
def gL (n : Nat) (r : Gts) : Gt := fun d env h => match d with
  | .ref i => match h[i]? with
    | some (.lst ds) => if ds.length = n then r ds env h else .bad
    | _ => .bad
  | _ => .bad
section
variable {X : Cx} {T : List (Addr × Str)} {W : WX} {e : Expr} {es : List Expr} {g : Gt} {r : Gts} {pos : Pos}
theorem gm_name (i : Nat) {x : Str} (hN : X.N.Nodup) (hi : X.N[i]? = some x := by rfl) (hx : Loc X.env.scope x := by first | exact .inl rfl | exact .inr rfl) (hf : X.fn x = true ∨ X.env.scope.names.lookup x = some .local := by first | exact .inl rfl | exact .inr rfl | assumption) : Gm X T W (.Name x pos) (gN i) :=
  PG.of (pg_name hN hi hx hf) fun v σ H Q ⟨π, env, h, d, s, dv, p⟩ => p π _ H Step.refl ⟨s.good, s.env.set dv i⟩
theorem gsm_nil : Gsm X T W [] gsNil := PGs.of pgs_nil fun v σ H Q ⟨π, env, h, ds, s, dv, p⟩ => by
  cases ds with
  | nil => exact ⟨dv, p π σ H Step.refl s⟩
  | cons d ds => exact p.elim
theorem gsm_cons (h1 : Gm X T W e g) (h2 : Gsm X T W es r) (hs : (assignEach (e :: es) X.env).map (·.2) = assign e X.env :: (assignEach es X.env).map (·.2) := by rfl) : Gsm X T W (e :: es) (gsCons g r) := PGs.of (pgs_cons h1 h2 hs) fun v σ H Q ⟨π, env, h, ds, s, dv, p⟩ => by
  cases ds with
  | nil => exact p.elim
  | cons d ds =>
    obtain ⟨v, vs, rfl, d1, d2⟩ := dv
    refine ⟨v, vs, rfl, π, env, h, d, s, d1, ?_⟩
    have p' : PostS (gx X T) W (nxO Q) π H ((g d env h).then (r ds)) := p
    generalize g d env h = z at p' ⊢
    cases z with
    | next env' h' => exact fun π2 σ2 H2 s2 x => ⟨π2, env', h', ds, x, d2.step s2 _ _, PostS.step s2 p'⟩
    | ret d h => exact p'
    | brk env h => exact p'
    | cont env h => exact p'
    | exn y env h => exact p'
    | bad => exact p'
theorem gm_tup {k n : Nat} (hc : X.calm = true) (hr : Gsm X T W es r) (hn : (assignEach es X.env).length = n := by rfl) (hst : (assignEach es X.env).findIdx? (·.1) = none := by rfl) : Gm X T W (.Tuple es k pos) (gT n r) :=
  PG.of (pg_tup hc hr hn hst) fun v σ H Q ⟨π, env, h, d, s, dv, p⟩ => by
    unfold gT at p
    split at p
    · obtain ⟨a, xs, rfl, t, q⟩ := dv
      split at p
      · rename_i hl
        exact ⟨a, xs, rfl, t.sq, by rw [q.len]; exact hl, π, env, h, _, s, q, p⟩
      · exact p.elim
    · exact p.elim
theorem gm_lst {k n : Nat} (hc : X.calm = true) (hr : Gsm X T W es r) (hn : (assignEach es X.env).length = n := by rfl) (hst : (assignEach es X.env).findIdx? (·.1) = none := by rfl) : Gm X T W (.Tuple es k pos) (gL n r) :=
  PG.of (pg_lst hc hr hn hst) fun v σ H Q ⟨π, env, h, d, s, dv, p⟩ => by
    unfold gL at p
    split at p
    · obtain ⟨a, qa, rfl⟩ := dv
      split at p
      · rename_i e0
        obtain ⟨xs, ha, q⟩ := s.good.lst e0 qa
        split at p
        · rename_i hl
          exact ⟨a, xs, rfl, SqL.of ha, by rw [q.len]; exact hl, π, env, h, _, s, q, p⟩
        · exact p.elim
      · exact p.elim
    · exact p.elim
end

def sNil : Ev → Hm → SR := fun env h => .next env h
def sSeq (a b : Ev → Hm → SR) : Ev → Hm → SR := fun env h => (a env h).then b
def sDrop (m : Ev → Hm → R D) : Ev → Hm → SR := fun env h => (m env h).bindS env fun _ h1 => .next env h1
def sRet (m : Ev → Hm → R D) : Ev → Hm → SR := fun env h => (m env h).bindS env fun d h1 => .ret d h1
def sRetN : Ev → Hm → SR := fun _ h => .ret .non h
def sIf (c : Ev → Hm → R Bool) (a b : Ev → Hm → SR) : Ev → Hm → SR := fun env h => (c env h).bindS env fun k h1 => if k = true then a env h1 else b env h1
def sAsg (g : Gt) (m : Ev → Hm → R D) : Ev → Hm → SR := fun env h => (m env h).bindS env fun d h1 => (g d env h1).only
def sBrk : Ev → Hm → SR := fun env h => .brk env h
def sCont : Ev → Hm → SR := fun env h => .cont env h
/-- a, b = x, y of names of one's own -/
def sPar (i j : Nat) (m : Ev → Hm → R (List D)) : Ev → Hm → SR := fun env h => (m env h).bindS env fun ds h1 => match ds with
  | [a, b] => .next ((env.set i (some a)).set j (some b)) h1
  | _ => .bad
def sPar3 (i j l : Nat) (m : Ev → Hm → R (List D)) : Ev → Hm → SR := fun env h => (m env h).bindS env fun ds h1 => match ds with
  | [a, b, c] => .next (((env.set i (some a)).set j (some b)).set l (some c)) h1
  | _ => .bad
def sAug (i : Nat) (f : F2) (m : Ev → Hm → R D) : Ev → Hm → SR := fun env h => match env[i]? with
  | some (some x) => (m env h).bindS env fun y h1 => (f x y h1).bindS env fun z h2 => .next (env.set i (some z)) h2
  | _ => .bad
def sWhile (c : Ev → Hm → R Bool) (b : Ev → Hm → SR) : Nat → Ev → Hm → SR
  | 0, _, _ => .bad
  | n + 1, env, h => (c env h).bindS env fun k h1 => if k = true then (match b env h1 with
      | .next e h2 => sWhile c b n e h2
      | .cont e h2 => sWhile c b n e h2
      | .brk e h2 => .next e h2
      | r => r) else .next env h1
section
variable {X : Cx} {T : List (Addr × Str)} {W : WX} {st : Stmt} {sts sts' : List Stmt} {e c tg : Expr} {me : Ev → Hm → R D} {tc : Ev → Hm → R Bool} {ms ms' : Ev → Hm → SR} {pos : Pos}
theorem ssm_nil : Ssm X T W [] sNil := PSs.of pss_nil fun D σ H ⟨π, env, h, s, p⟩ => p π σ H Step.refl s
theorem ssm_cons (h1 : Sm X T W st ms) (h2 : Ssm X T W sts ms') : Ssm X T W (st :: sts) (sSeq ms ms') := PSs.of (pss_cons h1 h2) fun D σ H ⟨π, env, h, s, p⟩ => ⟨π, env, h, s, PostS.then p⟩
theorem ssm_one (h1 : Sm X T W st ms) : Ssm X T W [st] ms := pss_one h1
theorem sm_pass : Sm X T W (.Pass pos) sNil := PS.of ps_pass fun D σ H ⟨π, env, h, s, p⟩ => p π σ H Step.refl s
theorem sm_break : Sm X T W (.Break pos) sBrk := PS.of ps_break fun D σ H ⟨π, env, h, s, p⟩ => p π σ H Step.refl s
theorem sm_continue : Sm X T W (.Continue pos) sCont := PS.of ps_continue fun D σ H ⟨π, env, h, s, p⟩ => p π σ H Step.refl s
theorem sm_expr (he : Em X T W e me) (hs : swapsWith e none pos.line X.env = pure false := by rfl) : Sm X T W (.Expr e pos) (sDrop me) := PS.of (ps_expr he hs) fun D σ H ⟨π, env, h, s, p⟩ =>
  ⟨π, env, h, s, (PostS.bind s p).mono fun π1 H1 h1 d s1 g1 p1 v dv => p1 π1 σ H1 Step.refl (s.step s1 g1)⟩
theorem sm_ret (he : Em X T W e me) : Sm X T W (.Return (some e) pos) (sRet me) := PS.of (ps_ret he) fun D σ H ⟨π, env, h, s, p⟩ =>
  ⟨π, env, h, s, (PostS.bind s p).mono fun π1 H1 h1 d s1 g1 p1 v dv => p1 π1 H1 v Step.refl g1 dv⟩
theorem sm_retN : Sm X T W (.Return none pos) sRetN := PS.of ps_retN fun D σ H ⟨π, env, h, s, p⟩ => p π H _ Step.refl s.good rfl
theorem sm_if (hc : Tm X T W c tc) (ha : Ssm X T W sts ms) (hb : Ssm X T W sts' ms') : Sm X T W (.If c sts sts' pos) (sIf tc ms ms') := PS.of (ps_if hc ha hb) fun D σ H ⟨π, env, h, s, p⟩ =>
  ⟨π, env, h, s, (PostS.bind s p).mono fun π1 H1 h1 k s1 g1 p1 => by
    cases k with
    | true => exact iteT ⟨π1, env, h1, s.step s1 g1, p1⟩
    | false => exact iteF ⟨π1, env, h1, s.step s1 g1, p1⟩⟩
theorem sm_set (i : Nat) {x : Str} {pos' : Pos} (hN : X.N.Nodup) (he : Em X T W e me) (hi : X.N[i]? = some x := by rfl) (hx : Loc X.env.scope x := by first | exact .inl rfl | exact .inr rfl) (hs : swapsWith e (some (.Name x pos')) pos.line X.env = pure false := by rfl)
    (hf : X.fn x = true ∨ X.env.scope.names.lookup x = some .local := by first | exact .inl rfl | exact .inr rfl | assumption) : Sm X T W (.Assign [.Name x pos'] e pos) (sAsg (gN i) me) := PS.of (ps_set hN hi hx he hs hf) fun D σ H ⟨π, env, h, s, p⟩ =>
  ⟨π, env, h, s, (PostS.bind s p).mono fun π1 H1 h1 d s1 g1 p1 v dv => p1 π1 _ H1 Step.refl ⟨g1, (s.step s1 g1).env.set dv i⟩⟩
theorem sm_asg {g : Gt} (hg : Gm X T W tg g) (he : Em X T W e me) (hs : swapsWithSole [tg] e pos.line X.env = pure false := by rfl) (hw : swappedStores [tg] e X.env = pure none := by rfl) (h1 : (assignEach [tg] X.env).map (·.2) = [assign tg X.env] := by rfl) : Sm X T W (.Assign [tg] e pos) (sAsg g me) :=
  PS.of (ps_asg he hg hs hw h1) fun D σ H ⟨π, env, h, s, p⟩ => ⟨π, env, h, s, (PostS.bind s p).mono fun π1 H1 h1 d s1 g1 p1 v dv => ⟨π1, env, h1, d, s.step s1 g1, dv, by
    generalize g d env h1 = z at p1 ⊢
    cases z with
    | next env' h' => exact p1
    | ret d h => exact (show False from p1).elim
    | brk env h => exact (show False from p1).elim
    | cont env h => exact (show False from p1).elim
    | exn y env h => exact p1
    | bad => exact p1⟩⟩
theorem sm_par (i j : Nat) {x y : Str} {a b : Expr} {ml : Ev → Hm → R (List D)} {px py pt : Pos} {kt k2 pt2} (hc : X.calm = true) (hN : X.N.Nodup) (ha : Am X T W [a, b] ml) (hi : X.N[i]? = some x := by rfl) (hj : X.N[j]? = some y := by rfl) (hij : i ≠ j := by decide)
    (hx : X.env.scope.names.lookup x = some .local := by rfl) (hy : X.env.scope.names.lookup y = some .local := by rfl)
    (hw : swappedStores [.Tuple [.Name x px, .Name y py] kt pt] (.Tuple [a, b] k2 pt2) X.env = pure (some [x, y]) := by rfl)
    (hs : swapsWithSole [.Tuple [.Name x px, .Name y py] kt pt] (.Tuple [a, b] k2 pt2) pos.line X.env = pure false := by rfl) :
    Sm X T W (.Assign [.Tuple [.Name x px, .Name y py] kt pt] (.Tuple [a, b] k2 pt2) pos) (sPar i j ml) := PS.of (ps_par hc hN hi hj hij hx hy ha hw hs) fun D σ H ⟨π, env, h, s, p⟩ =>
  ⟨π, env, h, s, (PostS.bind s p).mono fun π1 H1 h1 ds s1 g1 p1 vs dv => by
    split at p1
    · obtain ⟨v, vs, rfl, d1, w, ws, rfl, d2, e3⟩ := dv
      obtain rfl := (show ws = [] from e3)
      exact ⟨v, w, rfl, p1 π1 _ H1 Step.refl ⟨g1, ((s.step s1 g1).env.set d1 i).set d2 j⟩⟩
    · exact p1.elim⟩
theorem sm_par3 (i j l : Nat) {x y z : Str} {a b c : Expr} {ml : Ev → Hm → R (List D)} {px py pz pt : Pos} {kt k2 pt2} (hc : X.calm = true) (hN : X.N.Nodup) (ha : Am X T W [a, b, c] ml) (hi : X.N[i]? = some x := by rfl) (hj : X.N[j]? = some y := by rfl) (hl : X.N[l]? = some z := by rfl)
    (hij : i ≠ j := by decide) (hil : i ≠ l := by decide) (hjl : j ≠ l := by decide)
    (hx : X.env.scope.names.lookup x = some .local := by rfl) (hy : X.env.scope.names.lookup y = some .local := by rfl) (hz : X.env.scope.names.lookup z = some .local := by rfl)
    (hw : swappedStores [.Tuple [.Name x px, .Name y py, .Name z pz] kt pt] (.Tuple [a, b, c] k2 pt2) X.env = pure (some [x, y, z]) := by rfl)
    (hs : swapsWithSole [.Tuple [.Name x px, .Name y py, .Name z pz] kt pt] (.Tuple [a, b, c] k2 pt2) pos.line X.env = pure false := by rfl) :
    Sm X T W (.Assign [.Tuple [.Name x px, .Name y py, .Name z pz] kt pt] (.Tuple [a, b, c] k2 pt2) pos) (sPar3 i j l ml) := PS.of (ps_par3 hc hN hi hj hl hij hil hjl hx hy hz ha hw hs) fun D σ H ⟨π, env, h, s, p⟩ =>
  ⟨π, env, h, s, (PostS.bind s p).mono fun π1 H1 h1 ds s1 g1 p1 vs dv => by
    split at p1
    · obtain ⟨v, vs, rfl, d1, w, ws, rfl, d2, u, us, rfl, d3, e3⟩ := dv
      obtain rfl := (show us = [] from e3)
      exact ⟨v, w, u, rfl, p1 π1 _ H1 Step.refl ⟨g1, (((s.step s1 g1).env.set d1 i).set d2 j).set d3 l⟩⟩
    · exact p1.elim⟩
theorem sm_aug (i : Nat) {x : Str} {op : Operator} {r : R2} {f : F2} {pos' : Pos} (hN : X.N.Nodup) (hr : OpR X (inplaceOp op) r) (ho : Op2 (gx X T) r f) (he : Em X T W e me) (hi : X.N[i]? = some x := by rfl) (hx : Loc X.env.scope x := by first | exact .inl rfl | exact .inr rfl)
    (hf : X.fn x = true ∨ X.env.scope.names.lookup x = some .local := by first | exact .inl rfl | exact .inr rfl | assumption) : Sm X T W (.AugAssign (.Name x pos') op e pos) (sAug i f me) :=
  PS.of (ps_aug (ti := fun x y H Q => r x y H Q) hN hi hx he (fun pins s σ H x y v u Q I r1 r2 h => hr pins s σ H x y v u Q I r1 r2 h) hf) fun D σ H ⟨π, env, h, s, p⟩ => by
    unfold sAug at p
    split at p
    · rename_i d e0
      obtain ⟨v, h1, h2⟩ := s.env.get i d e0
      refine ⟨v, h1, π, env, h, s, (PostS.bind s p).mono fun π1 H1 h1 y s1 g1 p1 w dw => ?_⟩
      exact ho W π1 σ h1 H1 d y v w _ g1 (h2.step s1 _ _) dw ((PostS.bind (s.step s1 g1) p1).mono fun π2 H2 h2 z s2 g2 p2 u du => p2 π2 _ H2 Step.refl ⟨g2, ((s.step s1 g1).step s2 g2).env.set du i⟩)
    · exact p.elim
theorem sm_while {n : Nat} (hp : PassesOwn (model X.prog X.w) X.A X.env X.xe) (hc : Tm X T W c tc) (hb : Ssm X T W sts ms) : Sm X T W (.While c sts [] pos) (sWhile tc ms n) := PS.of (ps_while hp hc hb) fun D σ H ⟨π, env, h, s, p⟩ => by
  refine ⟨fun m σ' H' => ∃ π' env' h', S (gx X T) π' env' h' σ' H' ∧ PostS (gx X T) W D π' H' (sWhile tc ms m env' h'), ⟨n, π, env, h, s, p⟩, ?_⟩
  rintro m σ1 H1 ⟨π1, env1, h1, s1, p1⟩
  cases m with
  | zero => exact p1.elim
  | succ m =>
    refine ⟨π1, env1, h1, s1, (PostS.bind s1 p1).mono fun π2 H2 h2 k s2 g2 p2 => ?_⟩
    cases k with
    | false => exact iteF (p2 π2 σ1 H2 Step.refl (s1.step s2 g2))
    | true =>
      refine iteT ⟨fun σ' H' => ∃ π' env' h', S (gx X T) π' env' h' σ' H' ∧ PostS (gx X T) W D π' H' (sWhile tc ms m env' h'), fun σ' H' z => ⟨m, Nat.lt_succ_self m, z⟩, π2, env1, h2, s1.step s2 g2, ?_⟩
      rw [if_pos rfl] at p2
      generalize ms env1 h2 = z at p2 ⊢
      cases z with
      | next env' h' => exact fun π3 σ3 H3 s3 x => ⟨π3, env', h', x, PostS.step s3 p2⟩
      | ret d h => exact p2
      | brk env h => exact p2
      | cont env h => exact fun π3 σ3 H3 s3 x => ⟨π3, env, h, x, PostS.step s3 p2⟩
      | exn y env h => exact p2
      | bad => exact p2
end
end MM

namespace MM
open PySem L2

def rIxD : R2 := fun x y H Q => ∃ a v, x = .ref a ∧ DGet H a y (some v) ∧ Q v H
theorem ix_dict {X : Cx} (hu : X.A.units + 1 < cLine) : IxR X rIxD := by
  intro value slice pins s σ H x y v u Q I rx ry h hs
  obtain ⟨a, z, rfl, g, q⟩ := h
  obtain rfl : v = Value.ref a := rx
  have hT := dict_typeIs I g
  unfold PyProof.Rows.subscriptTail
  refine wpAny_bind ?_
  rw [getitemInPython_of_ne hT.not_modules]
  refine wpAny_bind (wpAny_specialOf hT PySem.F.slot_dict_getitem.lookup ?_)
  have fin : wpAny (model X.prog X.w) X.A (subscripted slice false (.ref a) u) (fun r s₃ => wpAny (model X.prog X.w) X.A (letTemporaryGo value (.ref a) r >>= fun _ => pure r) (EP X pins σ Q) X.xe s₃) X.xe s := by
    rw [hs]
    exact wpAny_operating (wpAny_mono (d_getItem (Q := fun r s3 => EP X pins σ Q r s3) hu I g ry fun w' s3 I3 rw' => ⟨z, H, I3, rw', q⟩) (fun r s₃ h₃ => wpAny_bind (wpAny_letTemporaryGo (wpAny_pure h₃))) fun _ _ x => x)
  first
    | exact wpAny_pure (wpAny_bind fin)
    | exact wpAny_bind (wpAny_pure (wpAny_bind fin))
    | exact wpAny_bind fin
def rIxM (K : PySem.W.Frag) : R2 := fun x y H Q => rIxL K x y H Q ∨ rIxT K x y H Q ∨ rIxS x y H Q ∨ rIxD x y H Q
theorem or_ix {X : Cx} (hu : X.A.units + 1 < cLine) : IxR X (rIxM X.K) := ix_list.or (ix_tup.or (ix_str.or (ix_dict hu)))
def fIx : F2 := fun x y h => match x, y with
  | .tup ds, .int i => match atI ds i with
    | some d => .ok d h
    | none => .bad
  | .rol ds, .int i => match atI ds i with
    | some d => .ok d h
    | none => .bad
  | .str z, .int i => if z.length ≤ 16777216 then match atI z.cps.toList i with
      | some c => .ok (.str ⟨#[c]⟩) h
      | none => .bad else .bad
  | .ref r, y => match h[r]? with
    | some (.lst ds) => match y with
      | .int i => match atI ds i with
        | some d => .ok d h
        | none => .bad
      | _ => .bad
    | some (.dic kvs) => match keyD y with
      | some k => match getK kvs k with
        | some d => .ok d h
        | none => .bad
      | none => .bad
    | some (.dicL kvs) => match keyD y with
      | some k => match getK kvs k with
        | some d => .ok d h
        | none => .bad
      | none => .bad
    | _ => .bad
  | _, _ => .bad
section
variable {K : PySem.W.Frag} {π : List Addr} {H : Hp}
theorem DVs.atI {ds : List D} {xs : List V} {i : Int} {d : D} (h : DVs K π H ds xs) (e : L2.atI ds i = some d) : ∃ v, L2.atI xs i = some v ∧ DV K π H d v := by
  unfold L2.atI at e ⊢
  rw [h.len]
  cases q : ixN ds.length i with
  | none => rw [q] at e; cases e
  | some j =>
    rw [q] at e
    exact h.get e
end
theorem o2_ix {G : Gx} : Op2 G (rIxM G.K) fIx := by
  intro W π σ h H d e x y Q g dx ey p
  unfold fIx at p
  split at p
  · obtain ⟨a, xs, rfl, t, q⟩ := dx
    obtain rfl := (show y = _ from ey)
    split at p
    · rename_i e0
      obtain ⟨v, h1, h2⟩ := q.atI e0
      exact .inr (.inl ⟨a, xs, _, v, rfl, rfl, t.sq, h1, post_val g p h2⟩)
    · exact p.elim
  · obtain ⟨a, xs, rfl, t, q⟩ := dx
    obtain rfl := (show y = _ from ey)
    split at p
    · rename_i e0
      obtain ⟨v, h1, h2⟩ := q.atI e0
      exact .inl ⟨a, xs, _, v, rfl, rfl, t.sq, h1, post_val g p h2⟩
    · exact p.elim
  · obtain rfl := (show x = _ from dx)
    obtain rfl := (show y = _ from ey)
    split at p
    · rename_i hl
      split at p
      · rename_i e0
        exact .inr (.inr (.inl ⟨_, _, _, rfl, rfl, szl hl, e0, post_val g p rfl⟩))
      · exact p.elim
    · exact p.elim
  · obtain ⟨a, qa, rfl⟩ := dx
    split at p
    · rename_i e1
      obtain ⟨xs, ha, q⟩ := g.lst e1 qa
      split at p
      · obtain rfl := (show y = _ from ey)
        split at p
        · rename_i e0
          obtain ⟨v, h1, h2⟩ := q.atI e0
          exact .inl ⟨a, xs, _, v, rfl, rfl, SqL.of ha, h1, post_val g p h2⟩
        · exact p.elim
      · exact p.elim
    · rename_i e1
      obtain ⟨xs, ha, q⟩ := g.obj e1 qa
      split at p
      · rename_i k ek
        obtain rfl := keyD_V ek ey
        have z := getK_V (κ := k) q
        split at p
        · rename_i w ew
          rw [ew] at z
          obtain ⟨v, z1, z2⟩ := z
          refine .inr (.inr (.inr ⟨a, v, rfl, ?_, post_val g p z2⟩))
          rw [← z1]
          exact DGet.k ha
        · exact p.elim
      · exact p.elim
    · rename_i e1
      obtain ⟨oo, xs, ha, q⟩ := g.obj e1 qa
      split at p
      · rename_i k ek
        obtain rfl := keyD_V ek ey
        have z := getK_V (κ := k) q
        split at p
        · rename_i w ew
          rw [ew] at z
          obtain ⟨v, z1, z2⟩ := z
          refine .inr (.inr (.inr ⟨a, v, rfl, ?_, post_val g p z2⟩))
          rw [← z1]
          exact Or.inl ⟨xs, k, .inr ⟨oo, ha⟩, rfl, rfl⟩
        · exact p.elim
      · exact p.elim
    · exact p.elim
  · exact p.elim
theorem em_ix {X : Cx} {T : List (Addr × Str)} {W : WX} {a b : Expr} {ma mb : Ev → Hm → R D} {pos : Pos} (hu : X.A.units + 1 < cLine) (ha : Em X T W a ma) (hb : Em X T W b mb) (hs : PlainIx b := by exact fun _ _ => rfl) : Em X T W (.Subscript a b pos) (m2 fIx ma mb) :=
  PE.of (pe_ix (or_ix hu) ha hb hs) fun σ H Q p => chain2 o2_ix p

def cutD (xs : List D) (lo hi : Option Int) : List D := (xs.drop (HT.sIx xs.length 0 lo)).take (HT.sIx xs.length xs.length hi - HT.sIx xs.length 0 lo)
def fSl (x : D) (lo hi : Option Int) (h : Hm) : R D := match x with
  | .tup ds => .ok (.tup (cutD ds lo hi)) h
  | .rol ds => .ok (.ref h.length) (h ++ [.lst (cutD ds lo hi)])
  | .ref r => match h[r]? with
    | some (.lst ds) => .ok (.ref h.length) (h ++ [.lst (cutD ds lo hi)])
    | _ => .bad
  | .str z => if z.length ≤ 16777216 then .ok (.str (cutS z lo hi)) h else .bad
  | _ => .bad
def mNo : Ev → Hm → R (Option Int) := fun _ h => .ok none h
def mSome (m : Ev → Hm → R D) : Ev → Hm → R (Option Int) := fun env h => (m env h).bind fun x h1 => match x with
  | .int i => .ok (some i) h1
  | _ => .bad
def mSl (a : Ev → Hm → R D) (l u : Ev → Hm → R (Option Int)) : Ev → Hm → R D := fun env h => (a env h).bind fun x h1 => (l env h1).bind fun lo h2 => (u env h2).bind fun hi h3 => fSl x lo hi h3
def tO (G : Gx) (W : WX) (m : Ev → Hm → R (Option Int)) : TO := fun σ H Q => ∃ π env h, S G π env h σ H ∧ Post G W π σ H (m env h) fun _ H' _ o => Q o H'
abbrev Om (X : Cx) (T : List (Addr × Str)) (W : WX) (e : Option Expr) (m : Ev → Hm → R (Option Int)) : Prop := PO X e (tO (gx X T) W m)
theorem PO.of {X : Cx} {e : Option Expr} {t t' : TO} (p : PO X e t) (w : ∀ σ H Q, t' σ H Q → t σ H Q) : PO X e t' := ⟨fun pins s σ H Q I h => p.run pins s σ H Q I (w σ H Q h)⟩
theorem cutD_V {K : PySem.W.Frag} {π : List Addr} {H : Hp} {ds : List D} {xs : List V} (h : DVs K π H ds xs) (lo hi : Option Int) : DVs K π H (cutD ds lo hi) (cutV xs lo hi) := by
  unfold cutD cutV
  rw [h.len]
  exact (h.drop _).take _
theorem cut_whole {ds : List D} {lo hi : Option Int} (e : HT.sIx ds.length 0 lo = 0 ∧ HT.sIx ds.length ds.length hi = ds.length) : cutD ds lo hi = ds := by
  unfold cutD
  rw [e.1, e.2, List.drop_zero, Nat.sub_zero, List.take_length]
def rSlM (K : PySem.W.Frag) : V → Option Int → Option Int → Hp → VK → Prop := fun x lo hi H Q => rSlA K x lo hi H Q ∨ rSlL K x lo hi H Q ∨ rSlS x lo hi H Q
theorem or_sl {X : Cx} : SlR X (rSlM X.K) := sl_tupA.or (sl_list.or sl_str)
section
variable {X : Cx} {T : List (Addr × Str)} {W : WX} {e : Expr} {lo hi : Option Expr} {me : Ev → Hm → R D} {ml mh : Ev → Hm → R (Option Int)} {p2 pos : Pos}
theorem om_none : Om X T W none mNo := PO.of po_none fun σ H Q ⟨π, env, h, s, p⟩ => p π H Step.refl s.good
theorem om_some (he : Em X T W e me) : Om X T W (some e) (mSome me) := PO.of (po_some he) fun σ H Q ⟨π, env, h, s, p⟩ => by
  refine ⟨π, env, h, s, p.bind.mono fun π1 H1 h1 d s1 g1 p1 x dx => ?_⟩
  cases d <;> first
    | exact p1.elim
    | (obtain rfl := (show x = _ from dx); exact ⟨_, rfl, p1 π1 H1 Step.refl g1⟩)
theorem em_sl (he : Em X T W e me) (hl : Om X T W lo ml) (hh : Om X T W hi mh) : Em X T W (.Subscript e (.Slice lo hi none p2) pos) (mSl me ml mh) := PE.of (pe_slice or_sl he hl hh) fun σ H Q ⟨π, env, h, s, p⟩ => by
  refine ⟨π, env, h, s, p.bind.mono fun π1 H1 h1 d s1 g1 p1 x dx => ?_⟩
  refine ⟨π1, env, h1, s.step s1 g1, p1.bind.mono fun π2 H2 h2 lo s2 g2 p2 => ?_⟩
  refine ⟨π2, env, h2, (s.step s1 g1).step s2 g2, p2.bind.mono fun π3 H3 h3 hi s3 g3 p3 => ?_⟩
  have dx' := (dx.step s2 _ _).step s3 _ _
  unfold fSl at p3
  split at p3
  · obtain ⟨a, xs, rfl, t, q⟩ := dx'
    refine .inl ⟨a, xs, rfl, t.sq, fun z => ?_, fun z b n => post_tup g3 p3 (cutD_V q lo hi) b n⟩
    rw [q.len] at z
    rw [cut_whole z] at p3
    exact post_val g3 p3 ⟨a, xs, rfl, t, q⟩
  · obtain ⟨a, xs, rfl, t, q⟩ := dx'
    exact .inr (.inl ⟨a, xs, rfl, t.sq, fun b n => post_lst g3 p3 (cutD_V q lo hi) b n⟩)
  · obtain ⟨a, qa, rfl⟩ := dx'
    split at p3
    · rename_i e1
      obtain ⟨xs, ha, q⟩ := g3.lst e1 qa
      exact .inr (.inl ⟨a, xs, rfl, SqL.of ha, fun b n => post_lst g3 p3 (cutD_V q lo hi) b n⟩)
    · exact p3.elim
  · obtain rfl := (show x = _ from dx')
    split at p3
    · rename_i hl
      exact .inr (.inr ⟨_, rfl, szl hl, post_val g3 p3 rfl⟩)
    · exact p3.elim
  · exact p3.elim
theorem am_tup {es : List Expr} {x1} {mr : Ev → Hm → R (List D)} (ha : Am X T W es mr) (hl : es.length ≤ 1000) (hm : ∀ env h ds h', mr env h = .ok ds h' → ds.length = es.length) : Em X T W (.Tuple es x1 pos) (mTup mr) := PE.of (pe_tup ha) fun σ H Q ⟨π, env, h, s, p⟩ => by
  refine ⟨π, env, h, s, ?_⟩
  unfold mTup at p
  cases q : mr env h with
  | ok ds h' =>
    rw [q] at p
    have p' : Post (gx X T) W π σ H (R.ok (D.tup ds) h') (fun π' H' _ z => ∀ v, DV (gx X T).K π' H' z v → Q v H') := p
    intro π1 H1 s1 g1 vs dv
    refine ⟨szl (by rw [dv.len, hm _ _ _ _ q]; omega), fun a n => post_tup (W := W) (σ := σ) g1 ?_ dv a n⟩
    exact fun π2 H2 s2 g2 => p' π2 H2 (s1.trans s2) g2
  | exn x h' => rw [q] at p; exact p
  | bad => rw [q] at p; exact p
theorem am_lst {es : List Expr} {mr : Ev → Hm → R (List D)} (ha : Am X T W es mr) (hl : es.length ≤ 1000) (hm : ∀ env h ds h', mr env h = .ok ds h' → ds.length = es.length) : Em X T W (.List es pos) (mLst mr) := PE.of (pe_lst ha) fun σ H Q ⟨π, env, h, s, p⟩ => by
  refine ⟨π, env, h, s, ?_⟩
  unfold mLst at p
  cases q : mr env h with
  | ok ds h' =>
    rw [q] at p
    have p' : Post (gx X T) W π σ H (R.ok (D.ref h'.length) (h' ++ [O.lst ds])) (fun π' H' _ z => ∀ v, DV (gx X T).K π' H' z v → Q v H') := p
    intro π1 H1 s1 g1 vs dv
    refine ⟨szl (by rw [dv.len, hm _ _ _ _ q]; omega), fun a n => post_lst (W := W) (σ := σ) g1 ?_ dv a n⟩
    exact fun π2 H2 s2 g2 => p' π2 H2 (s1.trans s2) g2
  | exn x h' => rw [q] at p; exact p
  | bad => rw [q] at p; exact p
end
end MM

namespace MM
open PySem L2

abbrev Fc := List D → Hm → R D
def OpC (G : Gx) (r : List V → Hp → VK → Prop) (f : Fc) : Prop := ∀ (W : WX) (π : List Addr) (σ : L2.St) (h : Hm) (H : Hp) (ds : List D) (xs : List V) (Q : VK), Good G π h H → DVs G.K π H ds xs → Post G W π σ H (f ds h) (fun π' H' _ z => ∀ v, DV G.K π' H' z v → Q v H') → r xs H Q
def mCall (f : Fc) (mr : Ev → Hm → R (List D)) : Ev → Hm → R D := fun env h => (mr env h).bind f
section
variable {X : Cx} {T : List (Addr × Str)} {W : WX} {e : Expr} {es : List Expr} {x : Str} {id : String} {p pos : Pos} {r : List V → Hp → VK → Prop} {f : Fc} {mr : Ev → Hm → R (List D)}
theorem tCB_of (ho : OpC (gx X T) r f) {σ : L2.St} {H : Hp} {Q : VK} (q : tE (gx X T) W (mCall f mr) σ H Q) : tCB r (tL (gx X T) W mr) σ H Q := by
  obtain ⟨π, env, h, s, q⟩ := q
  refine ⟨π, env, h, s, q.bind.mono fun π1 H1 h1 ds s1 g1 p1 xs dx => ?_⟩
  exact ho W π1 σ h1 H1 ds xs Q g1 dx p1
theorem em_callB (hc : CallR X (.builtin id) r) (ho : OpC (gx X T) r f) (hg : Gl X x) (hm : X.mg x = none) (ha : Am X T W (e :: es) mr) (hv : bootBuiltins x = some (.builtin id)) (hn : x ≠ "__name__" := by decide) (hdb : (x == ("__debug__" : Str)) = false := by decide)
    (he : starEach (e :: es) X.env = (false, eval e X.env) :: starEach es X.env := by rfl) (hpl : (backTo pos (starEach es X.env)).any (·.1) = false := by rfl) : Em X T W (.Call (.Name x p) (e :: es) [] pos) (mCall f mr) :=
  PE.of (pe_callB hc hg hm hv ha hn hdb he hpl) fun σ H Q q => tCB_of ho q
theorem em_callTy (hc : CallR X (.type id) r) (ho : OpC (gx X T) r f) (hg : Gl X x) (hm : X.mg x = none) (ha : Am X T W (e :: es) mr) (hv : bootBuiltins x = some (.type id)) (hn : x ≠ "__name__" := by decide) (hdb : (x == ("__debug__" : Str)) = false := by decide)
    (he : starEach (e :: es) X.env = (false, eval e X.env) :: starEach es X.env := by rfl) (hpl : (backTo pos (starEach es X.env)).any (·.1) = false := by rfl) : Em X T W (.Call (.Name x p) (e :: es) [] pos) (mCall f mr) :=
  PE.of (pe_callTy hc hg hm hv ha hn hdb he hpl) fun σ H Q q => tCB_of ho q
end
def intsD : List D → Option (List Int)
  | [] => some []
  | .int i :: r => (intsD r).map (i :: ·)
  | _ => none
theorem intsD_eq : ∀ {ds : List D} {ns : List Int}, intsD ds = some ns → ds = ns.map D.int
  | [], ns, e => by cases e; rfl
  | d :: r, ns, e => by
    cases d <;> first
      | cases e
      | (rename_i i
         have e' : (intsD r).map (i :: ·) = some ns := e
         obtain ⟨ms, e1, rfl⟩ := map_some e'
         rw [intsD_eq e1] <;> rfl)
theorem DVs.ints {K : PySem.W.Frag} {π : List Addr} {H : Hp} : ∀ {ns : List Int} {xs : List V}, DVs K π H (ns.map D.int) xs → xs = ns.map V.int
  | [], _, h => h
  | i :: r, _, ⟨v, vs, e, h, q⟩ => by
    rw [e, show v = V.int i from h, DVs.ints q] <;> rfl
theorem DVs.ofInts {K : PySem.W.Frag} {π : List Addr} {H : Hp} : ∀ {ns : List Int}, DVs K π H (ns.map D.int) (ns.map V.int)
  | [] => rfl
  | i :: r => ⟨.int i, _, rfl, rfl, DVs.ofInts⟩
def fAbs : Fc := fun ds h => match ds with
  | [.int i] => .ok (.int (if i < 0 then -i else i)) h
  | _ => .bad
def fMax2 : Fc := fun ds h => match ds with
  | [.int i, .int j] => .ok (.int (if j > i then j else i)) h
  | _ => .bad
def fMin2 : Fc := fun ds h => match ds with
  | [.int i, .int j] => .ok (.int (if j < i then j else i)) h
  | _ => .bad
def fInt : Fc := fun ds h => match ds with
  | [.int i] => .ok (.int i) h
  | [.bl k] => .ok (.int (if k then 1 else 0)) h
  | _ => .bad
def lenD (h : Hm) : D → Option Nat
  | .str x => if x.length ≤ 16777216 then some x.length else none
  | .tup ds => some ds.length
  | .rol ds => some ds.length
  | .ref i => match h[i]? with
    | some (.lst ds) => some ds.length
    | some (.dic kvs) => some kvs.length
    | _ => none
  | _ => none
def fLen : Fc := fun ds h => match ds with
  | [d] => match lenD h d with
    | some n => .ok (.int n) h
    | none => .bad
  | _ => .bad
/-- the items of a list or a tuple -/
def itemsD (h : Hm) : D → Option (List D)
  | .tup ds => some ds
  | .rol ds => some ds
  | .ref i => match h[i]? with
    | some (.lst ds) => some ds
    | _ => none
  | _ => none
def fList : Fc := fun ds h => match ds with
  | [d] => match itemsD h d with
    | some xs => .ok (.ref h.length) (h ++ [.lst xs])
    | none => .bad
  | _ => .bad
def fTuple : Fc := fun ds h => match ds with
  | [d] => match itemsD h d with
    | some xs => .ok (.tup xs) h
    | none => .bad
  | _ => .bad
def fSum : Fc := fun ds h => match ds with
  | [.tup _] => .bad
  | [d] => match (itemsD h d).bind intsD with
    | some xs => .ok (.int xs.sum) h
    | none => .bad
  | _ => .bad
def fStr : Fc := fun ds h => match ds with
  | [.int i] => if i.natAbs.log2 < 1920 then .ok (.str (toString i)) h else .bad
  | [.str x] => .ok (.str x) h
  | _ => .bad
section
variable {G : Gx} {π : List Addr} {h : Hm} {H : Hp}
theorem items_V (g : Good G π h H) {d : D} {x : V} {ds : List D} (dx : DV G.K π H d x) (e : itemsD h d = some ds) : ∃ a xs, x = .ref a ∧ (SqL G.K H a xs ∨ SqT G.K H a xs) ∧ DVs G.K π H ds xs := by
  cases d with
  | tup ds' => obtain ⟨a, xs, rfl, t, q⟩ := dx; cases e; exact ⟨a, xs, rfl, .inr t.sq, q⟩
  | rol ds' => obtain ⟨a, xs, rfl, t, q⟩ := dx; cases e; exact ⟨a, xs, rfl, .inl t.sq, q⟩
  | ref i =>
    obtain ⟨a, qa, rfl⟩ := dx
    have e' : (match h[i]? with
      | some (.lst ds) => some ds
      | _ => none) = some ds := e
    split at e'
    · rename_i e0
      cases e'
      obtain ⟨xs, ha, q⟩ := g.lst e0 qa
      exact ⟨a, xs, rfl, .inl (SqL.of ha), q⟩
    · cases e'
  | _ => cases e
theorem oc_abs : OpC G (fun xs H Q => ∃ i, xs = [.int i] ∧ Q (.int (if i < 0 then -i else i)) H) fAbs := by
  intro W π σ h H ds xs Q g dx p
  unfold fAbs at p
  split at p
  · obtain ⟨v, vs, rfl, d1, e⟩ := dx
    obtain rfl := (show vs = [] from e)
    obtain rfl := (show v = _ from d1)
    exact ⟨_, rfl, post_val g p rfl⟩
  · exact p.elim
theorem oc_max2 : OpC G (fun xs H Q => ∃ i j, xs = [.int i, .int j] ∧ Q (.int (if j > i then j else i)) H) fMax2 := by
  intro W π σ h H ds xs Q g dx p
  unfold fMax2 at p
  split at p
  · obtain ⟨v, vs, rfl, d1, w, ws, rfl, d2, e⟩ := dx
    obtain rfl := (show ws = [] from e)
    obtain rfl := (show v = _ from d1)
    obtain rfl := (show w = _ from d2)
    exact ⟨_, _, rfl, post_val g p rfl⟩
  · exact p.elim
theorem oc_min2 : OpC G (fun xs H Q => ∃ i j, xs = [.int i, .int j] ∧ Q (.int (if j < i then j else i)) H) fMin2 := by
  intro W π σ h H ds xs Q g dx p
  unfold fMin2 at p
  split at p
  · obtain ⟨v, vs, rfl, d1, w, ws, rfl, d2, e⟩ := dx
    obtain rfl := (show ws = [] from e)
    obtain rfl := (show v = _ from d1)
    obtain rfl := (show w = _ from d2)
    exact ⟨_, _, rfl, post_val g p rfl⟩
  · exact p.elim
theorem oc_int : OpC G (fun xs H Q => (∃ i, xs = [.int i] ∧ Q (.int i) H) ∨ ∃ k, xs = [.bl k] ∧ Q (.int (if k then 1 else 0)) H) fInt := by
  intro W π σ h H ds xs Q g dx p
  unfold fInt at p
  split at p
  · obtain ⟨v, vs, rfl, d1, e⟩ := dx
    obtain rfl := (show vs = [] from e)
    obtain rfl := (show v = _ from d1)
    exact .inl ⟨_, rfl, post_val g p rfl⟩
  · obtain ⟨v, vs, rfl, d1, e⟩ := dx
    obtain rfl := (show vs = [] from e)
    obtain rfl := (show v = _ from d1)
    exact .inr ⟨_, rfl, post_val g p rfl⟩
  · exact p.elim
def rLenM (K : PySem.W.Frag) : List V → Hp → VK → Prop := fun xs H Q => (∃ x n, xs = [x] ∧ LenV K x H n ∧ Q (.int n) H) ∨ ∃ a kvs, xs = [V.ref a] ∧ H a = some (.dK kvs) ∧ Q (.int kvs.length) H
theorem cr_len {X : Cx} : CallR X (.builtin "len") (rLenM X.K) := CallR.or call_len call_lenD
theorem oc_len : OpC G (rLenM G.K) fLen := by
  intro W π σ h H ds xs Q g dx p
  unfold fLen at p
  split at p
  · rename_i d
    obtain ⟨v, vs, rfl, d1, e⟩ := dx
    obtain rfl := (show vs = [] from e)
    split at p
    · rename_i n en
      cases d with
      | str x =>
        obtain rfl := (show v = _ from d1)
        have e' : (if x.length ≤ 16777216 then some x.length else none) = some n := en
        by_cases hl : x.length ≤ 16777216
        · rw [if_pos hl] at e'
          cases e'
          exact .inl ⟨_, _, rfl, ⟨szl hl, rfl⟩, post_val g p rfl⟩
        · rw [if_neg hl] at e'
          cases e'
      | tup ds =>
        cases en
        obtain ⟨a, xs, rfl, t, q⟩ := d1
        exact .inl ⟨_, _, rfl, .inr ⟨xs, t.sq, q.len.symm⟩, post_val g p rfl⟩
      | rol ds =>
        cases en
        obtain ⟨a, xs, rfl, t, q⟩ := d1
        exact .inl ⟨_, _, rfl, .inl ⟨xs, t.sq, q.len.symm⟩, post_val g p rfl⟩
      | ref i =>
        obtain ⟨a, qa, rfl⟩ := d1
        have e' : (match h[i]? with
          | some (.lst ds) => some ds.length
          | some (.dic kvs) => some kvs.length
          | _ => none) = some n := en
        split at e'
        · rename_i e0
          cases e'
          obtain ⟨xs, ha, q⟩ := g.lst e0 qa
          exact .inl ⟨_, _, rfl, .inl ⟨xs, SqL.of ha, q.len.symm⟩, post_val g p rfl⟩
        · rename_i e0
          cases e'
          obtain ⟨xs, ha, q⟩ := g.obj e0 qa
          refine .inr ⟨a, xs, rfl, ha, ?_⟩
          rw [q.len]
          exact post_val g p rfl
        · cases e'
      | _ => cases en
    · exact p.elim
  · exact p.elim
theorem oc_list : OpC G (fun xs H Q => ∃ p ys, xs = [.ref p] ∧ (SqL G.K H p ys ∨ SqT G.K H p ys) ∧ ∀ l, H l = none → Q (.ref l) (upd H l (.lst ys))) fList := by
  intro W π σ h H ds xs Q g dx p
  unfold fList at p
  split at p
  · obtain ⟨v, vs, rfl, d1, e⟩ := dx
    obtain rfl := (show vs = [] from e)
    split at p
    · rename_i e0
      obtain ⟨a, ys, rfl, k, q⟩ := items_V g d1 e0
      exact ⟨a, ys, rfl, k, fun l n => post_lst g p q l n⟩
    · exact p.elim
  · exact p.elim
theorem oc_tuple : OpC G (fun xs H Q => ∃ p ys, xs = [.ref p] ∧ ((SqL G.K H p ys ∧ ∀ l, H l = none → Q (.ref l) (upd H l (.tup ys))) ∨ (SqT G.K H p ys ∧ Q (.ref p) H))) fTuple := by
  intro W π σ h H ds xs Q g dx p
  unfold fTuple at p
  split at p
  · rename_i d
    obtain ⟨v, vs, rfl, d1, e⟩ := dx
    obtain rfl := (show vs = [] from e)
    split at p
    · rename_i ys0 e0
      by_cases ht : ∃ ds, d = .tup ds
      · obtain ⟨ds', rfl⟩ := ht
        obtain ⟨a, ys, rfl, t, q⟩ := d1
        cases e0
        exact ⟨a, ys, rfl, .inr ⟨t.sq, post_val g p ⟨a, ys, rfl, t, q⟩⟩⟩
      · have z : ∃ a xs, v = .ref a ∧ SqL G.K H a xs ∧ DVs G.K π H ys0 xs := by
          cases d with
          | tup ds' => exact absurd ⟨_, rfl⟩ ht
          | rol ds' => obtain ⟨a, xs, rfl, t, q⟩ := d1; cases e0; exact ⟨a, xs, rfl, t.sq, q⟩
          | ref i =>
            obtain ⟨a, qa, rfl⟩ := d1
            have e' : (match h[i]? with
              | some (.lst ds) => some ds
              | _ => none) = some ys0 := e0
            split at e'
            · rename_i e0
              cases e'
              obtain ⟨xs, ha, q⟩ := g.lst e0 qa
              exact ⟨a, xs, rfl, SqL.of ha, q⟩
            · cases e'
          | _ => cases e0
        obtain ⟨a, ys, rfl, k, q⟩ := z
        exact ⟨a, ys, rfl, .inl ⟨k, fun l n => post_tup g p q l n⟩⟩
    · exact p.elim
  · exact p.elim
theorem oc_sum : OpC G (rSum G.K) fSum := by
  intro W π σ h H ds xs Q g dx p
  unfold fSum at p
  split at p
  · exact p.elim
  · rename_i d nt
    obtain ⟨v, vs, rfl, d1, e⟩ := dx
    obtain rfl := (show vs = [] from e)
    split at p
    · rename_i ns e0
      cases e1 : itemsD h d with
      | none => rw [e1] at e0; cases e0
      | some ds =>
        rw [e1] at e0
        have e2 := intsD_eq (show intsD ds = some ns from e0)
        subst e2
        cases d with
        | tup ds' => exact (nt ds' rfl).elim
        | rol ds' =>
          obtain ⟨a, xs, rfl, t, q⟩ := d1
          cases e1
          have e3 := q.ints
          subst e3
          exact ⟨a, ns, rfl, t.sq, post_val g p rfl⟩
        | ref i =>
          obtain ⟨a, qa, rfl⟩ := d1
          have e' : (match h[i]? with
            | some (.lst ds) => some ds
            | _ => none) = some (ns.map D.int) := e1
          split at e'
          · rename_i e0
            cases e'
            obtain ⟨xs, ha, q⟩ := g.lst e0 qa
            have e3 := q.ints
            subst e3
            exact ⟨a, ns, rfl, SqL.of ha, post_val g p rfl⟩
          · cases e'
        | _ => cases e1
    · exact p.elim
  · exact p.elim
def rStrM : List V → Hp → VK → Prop := fun xs H Q => (∃ i, xs = [.int i] ∧ i.natAbs.log2 < 1920 ∧ Q (.str (toString i)) H) ∨ ∃ a, xs = [.str a] ∧ Q (.str a) H
theorem oc_str : OpC G rStrM fStr := by
  intro W π σ h H ds xs Q g dx p
  unfold fStr at p
  split at p
  · obtain ⟨v, vs, rfl, d1, e⟩ := dx
    obtain rfl := (show vs = [] from e)
    obtain rfl := (show v = _ from d1)
    split at p
    · rename_i hl
      exact .inl ⟨_, rfl, hl, post_val g p rfl⟩
    · exact p.elim
  · obtain ⟨v, vs, rfl, d1, e⟩ := dx
    obtain rfl := (show vs = [] from e)
    obtain rfl := (show v = _ from d1)
    exact .inr ⟨_, rfl, post_val g p rfl⟩
  · exact p.elim
end

abbrev Fm := D → List D → Hm → R D
def mMeth (tg : Hm → D → Bool) (f : Fm) (mo : Ev → Hm → R D) (mr : Ev → Hm → R (List D)) : Ev → Hm → R D := fun env h => (mo env h).bind fun x h1 => if tg h1 x = true then (mr env h1).bind fun ds h2 => f x ds h2 else .bad
def isL (h : Hm) : D → Bool
  | .rol _ => true
  | .ref i => match h[i]? with
    | some (.lst _) => true
    | _ => false
  | _ => false
def isD (h : Hm) : D → Bool
  | .ref i => match h[i]? with
    | some (.dic _) => true
    | _ => false
  | _ => false
def isS (_ : Hm) : D → Bool
  | .str _ => true
  | _ => false
def OpM (G : Gx) (r : V → List V → Hp → VK → Prop) (f : Fm) : Prop := ∀ (W : WX) (π : List Addr) (σ : L2.St) (h : Hm) (H : Hp) (d : D) (x : V) (ds : List D) (xs : List V) (Q : VK), Good G π h H → DV G.K π H d x → DVs G.K π H ds xs → Post G W π σ H (f d ds h) (fun π' H' _ z => ∀ v, DV G.K π' H' z v → Q v H') → r x xs H Q
def TyM (G : Gx) (tn : String) (tg : Hm → D → Bool) : Prop := ∀ (π : List Addr) (h : Hm) (H : Hp) (d : D) (x : V), Good G π h H → DV G.K π H d x → tg h d = true → tyV G.K tn x H
theorem tyL {G : Gx} : TyM G "list" isL := by
  intro π h H d x g dx e
  cases d with
  | rol ds => obtain ⟨a, xs, rfl, t, q⟩ := dx; exact .inl ⟨rfl, xs, t.sq⟩
  | ref i =>
    obtain ⟨a, qa, rfl⟩ := dx
    have e' : (match h[i]? with
      | some (.lst _) => true
      | _ => false) = true := e
    split at e'
    · rename_i e0
      obtain ⟨xs, ha, q⟩ := g.lst e0 qa
      exact .inl ⟨rfl, xs, SqL.of ha⟩
    · cases e'
  | _ => cases e
theorem tyD {G : Gx} : TyM G "dict" isD := by
  intro π h H d x g dx e
  cases d with
  | ref i =>
    obtain ⟨a, qa, rfl⟩ := dx
    have e' : (match h[i]? with
      | some (.dic _) => true
      | _ => false) = true := e
    split at e'
    · rename_i e0
      obtain ⟨xs, ha, q⟩ := g.obj e0 qa
      exact .inr (.inr (.inl ⟨rfl, .inl ⟨xs, ha⟩⟩))
    · cases e'
  | _ => cases e
theorem tyS {G : Gx} : TyM G "str" isS := by
  intro π h H d x g dx e
  cases d with
  | str i => obtain rfl := (show x = _ from dx); rfl
  | _ => cases e
section
variable {X : Cx} {T : List (Addr × Str)} {W : WX} {o e : Expr} {es : List Expr} {mo : Ev → Hm → R D} {mr : Ev → Hm → R (List D)} {name : Str} {apos cpos : Pos} {tn id : String} {r : V → List V → Hp → VK → Prop} {f : Fm} {tg : Hm → D → Bool}
theorem em_bm (pa : PlainAttrs tn) (slot : Slot tn name id) (hty : typeOf (.builtin id) = pure (.type "method_descriptor")) (hm : MtR X id r) (ht : TyM (gx X T) tn tg) (hf : OpM (gx X T) r f) (ho : Em X T W o mo) (ha : Am X T W (e :: es) mr)
    (hbase : attributeBase o name X.env (eval o X.env) = eval o X.env := by rfl)
    (hfew : ((backTo cpos (starEach (e :: es) X.env)).all (fun x => !x.1) && (backToKw cpos (keywordEach [] X.env)).all (fun x => x.1.isSome)
      && decide ((e :: es).length + ([] : List Keyword).length + (if ([] : List Keyword).isEmpty then 0 else 1) < 30)) = true := by rfl)
    (hline : (apos.endLine == cpos.line) = true := by rfl) (hs : starEach (e :: es) X.env = (false, eval e X.env) :: starEach es X.env := by rfl) (hplain : (backTo cpos (starEach es X.env)).any (·.1) = false := by rfl) :
    Em X T W (.Call (.Attribute o name apos) (e :: es) [] cpos) (mMeth tg f mo mr) := PE.of (pe_bm pa slot hty hm ho ha hbase hfew hline hs hplain) fun σ H Q ⟨π, env, h, s, p⟩ => by
  refine ⟨π, env, h, s, p.bind.mono fun π1 H1 h1 d s1 g1 p1 x dx => ?_⟩
  by_cases q : tg h1 d = true
  · rw [if_pos q] at p1
    refine ⟨ht _ _ _ _ _ g1 dx q, π1, env, h1, s.step s1 g1, p1.bind.mono fun π2 H2 h2 ds s2 g2 p2 xs dxs => ?_⟩
    exact hf W π2 σ h2 H2 d x ds xs Q g2 (dx.step s2 _ _) dxs p2
  · rw [if_neg q] at p1
    exact p1.elim
theorem em_bm0 (pa : PlainAttrs tn) (slot : Slot tn name id) (hty : typeOf (.builtin id) = pure (.type "method_descriptor")) (hm : MtR X id r) (ht : TyM (gx X T) tn tg) (hf : OpM (gx X T) r f) (ho : Em X T W o mo)
    (hbase : attributeBase o name X.env (eval o X.env) = eval o X.env := by rfl) (hline : (apos.endLine == cpos.line) = true := by rfl) : Em X T W (.Call (.Attribute o name apos) [] [] cpos) (mMeth tg f mo mNil) := PE.of (pe_bm0 pa slot hty hm ho hbase hline) fun σ H Q ⟨π, env, h, s, p⟩ => by
  refine ⟨π, env, h, s, p.bind.mono fun π1 H1 h1 d s1 g1 p1 x dx => ?_⟩
  by_cases q : tg h1 d = true
  · rw [if_pos q] at p1
    exact ⟨ht _ _ _ _ _ g1 dx q, hf W π1 σ h1 H1 d x [] [] Q g1 dx rfl p1⟩
  · rw [if_neg q] at p1
    exact p1.elim
end
section
variable {G : Gx} {π : List Addr} {h : Hm} {H : Hp}
/-- an object of ours is written -/
theorem post_put {W : WX} {σ : L2.St} {i : Nat} {a : Addr} {u : HO} {o : O} {d : D} {v : V} {Q : VK} (g : Good G π h H) (m : π[i]? = some a) (nf : ∀ o u, H a ≠ some (.frz o u)) (w : OV G π (upd H a u) a o) (p : Post G W π σ H (.ok d (h.set i o)) fun π' H' _ z => ∀ v, DV G.K π' H' z v → Q v H') (dv : DV G.K π (upd H a u) d v) : Q v (upd H a u) :=
  p π _ (Step.put m nf) (g.put m nf w) v dv
theorem post_putL {W : WX} {σ : L2.St} {i : Nat} {a : Addr} {ds : List D} {ys : List V} {d : D} {v : V} {Q : VK} (g : Good G π h H) (m : π[i]? = some a) (nf : ∀ o u, H a ≠ some (.frz o u)) (p : Post G W π σ H (.ok d (h.set i (.lst ds))) fun π' H' _ z => ∀ v, DV G.K π' H' z v → Q v H') (q : DVs G.K π H ds ys) (dv : DV G.K π H d v) : Q v (upd H a (.lst ys)) :=
  post_put (o := .lst ds) g m nf ⟨ys, upd_same, q.step (Step.put m nf) _ _⟩ p (dv.step (Step.put m nf) _ _)
def fAppend : Fm := fun x ds h => match x, ds with
  | .ref i, [y] => match h[i]? with
    | some (.lst a) => if a.length < 16777216 then .ok .non (h.set i (.lst (a ++ [y]))) else .bad
    | _ => .bad
  | _, _ => .bad
theorem om_append : OpM G rAppend fAppend := by
  intro W π σ h H d x ds xs Q g dx dxs p
  unfold fAppend at p
  split at p
  · obtain ⟨a, qa, rfl⟩ := dx
    obtain ⟨v, vs, rfl, d1, e⟩ := dxs
    obtain rfl := (show vs = [] from e)
    split at p
    · rename_i e0
      split at p
      · rename_i hl
        obtain ⟨ys, ha, q⟩ := g.lst e0 qa
        exact ⟨a, ys, v, rfl, rfl, ha, szl' (by rw [q.len]; exact hl), post_putL g qa (nfz ha fun _ _ z => (by cases z)) p (q.snoc d1) rfl⟩
      · exact p.elim
    · exact p.elim
  · exact p.elim
def fExtend : Fm := fun x ds h => match x, ds with
  | .ref i, [.ref j] => match h[i]?, h[j]? with
    | some (.lst a), some (.lst b) => if a.length + b.length ≤ 16777216 then .ok .non (h.set i (.lst (a ++ b))) else .bad
    | _, _ => .bad
  | _, _ => .bad
theorem om_extend : OpM G rExtend fExtend := by
  intro W π σ h H d x ds xs Q g dx dxs p
  unfold fExtend at p
  split at p
  · obtain ⟨a, qa, rfl⟩ := dx
    obtain ⟨v, vs, rfl, ⟨b, qb, rfl⟩, e⟩ := dxs
    obtain rfl := (show vs = [] from e)
    split at p
    · rename_i e0 e1
      split at p
      · rename_i hl
        obtain ⟨ys, ha, q⟩ := g.lst e0 qa
        obtain ⟨zs, hb, q2⟩ := g.lst e1 qb
        exact ⟨a, b, ys, zs, rfl, rfl, ha, hb, szl (by rw [q.len, q2.len]; exact hl), post_putL g qa (nfz ha fun _ _ z => (by cases z)) p (q.app q2) rfl⟩
      · exact p.elim
    · exact p.elim
  · exact p.elim
def fPop : Fm := fun x ds h => match x, ds with
  | .ref i, [] => match h[i]? with
    | some (.lst a) => match a[a.length - 1]? with
      | some y => .ok y (h.set i (.lst a.dropLast))
      | none => .bad
    | _ => .bad
  | .ref i, [.int k] => match h[i]? with
    | some (.lst a) => match ixN a.length k with
      | some j => match a[j]? with
        | some y => if a.length ≤ 16777216 then .ok y (h.set i (.lst (a.eraseIdx j))) else .bad
        | none => .bad
      | none => .bad
    | _ => .bad
  | _, _ => .bad
theorem DVs.dropLast {K : PySem.W.Frag} {π : List Addr} {H : Hp} {ds : List D} {xs : List V} (h : DVs K π H ds xs) : DVs K π H ds.dropLast xs.dropLast := by
  rw [List.dropLast_eq_take, List.dropLast_eq_take, h.len]
  exact h.take _
theorem om_pop : OpM G (fun x xs H Q => rPop x xs H Q ∨ rPopAt x xs H Q) fPop := by
  intro W π σ h H d x ds xs Q g dx dxs p
  unfold fPop at p
  split at p
  · obtain ⟨a, qa, rfl⟩ := dx
    obtain rfl := (show xs = [] from dxs)
    split at p
    · rename_i e0
      split at p
      · rename_i y e1
        obtain ⟨ys, ha, q⟩ := g.lst e0 qa
        rw [← q.len] at e1
        obtain ⟨v, h1, h2⟩ := q.get e1
        exact .inl ⟨a, ys, v, rfl, rfl, ha, h1, post_putL g qa (nfz ha fun _ _ z => (by cases z)) p q.dropLast h2⟩
      · exact p.elim
    · exact p.elim
  · obtain ⟨a, qa, rfl⟩ := dx
    obtain ⟨v, vs, rfl, d1, e⟩ := dxs
    obtain rfl := (show vs = [] from e)
    obtain rfl := (show v = _ from d1)
    split at p
    · rename_i e0
      split at p
      · rename_i j ej
        split at p
        · rename_i y ey
          split at p
          · rename_i hl
            obtain ⟨ys, ha, q⟩ := g.lst e0 qa
            rw [← q.len] at ej hl
            obtain ⟨z1, z2, z3, z4⟩ := ixN_seq ej
            obtain ⟨v, h1, h2⟩ := q.get ey
            exact .inr ⟨a, ys, _, j, v, rfl, rfl, ha, by omega, by omega, z1, h1, post_putL g qa (nfz ha fun _ _ z => (by cases z)) p (q.erase j) h2⟩
          · exact p.elim
        · exact p.elim
      · exact p.elim
    · exact p.elim
  · exact p.elim
def fClear : Fm := fun x ds h => match x, ds with
  | .ref i, [] => match h[i]? with
    | some (.lst _) => .ok .non (h.set i (.lst []))
    | _ => .bad
  | _, _ => .bad
theorem om_clear : OpM G rClear fClear := by
  intro W π σ h H d x ds xs Q g dx dxs p
  unfold fClear at p
  split at p
  · obtain ⟨a, qa, rfl⟩ := dx
    obtain rfl := (show xs = [] from dxs)
    split at p
    · rename_i e0
      obtain ⟨ys, ha, q⟩ := g.lst e0 qa
      exact ⟨a, ys, rfl, rfl, ha, post_putL (ys := []) g qa (nfz ha fun _ _ z => (by cases z)) p rfl rfl⟩
    · exact p.elim
  · exact p.elim
def fRemove : Fm := fun x ds h => match x, ds with
  | .ref i, [.int k] => match h[i]? with
    | some (.lst a) => match intsD a with
      | some ns => match ns.findIdx? (fun z => decide (z = k)) with
        | some j => .ok .non (h.set i (.lst ((ns.eraseIdx j).map D.int)))
        | none => .bad
      | none => .bad
    | _ => .bad
  | _, _ => .bad
theorem om_remove : OpM G rRemI fRemove := by
  intro W π σ h H d x ds xs Q g dx dxs p
  unfold fRemove at p
  split at p
  · rename_i k
    obtain ⟨a, qa, rfl⟩ := dx
    obtain ⟨v, vs, rfl, d1, e⟩ := dxs
    obtain rfl := (show vs = [] from e)
    obtain rfl := (show v = _ from d1)
    split at p
    · rename_i e0
      split at p
      · rename_i ns ens
        split at p
        · rename_i j ej
          obtain ⟨ys, ha, q⟩ := g.lst e0 qa
          rw [intsD_eq ens] at q
          have e3 := q.ints
          subst e3
          obtain ⟨hj, h1, h2⟩ := List.findIdx?_eq_some_iff_getElem.mp ej
          refine ⟨a, ns, k, j, rfl, rfl, ha, by rw [List.getElem?_eq_getElem hj, of_decide_eq_true h1], fun m hm z => ?_, post_putL g qa (nfz ha fun _ _ z => (by cases z)) p DVs.ofInts rfl⟩
          have := h2 m hm
          rw [List.getElem?_eq_getElem (by omega)] at z
          exact absurd (Option.some.inj z) (by simpa using this)
        · exact p.elim
      · exact p.elim
    · exact p.elim
  · exact p.elim
def fIndex : Fm := fun x ds h => match ds with
  | [y] => match x with
    | .tup _ => .bad
    | x => match itemsD h x with
      | some zs => if flatD y = true ∧ zs.all flatD = true then match zs.findIdx? (fun z => eqF z y) with
          | some j => .ok (.int j) h
          | none => .bad else .bad
      | none => .bad
  | _ => .bad
theorem DVs.getR {K : PySem.W.Frag} {π : List Addr} {H : Hp} {ds : List D} {xs : List V} {i : Nat} {v : V} (h : DVs K π H ds xs) (e : xs[i]? = some v) : ∃ d, ds[i]? = some d ∧ DV K π H d v := by
  have hi : i < ds.length := by rw [← h.len]; exact (List.getElem?_eq_some_iff.mp e).1
  have e1 : ds[i]? = some ds[i] := List.getElem?_eq_getElem hi
  obtain ⟨w, h1, h2⟩ := h.get e1
  rw [e] at h1
  cases h1
  exact ⟨_, e1, h2⟩
theorem om_index : OpM G (rIndex G.K) fIndex := by
  intro W π σ h H d x ds xs Q g dx dxs p
  unfold fIndex at p
  split at p
  · obtain ⟨v, vs, rfl, d1, e⟩ := dxs
    obtain rfl := (show vs = [] from e)
    split at p
    · exact p.elim
    · rename_i dd nt
      split at p
      · rename_i zs ez
        split at p
        · rename_i f
          split at p
          · rename_i j ej
            have z : ∃ a xs, x = .ref a ∧ SqL G.K H a xs ∧ DVs G.K π H zs xs := by
              cases d with
              | tup ds' => exact (nt _ rfl).elim
              | rol ds' => obtain ⟨a, xs, rfl, t, q⟩ := dx; cases ez; exact ⟨a, xs, rfl, t.sq, q⟩
              | ref i =>
                obtain ⟨a, qa, rfl⟩ := dx
                have e' : (match h[i]? with
                  | some (.lst ds) => some ds
                  | _ => none) = some zs := ez
                split at e'
                · rename_i e0
                  cases e'
                  obtain ⟨xs, ha, q⟩ := g.lst e0 qa
                  exact ⟨a, xs, rfl, SqL.of ha, q⟩
                · cases e'
              | _ => cases ez
            obtain ⟨a, ys, rfl, k, q⟩ := z
            obtain ⟨hj, h1, h2⟩ := List.findIdx?_eq_some_iff_getElem.mp ej
            obtain ⟨w, w1, w2⟩ := q.get (List.getElem?_eq_getElem hj)
            have fl := List.all_eq_true.mp f.2
            refine ⟨a, ys, v, j, w, rfl, rfl, k, flatD_V f.1 d1, flatDs_V f.2 q, w1, ?_, fun m z' hm hz' => ?_, post_val g p rfl⟩
            · rw [eqF_V (fl _ (List.getElem_mem hj)) f.1 w2 d1]
              exact h1
            · obtain ⟨d', hd1, hd2⟩ := q.getR hz'
              rw [eqF_V (fl _ (List.mem_of_getElem? hd1)) f.1 hd2 d1]
              have := h2 m hm
              rw [List.getElem?_eq_getElem (by omega)] at hd1
              cases hd1
              simpa using this
          · exact p.elim
        · exact p.elim
      · exact p.elim
  · exact p.elim
end
section
variable {X : Cx} {T : List (Addr × Str)} {W : WX} {o e e2 : Expr} {mo me me2 : Ev → Hm → R D} {mr : Ev → Hm → R (List D)} {apos cpos : Pos}
theorem mt_popM {X : Cx} : MtR X "list.pop" (fun x xs H Q => rPop x xs H Q ∨ rPopAt x xs H Q) := MtR.or mt_pop mt_popAt
/-- d.get(k, x) -/
def mGet (mo a b : Ev → Hm → R D) : Ev → Hm → R D := fun env h => (mo env h).bind fun x h1 => if isD h1 x = true then (a env h1).bind fun k h2 => (b env h2).bind fun y h3 => match x, keyD k with
  | .ref i, some k => match h3[i]? with
    | some (.dic kvs) => .ok ((getK kvs k).getD y) h3
    | _ => .bad
  | _, _ => .bad else .bad
theorem em_get2 (hu : X.A.units + 1 < cLine) (ho : Em X T W o mo) (h1 : Em X T W e me) (h2 : Em X T W e2 me2) (m : M2 X o "get" apos e e2 cpos) : Em X T W (.Call (.Attribute o "get" apos) [e, e2] [] cpos) (mGet mo me me2) := PE.of (pe_dget2 hu ho h1 h2 m) fun σ H Q ⟨π, env, h, s, p⟩ => by
  refine ⟨π, env, h, s, p.bind.mono fun π1 H1 h1 d s1 g1 p1 x dx => ?_⟩
  by_cases q : isD h1 d = true
  · rw [if_pos q] at p1
    cases d with
    | ref i =>
      obtain ⟨a, qa, rfl⟩ := dx
      refine ⟨a, rfl, ?_, π1, env, h1, s.step s1 g1, p1.bind.mono fun π2 H2 h2 k s2 g2 p2 y dy => ⟨π2, env, h2, (s.step s1 g1).step s2 g2, p2.bind.mono fun π3 H3 h3 z s3 g3 p3 w dw => ?_⟩⟩
      · have e' : (match h1[i]? with
          | some (.dic _) => true
          | _ => false) = true := q
        split at e'
        · rename_i e0
          obtain ⟨xs, ha, q⟩ := g1.obj e0 qa
          exact .inl ⟨xs, .inl ha⟩
        · cases e'
      · split at p3
        · rename_i i' kk ex ek
          cases ex
          split at p3
          · rename_i kvs e0
            obtain ⟨xs, ha, q⟩ := g3.obj e0 (s3.get (s2.get qa))
            obtain rfl := keyD_V ek dy
            have z := getK_V (κ := kk) q
            refine ⟨_, DGet.k ha, ?_⟩
            cases q' : getK kvs kk with
            | none =>
              rw [q'] at z p3
              rw [show valV xs kk = none from z]
              exact post_val g3 p3 dw
            | some w =>
              rw [q'] at z p3
              obtain ⟨v, z1, z2⟩ := z
              rw [z1]
              exact post_val g3 p3 z2
          · exact p3.elim
        · exact p3.elim
    | _ => cases q
  · rw [if_neg q] at p1
    exact p1.elim
end
end MM

namespace MM
open PySem L2

/-- the class named c, and its fields f of fs that no class of it holds -/
def FOk (X : Cx) (cs : List Str) (f : Str) : Prop := ∀ c ∈ cs, ∀ C, X.mg c = some (.ref C) → Cls X.K C ∧ NoAttr X.K C f
def mFld (cs : List Str) (f : Str) (m : Ev → Hm → R D) : Ev → Hm → R D := fun env h => (m env h).bind fun x h1 => match x with
  | .ref i => match h1[i]? with
    | some (.ins c fs) => if c ∈ cs then match fs.lookup f with
        | some d => .ok d h1
        | none => .bad else .bad
    | _ => .bad
  | _ => .bad
def putD (f : Str) (v : D) : List (Str × D) → List (Str × D)
  | [] => [(f, v)]
  | (g, x) :: r => if g = f then (g, v) :: r else (g, x) :: putD f v r
section
variable {K : PySem.W.Frag} {π : List Addr} {H : Hp}
theorem DPs.lookup {f : Str} : ∀ {fs : List (Str × D)} {xs : List (Str × V)} {d : D}, DPs K π H fs xs → fs.lookup f = some d → ∃ v, xs.lookup f = some v ∧ DV K π H d v
  | p :: ps, _, d, ⟨v, vs, e, h, q⟩, l => by
    obtain ⟨k, y⟩ := p
    rw [e]
    by_cases hk : f = k
    · have hb : (f == k) = true := beq_iff_eq.mpr hk
      simp only [List.lookup, hb] at l ⊢
      cases l
      exact ⟨v, rfl, h⟩
    · have hb : (f == k) = false := beq_eq_false_iff_ne.mpr hk
      simp only [List.lookup, hb] at l ⊢
      exact DPs.lookup q l
theorem DPs.putF {f : Str} {d : D} {v : V} (dv : DV K π H d v) : ∀ {fs : List (Str × D)} {xs : List (Str × V)}, DPs K π H fs xs → DPs K π H (putD f d fs) (putF f v xs)
  | [], _, h => by rw [show _ = [] from h]; exact ⟨v, [], rfl, dv, rfl⟩
  | p :: ps, _, ⟨w, vs, e, h, q⟩ => by
    obtain ⟨k, y⟩ := p
    rw [e]
    unfold putD L2.putF
    by_cases hk : k = f
    · rw [if_pos hk, if_pos hk]
      exact ⟨v, vs, rfl, dv, q⟩
    · rw [if_neg hk, if_neg hk]
      exact ⟨w, _, rfl, h, DPs.putF dv q⟩
def putDK (kvs : List (Key × D)) (k : Key) (v : D) : List (Key × D) :=
  if (kvs.any fun kv => decide (kv.1 = k)) = true then kvs.map (fun kv => if kv.1 = k then (kv.1, v) else kv) else kvs ++ [(k, v)]
theorem DPs.anyK {k : Key} : ∀ {fs : List (Key × D)} {xs : List (Key × V)}, DPs K π H fs xs → (xs.any fun kv => decide (kv.1 = k)) = (fs.any fun kv => decide (kv.1 = k))
  | [], _, h => by rw [show _ = [] from h] <;> rfl
  | p :: ps, _, ⟨w, vs, e, h, q⟩ => by rw [e, List.any_cons, List.any_cons, DPs.anyK q]
theorem DPs.mapK {k : Key} {d : D} {v : V} (dv : DV K π H d v) : ∀ {fs : List (Key × D)} {xs : List (Key × V)}, DPs K π H fs xs → DPs K π H (fs.map fun kv => if kv.1 = k then (kv.1, d) else kv) (xs.map fun kv => if kv.1 = k then (kv.1, v) else kv)
  | [], _, h => by rw [show _ = [] from h]; rfl
  | p :: ps, _, ⟨w, vs, e, h, q⟩ => by
    rw [e, List.map_cons, List.map_cons]
    by_cases hk : p.1 = k
    · rw [if_pos hk, if_pos hk]; exact ⟨v, _, rfl, dv, DPs.mapK dv q⟩
    · rw [if_neg hk, if_neg hk]; exact ⟨w, _, rfl, h, DPs.mapK dv q⟩
theorem DPs.app {κ : Type} : ∀ {fs gs : List (κ × D)} {xs ys : List (κ × V)}, DPs K π H fs xs → DPs K π H gs ys → DPs K π H (fs ++ gs) (xs ++ ys)
  | [], _, _, _, h, q => by rw [show _ = [] from h]; exact q
  | p :: ps, _, _, _, ⟨w, vs, e, h, q⟩, r => ⟨w, vs ++ _, by rw [e] <;> rfl, h, DPs.app q r⟩
theorem DPs.putK {k : Key} {d : D} {v : V} (dv : DV K π H d v) {fs : List (Key × D)} {xs : List (Key × V)} (h : DPs K π H fs xs) : DPs K π H (putDK fs k d) (putK xs k v) := by
  unfold putDK L2.putK
  rw [h.anyK]
  by_cases hk : (fs.any fun kv => decide (kv.1 = k)) = true
  · rw [if_pos hk, if_pos hk]; exact h.mapK dv
  · rw [if_neg hk, if_neg hk]; exact h.app ⟨v, [], rfl, dv, rfl⟩
end
section
variable {X : Cx} {T : List (Addr × Str)} {W : WX} {o e : Expr} {mo me : Ev → Hm → R D} {f : Str} {cs : List Str} {pos pos' tpos : Pos}
theorem em_fld (hf : FOk X cs f) (he : Em X T W e me) (hb : attributeBase e f X.env (eval e X.env) = eval e X.env := by rfl) : Em X T W (.Attribute e f pos) (mFld cs f me) := PE.of (pe_fld he hb) fun σ H Q ⟨π, env, h, s, p⟩ => by
  refine ⟨π, env, h, s, p.bind.mono fun π1 H1 h1 d s1 g1 p1 x dx => ?_⟩
  split at p1
  · obtain ⟨a, qa, rfl⟩ := dx
    split at p1
    · rename_i c fs e0
      split at p1
      · rename_i hc
        split at p1
        · rename_i d e1
          obtain ⟨C, dx, xs, m1, ha, q⟩ := g1.obj e0 qa
          obtain ⟨c1, c2⟩ := hf c hc C m1
          obtain ⟨v, l, dv⟩ := q.lookup e1
          exact ⟨a, C, dx, xs, v, rfl, ha, c1, c2, l, post_val g1 p1 dv⟩
        · exact p1.elim
      · exact p1.elim
    · exact p1.elim
  · exact p1.elim
/-- an instance is written -/
def setF (cs : List Str) (f : Str) (x y : D) (h : Hm) : Option Hm := match x with
  | .ref i => match h[i]? with
    | some (.ins c fs) => if c ∈ cs ∧ fs.length < 1000 then some (h.set i (.ins c (putD f y fs))) else none
    | _ => none
  | _ => none
def sFldM (cs : List Str) (f : Str) (mo me : Ev → Hm → R D) : Ev → Hm → SR := fun env h => (me env h).bindS env fun y h1 => (mo env h1).bindS env fun x h2 => match setF cs f x y h2 with
  | some h3 => .next env h3
  | none => .bad
theorem setF_ok {G : Gx} {π : List Addr} {h h' : Hm} {H : Hp} {x y : D} {v w : V} (g : Good G π h H) (dx : DV G.K π H x v) (dy : DV G.K π H y w) (e : setF cs f x y h = some h') :
    ∃ c ∈ cs, ∃ a C dx fs, G.mg c = some (.ref C) ∧ v = .ref a ∧ H a = some (.ins C dx fs) ∧ fs.length < 1000 ∧ Step π H π (upd H a (.ins C dx (putF f w fs))) ∧ Good G π h' (upd H a (.ins C dx (putF f w fs))) := by
  unfold setF at e
  split at e
  · rename_i i
    obtain ⟨a, qa, rfl⟩ := dx
    split at e
    · rename_i c fs e0
      split at e
      · rename_i hc
        cases e
        obtain ⟨C, dx, xs, m1, ha, q⟩ := g.obj e0 qa
        exact ⟨c, hc.1, a, C, dx, xs, m1, rfl, ha, by rw [q.len]; exact hc.2, Step.put qa (nfz ha fun _ _ z => (by cases z)), g.put (o := .ins c (putD f y fs)) qa (nfz ha fun _ _ z => (by cases z)) ⟨C, dx, _, m1, upd_same, (q.putF dy).step (Step.put qa (nfz ha fun _ _ z => (by cases z))) _ _⟩⟩
      · cases e
    · cases e
  · cases e
theorem sm_fld (hf : FOk X cs f) (ho : Em X T W o mo) (he : Em X T W e me) (hs : swapsWith e (some (.Attribute o f pos')) pos.line X.env = pure false := by rfl) : Sm X T W (.Assign [.Attribute o f pos'] e pos) (sFldM cs f mo me) := PS.of (ps_fld ho he hs) fun D σ H ⟨π, env, h, s, p⟩ =>
  ⟨π, env, h, s, (PostS.bind s p).mono fun π1 H1 h1 y s1 g1 p1 w dw => ⟨π1, env, h1, s.step s1 g1, (PostS.bind (s.step s1 g1) p1).mono fun π2 H2 h2 x s2 g2 p2 v dv => by
    split at p2
    · rename_i h3 e3
      obtain ⟨c, hc, a, C, dx, fs, m1, rfl, ha, hl, st, g3⟩ := setF_ok g2 dv (dw.step s2 _ _) e3
      obtain ⟨c1, c2⟩ := hf c hc C m1
      exact ⟨a, C, dx, fs, rfl, ha, c1, c2, hl, p2 π2 σ _ st (((s.step s1 g1).step s2 g2).step st g3)⟩
    · exact p2.elim⟩⟩
/-- o.f op= e -/
def sFldA (cs : List Str) (f : Str) (fo : F2) (mo me : Ev → Hm → R D) : Ev → Hm → SR := fun env h => (mo env h).bindS env fun x h1 => match x with
  | .ref i => match h1[i]? with
    | some (.ins c fs) => if c ∈ cs then match fs.lookup f with
        | some v => (me env h1).bindS env fun y h2 => (fo v y h2).bindS env fun z h3 => match h3[i]? with
            | some (.ins c' fs') => if c' = c ∧ fs'.length < 1000 then .next env (h3.set i (.ins c (putD f z fs'))) else .bad
            | _ => .bad
        | none => .bad else .bad
    | _ => .bad
  | _ => .bad
theorem sm_flda {op : Operator} {r : R2} {fo : F2} (hf : FOk X cs f) (hr : OpR X (inplaceOp op) r) (hop : Op2 (gx X T) r fo) (ho : Em X T W o mo) (he : Em X T W e me) : Sm X T W (.AugAssign (.Attribute o f tpos) op e pos) (sFldA cs f fo mo me) :=
  PS.of (ps_fldaug (rd := r) ho he (fun pins s σ H x y u v Q I r1 r2 h => hr pins s σ H x y u v Q I r1 r2 h)) fun D σ H ⟨π, env, h, s, p⟩ =>
  ⟨π, env, h, s, (PostS.bind s p).mono fun π1 H1 h1 x s1 g1 p1 w dw => by
    split at p1
    · rename_i i
      obtain ⟨a, qa, rfl⟩ := dw
      split at p1
      · rename_i c fs e0
        split at p1
        · rename_i hc
          split at p1
          · rename_i d e1
            obtain ⟨C, dx, xs, m1, ha, q⟩ := g1.obj e0 qa
            obtain ⟨c1, c2⟩ := hf c hc C m1
            obtain ⟨v, l, dv⟩ := q.lookup e1
            refine ⟨a, C, dx, xs, v, rfl, ha, c1, c2, l, π1, env, h1, s.step s1 g1, (PostS.bind (s.step s1 g1) p1).mono fun π2 H2 h2 y s2 g2 p2 u du => ?_⟩
            refine hop W π2 σ h2 H2 d y v u _ g2 (dv.step s2 _ _) du ((PostS.bind ((s.step s1 g1).step s2 g2) p2).mono fun π3 H3 h3 z s3 g3 p3 t dt => ?_)
            split at p3
            · rename_i c' fs' e3
              split at p3
              · rename_i hc'
                obtain ⟨rfl, hl⟩ := hc'
                have qa3 := s3.get (s2.get qa)
                obtain ⟨C', dx', xs', m1', ha', q'⟩ := g3.obj e3 qa3
                rw [m1] at m1'
                cases m1'
                refine ⟨dx', xs', ha', by rw [q'.len]; exact hl, p3 π3 σ _ (Step.put qa3 (nfz ha' fun _ _ z => (by cases z))) ((((s.step s1 g1).step s2 g2).step s3 g3).step (Step.put qa3 (nfz ha' fun _ _ z => (by cases z))) (g3.put (o := .ins c' (putD f z fs')) qa3 (nfz ha' fun _ _ z => (by cases z)) ⟨C, dx', _, m1, upd_same, (q'.putF dt).step (Step.put qa3 (nfz ha' fun _ _ z => (by cases z))) _ _⟩))⟩
              · exact p3.elim
            · exact p3.elim
          · exact p1.elim
        · exact p1.elim
      · exact p1.elim
    · exact p1.elim⟩
end

def fSet (o i v : D) (h : Hm) : Option Hm := match o with
  | .ref r => match h[r]? with
    | some (.lst ds) => match i with
      | .int k => match ixN ds.length k with
        | some j => some (h.set r (.lst (ds.set j v)))
        | none => none
      | _ => none
    | some (.dic kvs) => match keyD i with
      | some k => if kvs.length < 16777216 then some (h.set r (.dic (putDK kvs k v))) else none
      | none => none
    | _ => none
  | _ => none
def OpS (G : Gx) (r : TSet) (f : D → D → D → Hm → Option Hm) : Prop := ∀ (π : List Addr) (h h' : Hm) (H : Hp) (o i d : D) (x y v : V) (Q : Hp → Prop), Good G π h H → DV G.K π H o x → DV G.K π H i y → DV G.K π H d v → f o i d h = some h' → (∀ H', Step π H π H' → Good G π h' H' → Q H') → r x y v H Q
def rSetM : TSet := fun o i v H Q => rSetL o i v H Q ∨ rSetD o i v H Q
theorem set_m {X : Cx} (hu : X.A.units + 1 < cLine) : PSet X rSetM := by
  intro pins s σ H o i v ov iv u Q I ro ri rv h
  rcases h with h | h
  · exact set_list pins s σ H o i v ov iv u Q I ro ri rv h
  · exact set_dict hu pins s σ H o i v ov iv u Q I ro ri rv h
theorem os_set {G : Gx} : OpS G rSetM fSet := by
  intro π h h' H o i d x y v Q g dx dy dv e q
  unfold fSet at e
  split at e
  · obtain ⟨a, qa, rfl⟩ := dx
    split at e
    · rename_i ds e0
      obtain ⟨xs, ha, k⟩ := g.lst e0 qa
      split at e
      · obtain rfl := (show y = _ from dy)
        split at e
        · rename_i j ej
          cases e
          refine .inl ⟨a, xs, _, j, rfl, rfl, ha, by rw [k.len]; exact ej, q _ (Step.put qa (nfz ha fun _ _ z => (by cases z))) (g.put (o := .lst (ds.set j d)) qa (nfz ha fun _ _ z => (by cases z)) ⟨_, upd_same, (k.set j dv).step (Step.put qa (nfz ha fun _ _ z => (by cases z))) _ _⟩)⟩
        · cases e
      · cases e
    · rename_i kvs e0
      obtain ⟨xs, ha, k⟩ := g.obj e0 qa
      split at e
      · rename_i κ ek
        obtain rfl := keyD_V ek dy
        split at e
        · rename_i hl
          cases e
          exact .inr ⟨a, _, rfl, DPut.k ha (szl' (by rw [k.len]; exact hl)), q _ (Step.put qa (nfz ha fun _ _ z => (by cases z))) (g.put (o := .dic (putDK kvs κ d)) qa (nfz ha fun _ _ z => (by cases z)) ⟨_, upd_same, (k.putK dv).step (Step.put qa (nfz ha fun _ _ z => (by cases z))) _ _⟩)⟩
        · cases e
      · cases e
    · cases e
  · cases e
def gSubM (mo mi : Ev → Hm → R D) : Gt := fun d env h => (mo env h).bindS env fun x h1 => (mi env h1).bindS env fun y h2 => match fSet x y d h2 with
  | some h3 => .next env h3
  | none => .bad
/-- xs[a:c] = ys of another list -/
def gSlM (mo : Ev → Hm → R D) (ml mh : Ev → Hm → R (Option Int)) : Gt := fun d env h => (mo env h).bindS env fun x h1 => (ml env h1).bindS env fun lo h2 => (mh env h2).bindS env fun hi h3 => match x, d, lo, hi with
  | .ref r, .ref t, some a, some c => match h3[r]?, h3[t]? with
    | some (.lst xs), some (.lst ys) => if r ≠ t ∧ 0 ≤ a ∧ a ≤ c ∧ c ≤ xs.length ∧ xs.length + ys.length ≤ 16777216 then .next env (h3.set r (.lst (xs.take a.toNat ++ ys ++ xs.drop c.toNat))) else .bad
    | _, _ => .bad
  | _, _, _, _ => .bad
/-- o.f as a target -/
def gFldM (cs : List Str) (f : Str) (mo : Ev → Hm → R D) : Gt := fun d env h => (mo env h).bindS env fun x h1 => match setF cs f x d h1 with
  | some h2 => .next env h2
  | none => .bad
section
variable {X : Cx} {T : List (Addr × Str)} {W : WX} {o i e : Expr} {mo mi me : Ev → Hm → R D} {f : Str} {cs : List Str} {pos p2 tpos : Pos}
theorem gm_sub (hu : X.A.units + 1 < cLine) (ho : Em X T W o mo) (hi : Em X T W i mi) (ha : ∀ v, assign (.Subscript o i pos) X.env v = (do
      let ov ← holding [v] (eval o X.env)
      let iv ← holding [v, ov] (eval i X.env)
      standAt pos
      holding [v, ov, iv] (setItem ov iv v)
      release [v, ov, iv] []) := by intro _; rfl) : Gm X T W (.Subscript o i pos) (gSubM mo mi) := PG.of (pg_sub ho hi (set_m hu) ha) fun v σ H Q ⟨π, env, h, d, s, dv, p⟩ => by
  refine ⟨π, env, h, s, (PostS.bind s p).mono fun π1 H1 h1 x s1 g1 p1 u du => ⟨π1, env, h1, s.step s1 g1, (PostS.bind (s.step s1 g1) p1).mono fun π2 H2 h2 y s2 g2 p2 w dw => ?_⟩⟩
  split at p2
  · rename_i h3 e3
    exact os_set π2 h2 h3 H2 x y d u w v _ g2 (du.step s2 _ _) dw ((dv.step s1 _ _).step s2 _ _) e3 fun H' st g' => p2 π2 σ H' st (((s.step s1 g1).step s2 g2).step st g')
  · exact p2.elim
def gFld (K : PySem.W.Frag) (to : TE) (f : Str) : TG := fun y σ H Q => to σ H fun x H2 => ∃ a C dx fs, x = .ref a ∧ H2 a = some (.ins C dx fs) ∧ Cls K C ∧ NoAttr K C f ∧ fs.length < 1000 ∧ Q σ (upd H2 a (.ins C dx (putF f y fs)))
theorem pg_fld {to : TE} (ho : PE X o to) : PG X (.Attribute o f pos) (gFld X.K to f) := by
  refine ⟨fun pins s σ H v u Q I r h => ?_⟩
  rw [arm_assign_Attribute]
  refine wpAny_bind (wpAny_holding (thn (ho.run pins s σ H _ I h) fun ov s1 ⟨x, H1, I1, r1, a, C, dx, fs, ex, ea, c, n, l, q1⟩ => ?_))
  subst ex
  obtain rfl : ov = Value.ref a := r1
  refine wpAny_bind (wpAny_standAt (wpAny_bind (wpAny_holding (setattr_ok I1 ea c n l r fun s3 I3 => ?_))))
  exact wpAny_release ⟨σ, _, I3, q1⟩
theorem gm_fld (hf : FOk X cs f) (ho : Em X T W o mo) : Gm X T W (.Attribute o f pos) (gFldM cs f mo) := PG.of (pg_fld ho) fun v σ H Q ⟨π, env, h, d, s, dv, p⟩ => by
  refine ⟨π, env, h, s, (PostS.bind s p).mono fun π1 H1 h1 x s1 g1 p1 u du => ?_⟩
  split at p1
  · rename_i h3 e3
    obtain ⟨c, hc, a, C, dx, fs, m1, rfl, ha, hl, st, g3⟩ := setF_ok g1 du (dv.step s1 _ _) e3
    obtain ⟨c1, c2⟩ := hf c hc C m1
    exact ⟨a, C, dx, fs, rfl, ha, c1, c2, hl, p1 π1 σ _ st ((s.step s1 g1).step st g3)⟩
  · exact p1.elim
def gSl (to : TE) (tl th : TO) : TG := fun v σ H Q => to σ H fun x H1 => tl σ H1 fun lo H2 => th σ H2 fun hi H3 => ∃ l b xs ys a c, x = .ref l ∧ v = .ref b ∧ lo = some a ∧ hi = some c ∧ H3 l = some (.lst xs) ∧ H3 b = some (.lst ys) ∧ l ≠ b ∧ 0 ≤ a ∧ a ≤ c ∧ c ≤ xs.length ∧ xs.length + ys.length ≤ sizeLine ∧ Q σ (upd H3 l (.lst (xs.take a.toNat ++ ys ++ xs.drop c.toNat)))
theorem part_int {u : Value} {a : Int} (p : IsPart u (some a)) : RelV (.int a) u := by
  cases p
  exact ⟨_, rfl⟩
theorem pg_sl {to : TE} {tl th : TO} {lo hi : Option Expr} (ho : PE X o to) (hl : PO X lo tl) (hh : PO X hi th) : PG X (.Subscript o (.Slice lo hi none p2) pos) (gSl to tl th) := by
  refine ⟨fun pins s σ H v u Q I r h => ?_⟩
  rw [arm_assign_Subscript]
  refine wpAny_bind (wpAny_holding (thn (ho.run pins s σ H _ I h) fun ov s1 ⟨x, H1, I1, r1, q1⟩ => ?_))
  refine wpAny_bind (wpAny_holding (wpAny_Slice (thn (hl.run pins s1 σ H1 _ I1 q1) fun vl s2 ⟨l, H2, I2, pl, q2⟩ => thn (hh.run pins s2 σ H2 _ I2 q2) fun vu s3 ⟨u2, H3, I3, pu, q3⟩ => ?_)))
  rw [evalPart_none]
  refine wpAny_pure ?_
  have I4 : Inv X pins σ H3 { s3 with heap := s3.heap.push { cls := .type "slice", data := .fields #[vl, vu, .none] } } := I3.kept (t' := s3.toks) fun b ob q => Heap.get?_push_of_some _ q
  obtain ⟨l, b, xs, ys, a, c, rfl, rfl, rfl, rfl, hL, hB, ne, h0, h1, h2, hz, q⟩ := q3
  obtain rfl : ov = Value.ref l := r1
  obtain rfl : u = Value.ref b := r
  refine wpAny_bind (wpAny_standAt (wpAny_bind (wpAny_holding (set_slice I4 hL hB ne (Heap.IsSliceOf.new ..) (part_int pl) (part_int pu) h0 h1 h2 hz fun s' I' => ?_))))
  exact wpAny_release ⟨σ, _, I', q⟩
theorem gm_sl {ml mh : Ev → Hm → R (Option Int)} {lo hi : Option Expr} (ho : Em X T W o mo) (hl : Om X T W lo ml) (hh : Om X T W hi mh) : Gm X T W (.Subscript o (.Slice lo hi none p2) pos) (gSlM mo ml mh) := PG.of (pg_sl ho hl hh) fun v σ H Q ⟨π, env, h, d, s, dv, p⟩ => by
  refine ⟨π, env, h, s, (PostS.bind s p).mono fun π1 H1 h1 x s1 g1 p1 u du => ⟨π1, env, h1, s.step s1 g1, (PostS.bind (s.step s1 g1) p1).mono fun π2 H2 h2 lo s2 g2 p2 => ⟨π2, env, h2, (s.step s1 g1).step s2 g2, (PostS.bind ((s.step s1 g1).step s2 g2) p2).mono fun π3 H3 h3 hi s3 g3 p3 => ?_⟩⟩⟩
  have du' := (du.step s2 _ _).step s3 _ _
  have dv' := ((dv.step s1 _ _).step s2 _ _).step s3 _ _
  split at p3
  · rename_i r t a c
    obtain ⟨l, ql, rfl⟩ := du'
    obtain ⟨b, qb, rfl⟩ := dv'
    split at p3
    · rename_i xs ys e1 e2
      split at p3
      · rename_i hc
        obtain ⟨ws, ha, k1⟩ := g3.lst e1 ql
        obtain ⟨zs, hb, k2⟩ := g3.lst e2 qb
        refine ⟨l, b, ws, zs, a, c, rfl, rfl, rfl, rfl, ha, hb, fun z => hc.1 ?_, hc.2.1, hc.2.2.1, by rw [k1.len]; exact hc.2.2.2.1, szl (by rw [k1.len, k2.len]; exact hc.2.2.2.2), p3 π3 σ _ (Step.put ql (nfz ha fun _ _ z => (by cases z))) ((((s.step s1 g1).step s2 g2).step s3 g3).step (Step.put ql (nfz ha fun _ _ z => (by cases z))) (g3.put (o := .lst _) ql (nfz ha fun _ _ z => (by cases z)) ⟨_, upd_same, (((k1.take _).app k2).app (k1.drop _)).step (Step.put ql (nfz ha fun _ _ z => (by cases z))) _ _⟩))⟩
        rw [← z] at qb
        exact nodup_ix' g3.nd ql qb
      · exact p3.elim
    · exact p3.elim
  · exact p3.elim
end
end MM

namespace MM
open PySem L2

abbrev Itr := List D × List (Nat × O)
def gdOk (gs : List (Nat × O)) (h : Hm) : Bool := gs.all fun p => decide (h[p.1]? = some p.2)
structure WalkD (G : Gx) (π0 : List Addr) (H0 : Hp) (J : It) (it : Itr) : Prop where
  go : ∀ i π h H, Step π0 H0 π H → Good G π h H → gdOk it.2 h = true → i < it.1.length → J.go i H
  stop : ∀ i π h H, Step π0 H0 π H → Good G π h H → gdOk it.2 h = true → i = it.1.length → J.stop i H
  yld : ∀ i π h H x H', Step π0 H0 π H → Good G π h H → gdOk it.2 h = true → i < it.1.length → J.yld i H x H' → Step π H π H' ∧ Good G π h H' ∧ ∃ d, it.1[i]? = some d ∧ DV G.K π H' d x
def tI (G : Gx) (W : WX) (m : Ev → Hm → R Itr) : TI := fun σ H Rr => ∃ π env h, S G π env h σ H ∧ Post G W π σ H (m env h) fun π' H' _ it => ∀ J, WalkD G π' H' J it → Rr J H'
abbrev Im (X : Cx) (T : List (Addr × Str)) (W : WX) (tg e : Expr) (m : Ev → Hm → R Itr) : Prop := PI X tg e (tI (gx X T) W m)
theorem PI.of {X : Cx} {tg e : Expr} {t t' : TI} (p : PI X tg e t) (w : ∀ σ H Q, t' σ H Q → t σ H Q) : PI X tg e t' := ⟨fun pins s σ H Q I h => p.run pins s σ H Q I (w σ H Q h)⟩
section
variable {G : Gx} {π0 : List Addr} {H0 : Hp} {a b : Addr} {i r : Nat} {ds es : List D} {xs : List V}
theorem gd1 {gs : List (Nat × O)} {h : Hm} {p : Nat × O} (e : gdOk gs h = true) (m : p ∈ gs) : h[p.1]? = some p.2 := of_decide_eq_true (List.all_eq_true.mp e p m)
theorem walk_lst (q : π0[r]? = some a) : WalkD G π0 H0 (Itl G.K a) (ds, [(r, .lst ds)]) := by
  refine ⟨fun i π h H s g e hi => ?_, fun i π h H s g e hi => ?_, fun i π h H x H' s g e hi y => ?_⟩
  · obtain ⟨xs, ha, k⟩ := g.lst (gd1 e List.mem_cons_self) (s.get q)
    obtain ⟨v, h1, _⟩ := k.get (List.getElem?_eq_getElem hi)
    exact ⟨xs, v, SqL.of ha, h1⟩
  · obtain ⟨xs, ha, k⟩ := g.lst (gd1 e List.mem_cons_self) (s.get q)
    exact ⟨xs, SqL.of ha, by rw [k.len, hi]; exact Nat.le_refl _⟩
  · obtain ⟨xs, ha, k⟩ := g.lst (gd1 e List.mem_cons_self) (s.get q)
    obtain ⟨rfl, y⟩ := y
    obtain ⟨d, h1, h2⟩ := k.getR (y xs (SqL.of ha))
    exact ⟨Step.refl, g, d, h1, h2⟩
theorem walk_rol (t : LstAt G.K π0 H0 a xs) (k : DVs G.K π0 H0 ds xs) : WalkD G π0 H0 (Itl G.K a) (ds, []) := by
  refine ⟨fun i π h H s g e hi => ?_, fun i π h H s g e hi => ?_, fun i π h H x H' s g e hi y => ?_⟩
  · obtain ⟨v, h1, _⟩ := k.get (List.getElem?_eq_getElem hi)
    exact ⟨xs, v, (t.step s).sq, h1⟩
  · exact ⟨xs, (t.step s).sq, by rw [k.len, hi]; exact Nat.le_refl _⟩
  · obtain ⟨rfl, y⟩ := y
    obtain ⟨d, h1, h2⟩ := k.getR (y xs (t.step s).sq)
    exact ⟨Step.refl, g, d, h1, h2.step s _ _⟩
theorem walk_tp (t : TupAt G.K π0 H0 a xs) (k : DVs G.K π0 H0 ds xs) : WalkD G π0 H0 (Itt G.K a) (ds, []) := by
  refine ⟨fun i π h H s g e hi => ?_, fun i π h H s g e hi => ?_, fun i π h H x H' s g e hi y => ?_⟩
  · obtain ⟨v, h1, _⟩ := k.get (List.getElem?_eq_getElem hi)
    exact ⟨xs, v, (t.step s).sq, h1⟩
  · exact ⟨xs, (t.step s).sq, by rw [k.len, hi]; exact Nat.le_refl _⟩
  · obtain ⟨rfl, y⟩ := y
    obtain ⟨d, h1, h2⟩ := k.getR (y xs (t.step s).sq)
    exact ⟨Step.refl, g, d, h1, h2.step s _ _⟩
theorem get_map_range {f : Nat → D} {n i : Nat} (hi : i < n) : ((List.range n).map f)[i]? = some (f i) := by simp [hi]
/-- lo, lo + c, .. -/
def rngD (lo c : Int) (n : Nat) : List D := (List.range n).map fun i : Nat => D.int (lo + (i : Int) * c)
def rng1 (lo : Int) (n : Nat) : List D := (List.range n).map fun i : Nat => D.int (lo + (i : Int))
theorem walk_rg {lo : Int} {n : Nat} : WalkD G π0 H0 (L2.Itr lo n) (rng1 lo n, []) := by
  refine ⟨fun i π h H s g e hi => ?_, fun i π h H s g e hi => ?_, fun i π h H x H' s g e hi y => ?_⟩
  · have hi' : i < n := by simpa [rng1] using hi
    exact hi'
  · have : n ≤ i := by simp [rng1] at hi; omega
    exact this
  · obtain ⟨rfl, y⟩ := y
    have hi' : i < n := by simpa [rng1] using hi
    exact ⟨Step.refl, g, _, get_map_range hi', y⟩
theorem walk_rgc {lo c : Int} {n : Nat} : WalkD G π0 H0 (Itc lo c n) (rngD lo c n, []) := by
  refine ⟨fun i π h H s g e hi => ?_, fun i π h H s g e hi => ?_, fun i π h H x H' s g e hi y => ?_⟩
  · have hi' : i < n := by simpa [rngD] using hi
    exact hi'
  · have : n ≤ i := by simp [rngD] at hi; omega
    exact this
  · obtain ⟨rfl, y⟩ := y
    have hi' : i < n := by simpa [rngD] using hi
    exact ⟨Step.refl, g, _, get_map_range hi', y⟩
/-- reversed(list): the length is the one at the start -/
theorem walk_rv (q : π0[r]? = some a) {n : Nat} (hn : n = ds.length) : WalkD G π0 H0 (Itv G.K a n) (ds.reverse, [(r, .lst ds)]) := by
  subst hn
  refine ⟨fun i π h H s g e hi => ?_, fun i π h H s g e hi => ?_, fun i π h H x H' s g e hi y => ?_⟩
  · rw [List.length_reverse] at hi
    obtain ⟨xs, ha, k⟩ := g.lst (gd1 e List.mem_cons_self) (s.get q)
    obtain ⟨v, h1, _⟩ := k.get (List.getElem?_eq_getElem (show ds.length - 1 - i < ds.length by omega))
    exact ⟨hi, xs, v, SqL.of ha, h1⟩
  · rw [List.length_reverse] at hi
    exact Nat.le_of_eq hi.symm
  · rw [List.length_reverse] at hi
    obtain ⟨xs, ha, k⟩ := g.lst (gd1 e List.mem_cons_self) (s.get q)
    obtain ⟨rfl, y⟩ := y
    obtain ⟨d, h1, h2⟩ := k.getR (y xs (SqL.of ha))
    exact ⟨Step.refl, g, d, by rw [List.getElem?_reverse hi]; exact h1, h2⟩
theorem walk_rvK (t : LstAt G.K π0 H0 a xs) (k : DVs G.K π0 H0 ds xs) : WalkD G π0 H0 (Itv G.K a xs.length) (ds.reverse, []) := by
  refine ⟨fun i π h H s g e hi => ?_, fun i π h H s g e hi => ?_, fun i π h H x H' s g e hi y => ?_⟩
  · rw [List.length_reverse] at hi
    obtain ⟨v, h1, _⟩ := k.get (List.getElem?_eq_getElem (show xs.length - 1 - i < ds.length by rw [k.len]; omega))
    exact ⟨by rw [k.len]; exact hi, xs, v, (t.step s).sq, h1⟩
  · rw [List.length_reverse] at hi
    show xs.length ≤ i
    rw [k.len]
    omega
  · rw [List.length_reverse] at hi
    obtain ⟨rfl, y⟩ := y
    obtain ⟨d, h1, h2⟩ := k.getR (y xs (t.step s).sq)
    rw [k.len] at h1
    exact ⟨Step.refl, g, d, by rw [List.getElem?_reverse hi]; exact h1, h2.step s _ _⟩
theorem walk_rvT (t : TupAt G.K π0 H0 a xs) (k : DVs G.K π0 H0 ds xs) : WalkD G π0 H0 (RT.ItvT G.K a xs.length) (ds.reverse, []) := by
  refine ⟨fun i π h H s g e hi => ?_, fun i π h H s g e hi => ?_, fun i π h H x H' s g e hi y => ?_⟩
  · rw [List.length_reverse] at hi
    obtain ⟨v, h1, _⟩ := k.get (List.getElem?_eq_getElem (show xs.length - 1 - i < ds.length by rw [k.len]; omega))
    exact ⟨by rw [k.len]; exact hi, xs, v, (t.step s).sq, h1⟩
  · rw [List.length_reverse] at hi
    show xs.length ≤ i
    rw [k.len]
    omega
  · rw [List.length_reverse] at hi
    obtain ⟨rfl, y⟩ := y
    obtain ⟨d, h1, h2⟩ := k.getR (y xs (t.step s).sq)
    rw [k.len] at h1
    exact ⟨Step.refl, g, d, by rw [List.getElem?_reverse hi]; exact h1, h2.step s _ _⟩
def enumD (n : Nat) : List D → List D
  | [] => []
  | d :: ds => .tup [.int n, d] :: enumD (n + 1) ds
theorem enumD_len : ∀ (ds : List D) (n : Nat), (enumD n ds).length = ds.length
  | [], _ => rfl
  | d :: ds, n => by unfold enumD; rw [List.length_cons, List.length_cons, enumD_len ds]
theorem enumD_get : ∀ (ds : List D) (n i : Nat) (d : D), ds[i]? = some d → (enumD n ds)[i]? = some (.tup [.int ((n + i : Nat) : Int), d])
  | d :: ds, n, 0, d', e => by cases e; rfl
  | d :: ds, n, i + 1, d', e => by
    have := enumD_get ds (n + 1) i d' e
    unfold enumD
    rw [List.getElem?_cons_succ, this, show n + 1 + i = n + (i + 1) by omega]
/-- a new pair -/
theorem new_pair {π : List Addr} {h : Hm} {H : Hp} (g : Good G π h H) {P : Addr} (n : H P = none) {x y : V} {d e : D} (dx : DV G.K π H d x) (ey : DV G.K π H e y) : Step π H π (upd H P (.tup [x, y])) ∧ Good G π h (upd H P (.tup [x, y])) ∧ DV G.K π (upd H P (.tup [x, y])) (.tup [d, e]) (.ref P) := by
  have s := Step.other (o := .tup [x, y]) g n
  exact ⟨s, g.other n, P, [x, y], rfl, .inl ⟨upd_same, g.free n⟩, .two (dx.step s _ _) (ey.step s _ _)⟩
theorem walk_en (q : π0[r]? = some a) : WalkD G π0 H0 (Ite G.K a) (enumD 0 ds, [(r, .lst ds)]) := by
  refine ⟨fun i π h H s g e hi => ?_, fun i π h H s g e hi => ?_, fun i π h H x H' s g e hi y => ?_⟩
  · rw [enumD_len] at hi
    obtain ⟨xs, ha, k⟩ := g.lst (gd1 e List.mem_cons_self) (s.get q)
    obtain ⟨v, h1, _⟩ := k.get (List.getElem?_eq_getElem hi)
    exact ⟨xs, v, SqL.of ha, h1⟩
  · rw [enumD_len] at hi
    obtain ⟨xs, ha, k⟩ := g.lst (gd1 e List.mem_cons_self) (s.get q)
    exact ⟨xs, SqL.of ha, by rw [k.len, hi]; exact Nat.le_refl _⟩
  · obtain ⟨xs, ha, k⟩ := g.lst (gd1 e List.mem_cons_self) (s.get q)
    obtain ⟨P, z, rfl, hn, rfl, y⟩ := y
    obtain ⟨d, h1, h2⟩ := k.getR (y xs (SqL.of ha))
    obtain ⟨p1, p2, p3⟩ := new_pair (d := .int (i : Nat)) (x := .int (i : Nat)) g hn rfl h2
    refine ⟨p1, p2, _, enumD_get ds 0 i d h1, ?_⟩
    rw [Nat.zero_add]
    exact p3
theorem walk_enK (t : LstAt G.K π0 H0 a xs) (k : DVs G.K π0 H0 ds xs) : WalkD G π0 H0 (Ite G.K a) (enumD 0 ds, []) := by
  refine ⟨fun i π h H s g e hi => ?_, fun i π h H s g e hi => ?_, fun i π h H x H' s g e hi y => ?_⟩
  · rw [enumD_len] at hi
    obtain ⟨v, h1, _⟩ := k.get (List.getElem?_eq_getElem hi)
    exact ⟨xs, v, (t.step s).sq, h1⟩
  · rw [enumD_len] at hi
    exact ⟨xs, (t.step s).sq, by rw [k.len, hi]; exact Nat.le_refl _⟩
  · obtain ⟨P, z, rfl, hn, rfl, y⟩ := y
    obtain ⟨d, h1, h2⟩ := k.getR (y xs (t.step s).sq)
    obtain ⟨p1, p2, p3⟩ := new_pair (d := .int (i : Nat)) (x := .int (i : Nat)) g hn rfl (h2.step s _ _)
    refine ⟨p1, p2, _, enumD_get ds 0 i d h1, ?_⟩
    rw [Nat.zero_add]
    exact p3
def zipD (ds es : List D) : List D := (ds.zip es).map fun p => .tup [p.1, p.2]
theorem zipD_get {i : Nat} {d e : D} (h1 : ds[i]? = some d) (h2 : es[i]? = some e) : (zipD ds es)[i]? = some (.tup [d, e]) := by
  unfold zipD
  rw [List.getElem?_map, show (ds.zip es)[i]? = some (d, e) from List.getElem?_zip_eq_some.mpr ⟨h1, h2⟩] <;> rfl
theorem zipD_len : (zipD ds es).length = min ds.length es.length := by unfold zipD; rw [List.length_map, List.length_zip]
/-- the items of a list or a tuple, at every later heap -/
def SeqA (G : Gx) (π0 : List Addr) (H0 : Hp) (tup : Bool) (a : Addr) (ds : List D) (gs : List (Nat × O)) : Prop :=
  ∀ π h H, Step π0 H0 π H → Good G π h H → gdOk gs h = true → ∃ xs, (if tup = true then SqT G.K H a xs else SqL G.K H a xs) ∧ DVs G.K π H ds xs
theorem seqA_lst (q : π0[r]? = some a) : SeqA G π0 H0 false a ds [(r, .lst ds)] := fun π h H s g e => by
  obtain ⟨xs, ha, k⟩ := g.lst (gd1 e List.mem_cons_self) (s.get q)
  exact ⟨xs, SqL.of ha, k⟩
theorem seqA_rol (t : LstAt G.K π0 H0 a xs) (k : DVs G.K π0 H0 ds xs) : SeqA G π0 H0 false a ds [] := fun π h H s g e => ⟨xs, (t.step s).sq, k.step s _ _⟩
theorem seqA_tup (t : TupAt G.K π0 H0 a xs) (k : DVs G.K π0 H0 ds xs) : SeqA G π0 H0 true a ds [] := fun π h H s g e => ⟨xs, (t.step s).sq, k.step s _ _⟩
theorem gdOk_app {g1 g2 : List (Nat × O)} {h : Hm} (e : gdOk (g1 ++ g2) h = true) : gdOk g1 h = true ∧ gdOk g2 h = true := by
  unfold gdOk at e ⊢
  rw [List.all_append, Bool.and_eq_true] at e
  exact e
theorem walk_zp {g1 g2 : List (Nat × O)} (w1 : SeqA G π0 H0 false a ds g1) (w2 : SeqA G π0 H0 false b es g2) : WalkD G π0 H0 (Itz G.K a b) (zipD ds es, g1 ++ g2) := by
  refine ⟨fun i π h H s g e hi => ?_, fun i π h H s g e hi => ?_, fun i π h H x H' s g e hi y => ?_⟩
  · obtain ⟨xs, ha, k⟩ := w1 π h H s g (gdOk_app e).1
    obtain ⟨ys, hb, k2⟩ := w2 π h H s g (gdOk_app e).2
    rw [zipD_len] at hi
    obtain ⟨v, h1, _⟩ := k.get (List.getElem?_eq_getElem (show i < ds.length by omega))
    obtain ⟨u, h2, _⟩ := k2.get (List.getElem?_eq_getElem (show i < es.length by omega))
    exact ⟨xs, ys, v, u, ha, hb, h1, h2⟩
  · obtain ⟨xs, ha, k⟩ := w1 π h H s g (gdOk_app e).1
    obtain ⟨ys, hb, k2⟩ := w2 π h H s g (gdOk_app e).2
    rw [zipD_len] at hi
    exact ⟨xs, ys, ha, hb, by rw [k.len, k2.len]; omega⟩
  · obtain ⟨xs, ha, k⟩ := w1 π h H s g (gdOk_app e).1
    obtain ⟨ys, hb, k2⟩ := w2 π h H s g (gdOk_app e).2
    obtain ⟨P, u, w, rfl, hn, rfl, y1, y2⟩ := y
    obtain ⟨d, h1, h2⟩ := k.getR (y1 xs ha)
    obtain ⟨d', h1', h2'⟩ := k2.getR (y2 ys hb)
    obtain ⟨p1, p2, p3⟩ := new_pair g hn h2 h2'
    exact ⟨p1, p2, _, zipD_get h1 h1', p3⟩
theorem walk_zpT {g1 g2 : List (Nat × O)} (w1 : SeqA G π0 H0 true a ds g1) (w2 : SeqA G π0 H0 true b es g2) : WalkD G π0 H0 (RZ.ItzT G.K a b) (zipD ds es, g1 ++ g2) := by
  refine ⟨fun i π h H s g e hi => ?_, fun i π h H s g e hi => ?_, fun i π h H x H' s g e hi y => ?_⟩
  · obtain ⟨xs, ha, k⟩ := w1 π h H s g (gdOk_app e).1
    obtain ⟨ys, hb, k2⟩ := w2 π h H s g (gdOk_app e).2
    rw [zipD_len] at hi
    obtain ⟨v, h1, _⟩ := k.get (List.getElem?_eq_getElem (show i < ds.length by omega))
    obtain ⟨u, h2, _⟩ := k2.get (List.getElem?_eq_getElem (show i < es.length by omega))
    exact ⟨xs, ys, v, u, ha, hb, h1, h2⟩
  · obtain ⟨xs, ha, k⟩ := w1 π h H s g (gdOk_app e).1
    obtain ⟨ys, hb, k2⟩ := w2 π h H s g (gdOk_app e).2
    rw [zipD_len] at hi
    exact ⟨xs, ys, ha, hb, by rw [k.len, k2.len]; omega⟩
  · obtain ⟨xs, ha, k⟩ := w1 π h H s g (gdOk_app e).1
    obtain ⟨ys, hb, k2⟩ := w2 π h H s g (gdOk_app e).2
    obtain ⟨P, u, w, rfl, hn, rfl, y1, y2⟩ := y
    obtain ⟨d, h1, h2⟩ := k.getR (y1 xs ha)
    obtain ⟨d', h1', h2'⟩ := k2.getR (y2 ys hb)
    obtain ⟨p1, p2, p3⟩ := new_pair g hn h2 h2'
    exact ⟨p1, p2, _, zipD_get h1 h1', p3⟩
end

/-- of a list, of a tuple -/
def itL (h : Hm) : D → Option Itr
  | .rol ds => some (ds, [])
  | .ref r => match h[r]? with
    | some (.lst ds) => some (ds, [(r, .lst ds)])
    | _ => none
  | _ => none
def itT : D → Option Itr
  | .tup ds => some (ds, [])
  | _ => none
def oR {α : Type} (o : Option α) (h : Hm) : R α := match o with
  | some a => .ok a h
  | none => .bad
def mItL (m : Ev → Hm → R D) : Ev → Hm → R Itr := fun env h => (m env h).bind fun x h1 => oR (itL h1 x) h1
def mItT (m : Ev → Hm → R D) : Ev → Hm → R Itr := fun env h => (m env h).bind fun x h1 => oR (itT x) h1
def sm62 (i : Int) : Bool := decide (-(2 ^ 62) ≤ i ∧ i < 2 ^ 62)
def mRg1 (m : Ev → Hm → R (List D)) : Ev → Hm → R Itr := fun env h => (m env h).bind fun ds h1 => match ds with
  | [.int j] => if sm62 j = true then .ok (rng1 0 j.toNat, []) h1 else .bad
  | _ => .bad
def mRg2 (m : Ev → Hm → R (List D)) : Ev → Hm → R Itr := fun env h => (m env h).bind fun ds h1 => match ds with
  | [.int i, .int j] => if sm62 i = true ∧ sm62 j = true then .ok (rng1 i (j - i).toNat, []) h1 else .bad
  | _ => .bad
/-- range(i, j, -1) -/
def mRg3 (m : Ev → Hm → R (List D)) : Ev → Hm → R Itr := fun env h => (m env h).bind fun ds h1 => match ds with
  | [.int i, .int j, .int c] => if sm62 i = true ∧ sm62 j = true ∧ c = -1 then .ok (rngD i (-1) (i - j).toNat, []) h1 else .bad
  | _ => .bad
/-- reversed(range(j)) -/
def mRvR (m : Ev → Hm → R (List D)) : Ev → Hm → R Itr := fun env h => (m env h).bind fun ds h1 => match ds with
  | [.int j] => if sm62 j = true then .ok (rngD (0 + (((j - 0).toNat : Nat) : Int) - 1) (-1) (j - 0).toNat, []) h1 else .bad
  | _ => .bad
def itRev (h : Hm) : D → Option Itr
  | .rol ds => some (ds.reverse, [])
  | .tup ds => some (ds.reverse, [])
  | .ref r => match h[r]? with
    | some (.lst ds) => some (ds.reverse, [(r, .lst ds)])
    | _ => none
  | _ => none
def mRev (m : Ev → Hm → R D) : Ev → Hm → R Itr := fun env h => (m env h).bind fun x h1 => oR (itRev h1 x) h1
def mEnum (m : Ev → Hm → R (List D)) : Ev → Hm → R Itr := fun env h => (m env h).bind fun ds h1 => match ds with
  | [x] => match itL h1 x with
    | some it => .ok (enumD 0 it.1, it.2) h1
    | none => .bad
  | _ => .bad
def mZip (m : Ev → Hm → R (List D)) : Ev → Hm → R Itr := fun env h => (m env h).bind fun ds h1 => match ds with
  | [x, y] => match itL h1 x, itL h1 y with
    | some a, some b => .ok (zipD a.1 b.1, a.2 ++ b.2) h1
    | _, _ => match itT x, itT y with
      | some a, some b => .ok (zipD a.1 b.1, a.2 ++ b.2) h1
      | _, _ => .bad
  | _ => .bad
section
variable {G : Gx} {π : List Addr} {h : Hm} {H : Hp}
theorem itL_ok (g : Good G π h H) {d : D} {x : V} {it : Itr} (dx : DV G.K π H d x) (e : itL h d = some it) : ∃ a, x = .ref a ∧ (∃ xs, SqL G.K H a xs) ∧ WalkD G π H (Itl G.K a) it ∧ SeqA G π H false a it.1 it.2 ∧ WalkD G π H (Ite G.K a) (enumD 0 it.1, it.2) := by
  cases d with
  | rol ds =>
    cases e
    obtain ⟨a, xs, rfl, t, q⟩ := dx
    exact ⟨a, rfl, ⟨xs, t.sq⟩, walk_rol t q, seqA_rol t q, walk_enK t q⟩
  | ref r =>
    obtain ⟨a, qa, rfl⟩ := dx
    have e' : (match h[r]? with
      | some (.lst ds) => some (ds, [(r, O.lst ds)])
      | _ => none) = some it := e
    split at e'
    · rename_i e0
      cases e'
      obtain ⟨xs, ha, q⟩ := g.lst e0 qa
      exact ⟨a, rfl, ⟨xs, SqL.of ha⟩, walk_lst qa, seqA_lst qa, walk_en qa⟩
    · cases e'
  | _ => cases e
theorem itT_ok {d : D} {x : V} {it : Itr} (dx : DV G.K π H d x) (e : itT d = some it) : ∃ a, x = .ref a ∧ (∃ xs, SqT G.K H a xs) ∧ WalkD G π H (Itt G.K a) it ∧ SeqA G π H true a it.1 it.2 := by
  cases d with
  | tup ds =>
    cases e
    obtain ⟨a, xs, rfl, t, q⟩ := dx
    exact ⟨a, rfl, ⟨xs, t.sq⟩, walk_tp t q, seqA_tup t q⟩
  | _ => cases e
end
theorem sm62_ok {i : Int} (h : sm62 i = true) : -(2 ^ 62) ≤ i ∧ i < 2 ^ 62 := of_decide_eq_true h
section
variable {X : Cx} {T : List (Addr × Str)} {W : WX} {tg e e2 e3 : Expr} {es : List Expr} {me me2 : Ev → Hm → R D} {mr : Ev → Hm → R (List D)} {p p' pos pos' tpos : Pos} {kk : Nat} {elts : List Expr}
theorem im_list (he : Em X T W e me) : Im X T W tg e (mItL me) := PI.of (pi_list he) fun σ H Q ⟨π, env, h, s, p⟩ => by
  refine ⟨π, env, h, s, p.bind.mono fun π1 H1 h1 d s1 g1 p1 x dx => ?_⟩
  cases q : itL h1 d with
  | none => rw [q] at p1; exact p1.elim
  | some it =>
    rw [q] at p1
    obtain ⟨a, e1, e2, w, _⟩ := itL_ok g1 dx q
    exact ⟨a, e1, e2, p1 π1 H1 Step.refl g1 _ w⟩
theorem im_tup (he : Em X T W e me) : Im X T W tg e (mItT me) := PI.of (pi_tup he) fun σ H Q ⟨π, env, h, s, p⟩ => by
  refine ⟨π, env, h, s, p.bind.mono fun π1 H1 h1 d s1 g1 p1 x dx => ?_⟩
  cases q : itT d with
  | none => rw [q] at p1; exact p1.elim
  | some it =>
    rw [q] at p1
    obtain ⟨a, e1, e2, w, _⟩ := itT_ok (G := gx X T) dx q
    exact ⟨a, e1, e2, p1 π1 H1 Step.refl g1 _ w⟩
theorem im_range1 (hg : Gl X "range") (hm : X.mg "range" = none) (ha : Am X T W [e] mr) (hs : starEach [e] X.env = [(false, eval e X.env)] := by rfl) : Im X T W tg (.Call (.Name "range" p) [e] [] pos) (mRg1 mr) := PI.of (pi_range1 hg hm ha hs) fun σ H Q ⟨π, env, h, s, p⟩ => by
  refine ⟨π, env, h, s, p.bind.mono fun π1 H1 h1 ds s1 g1 p1 vs dv => ?_⟩
  split at p1
  · obtain ⟨v, vs, rfl, d1, e⟩ := dv
    obtain rfl := (show vs = [] from e)
    obtain rfl := (show v = _ from d1)
    split at p1
    · rename_i hc
      exact ⟨_, rfl, (sm62_ok hc).1, (sm62_ok hc).2, p1 π1 H1 Step.refl g1 _ walk_rg⟩
    · exact p1.elim
  · exact p1.elim
theorem im_range2 (hg : Gl X "range") (hm : X.mg "range" = none) (ha : Am X T W [e, e2] mr) (hs : starEach [e, e2] X.env = [(false, eval e X.env), (false, eval e2 X.env)] := by rfl) (hs2 : starEach [e2] X.env = [(false, eval e2 X.env)] := by rfl) : Im X T W tg (.Call (.Name "range" p) [e, e2] [] pos) (mRg2 mr) := PI.of (pi_range2 hg hm ha hs hs2) fun σ H Q ⟨π, env, h, s, p⟩ => by
  refine ⟨π, env, h, s, p.bind.mono fun π1 H1 h1 ds s1 g1 p1 vs dv => ?_⟩
  split at p1
  · obtain ⟨v, vs, rfl, d1, w, ws, rfl, d2, e⟩ := dv
    obtain rfl := (show ws = [] from e)
    obtain rfl := (show v = _ from d1)
    obtain rfl := (show w = _ from d2)
    split at p1
    · rename_i hc
      exact ⟨_, _, rfl, ⟨(sm62_ok hc.1).1, (sm62_ok hc.1).2, (sm62_ok hc.2).1, (sm62_ok hc.2).2⟩, p1 π1 H1 Step.refl g1 _ walk_rg⟩
    · exact p1.elim
  · exact p1.elim
theorem im_reversed (hg : Gl X "reversed") (hm : X.mg "reversed" = none) (he : Em X T W e me) (hs : starEach [e] X.env = (false, eval e X.env) :: starEach [] X.env := by rfl) : Im X T W tg (.Call (.Name "reversed" p) [e] [] pos) (mRev me) := PI.of (RT.pi_revA hg hm he hs) fun σ H Q ⟨π, env, h, s, p⟩ => by
  refine ⟨π, env, h, s, p.bind.mono fun π1 H1 h1 d s1 g1 p1 x dx => ?_⟩
  cases q : itRev h1 d with
  | none => rw [q] at p1; exact p1.elim
  | some it =>
    rw [q] at p1
    cases d with
    | rol ds =>
      cases q
      obtain ⟨a, xs, rfl, t, q⟩ := dx
      exact ⟨a, xs, rfl, .inl ⟨t.sq, p1 π1 H1 Step.refl g1 _ (walk_rvK t q)⟩⟩
    | tup ds =>
      cases q
      obtain ⟨a, xs, rfl, t, q⟩ := dx
      exact ⟨a, xs, rfl, .inr ⟨t.sq, p1 π1 H1 Step.refl g1 _ (walk_rvT t q)⟩⟩
    | ref r =>
      obtain ⟨a, qa, rfl⟩ := dx
      have e' : (match h1[r]? with
        | some (.lst ds) => some (ds.reverse, [(r, O.lst ds)])
        | _ => none) = some it := q
      split at e'
      · rename_i e0
        cases e'
        obtain ⟨xs, ha, q⟩ := g1.lst e0 qa
        exact ⟨a, xs, rfl, .inl ⟨SqL.of ha, p1 π1 H1 Step.refl g1 _ (walk_rv qa q.len)⟩⟩
      · cases e'
    | _ => cases q
theorem im_enum (hg : Gl X "enumerate") (hm : X.mg "enumerate" = none) (ha : Am X T W [e] mr) (hs : starEach [e] X.env = [(false, eval e X.env)] := by rfl) : Im X T W (.Tuple elts kk tpos) (.Call (.Name "enumerate" p) [e] [] pos) (mEnum mr) := PI.of (pi_enum hg hm ha hs) fun σ H Q ⟨π, env, h, s, p⟩ => by
  refine ⟨π, env, h, s, p.bind.mono fun π1 H1 h1 ds s1 g1 p1 vs dv => ?_⟩
  split at p1
  · obtain ⟨v, vs, rfl, d1, e⟩ := dv
    obtain rfl := (show vs = [] from e)
    split at p1
    · rename_i it ei
      obtain ⟨a, e1, ⟨xs, e2⟩, w, w2, w3⟩ := itL_ok g1 d1 ei
      subst e1
      exact ⟨a, xs, rfl, e2, p1 π1 H1 Step.refl g1 _ w3⟩
    · exact p1.elim
  · exact p1.elim
theorem im_zip (hg : Gl X "zip") (hm : X.mg "zip" = none) (ha : Am X T W [e, e2] mr) (hs : starEach [e, e2] X.env = (false, eval e X.env) :: starEach [e2] X.env := by rfl) (hpl : (backTo pos (starEach [e2] X.env)).any (·.1) = false := by rfl) : Im X T W (.Tuple elts kk tpos) (.Call (.Name "zip" p) [e, e2] [] pos) (mZip mr) := PI.of (RZ.pi_zipA hg hm ha hs hpl) fun σ H Q ⟨π, env, h, s, p⟩ => by
  refine ⟨π, env, h, s, p.bind.mono fun π1 H1 h1 ds s1 g1 p1 vs dv => ?_⟩
  split at p1
  · rename_i x y
    obtain ⟨v, vs, rfl, d1, w, ws, rfl, d2, e⟩ := dv
    obtain rfl := (show ws = [] from e)
    split at p1
    · rename_i ia ib ea eb
      obtain ⟨a, e1, ⟨xs, e2⟩, _, w2, _⟩ := itL_ok g1 d1 ea
      obtain ⟨b, e1', ⟨ys, e2'⟩, _, w2', _⟩ := itL_ok g1 d2 eb
      subst e1 e1'
      exact ⟨a, b, xs, ys, rfl, .inl ⟨e2, e2', p1 π1 H1 Step.refl g1 _ (walk_zp w2 w2')⟩⟩
    · split at p1
      · rename_i ia ib ea eb
        obtain ⟨a, e1, ⟨xs, e2⟩, _, w2⟩ := itT_ok (G := gx X T) d1 ea
        obtain ⟨b, e1', ⟨ys, e2'⟩, _, w2'⟩ := itT_ok (G := gx X T) d2 eb
        subst e1 e1'
        exact ⟨a, b, xs, ys, rfl, .inr ⟨e2, e2', p1 π1 H1 Step.refl g1 _ (walk_zpT w2 w2')⟩⟩
      · exact p1.elim
  · exact p1.elim
end

def forL (gs : List (Nat × O)) (g : Gt) (b : Ev → Hm → SR) : List D → Ev → Hm → SR
  | [], env, h => if gdOk gs h = true then .next env h else .bad
  | d :: ds, env, h => if gdOk gs h = true then (match (g d env h).only with
      | .next e1 h1 => (match b e1 h1 with
        | .next e2 h2 => forL gs g b ds e2 h2
        | .cont e2 h2 => forL gs g b ds e2 h2
        | .brk e2 h2 => .next e2 h2
        | r => r)
      | r => r) else .bad
def sFor (m : Ev → Hm → R Itr) (g : Gt) (b : Ev → Hm → SR) : Ev → Hm → SR := fun env h => (m env h).bindS env fun it h1 => forL it.2 g b it.1 env h1
section
variable {X : Cx} {T : List (Addr × Str)} {W : WX} {tg iter : Expr} {body : List Stmt} {m : Ev → Hm → R Itr} {g : Gt} {b : Ev → Hm → SR} {pos : Pos}
theorem sm_for (hp : PassesOwn (model X.prog X.w) X.A X.env X.xe) (hc : X.calm = true) (hi : Im X T W tg iter m) (hg : Gm X T W tg g) (hb : Ssm X T W body b) (hs : ∀ x, foldedSetIterable iter X.env x = pure x := by intro _; rfl) : Sm X T W (.For tg iter body [] pos) (sFor m g b) :=
  PS.of (ps_for hp hc hi hg hb hs) fun D σ H ⟨π, env, h, s, p⟩ => ⟨π, env, h, s, (PostS.bind s p).mono fun π1 H1 h1 it s1 g1 p1 J w => by
    refine ⟨fun i n σ' H' => i + n = it.1.length ∧ ∃ π' env' h', Step π1 H1 π' H' ∧ S (gx X T) π' env' h' σ' H' ∧ PostS (gx X T) W D π' H' (forL it.2 g b (it.1.drop i) env' h'), ⟨it.1.length, by simp, π1, env, h1, Step.refl, s.step s1 g1, by rw [List.drop_zero]; exact p1⟩, ?_⟩
    rintro i n σ2 H2 ⟨hin, π2, e2, h2, s2, x2, p2⟩
    by_cases hi : i < it.1.length
    · rw [List.drop_eq_getElem_cons hi] at p2
      unfold forL at p2
      by_cases hk : gdOk it.2 h2 = true
      · rw [if_pos hk] at p2
        refine .inr ⟨w.go i π2 h2 H2 s2 x2.good hk hi, fun σ' H' => (i + 1) + (n - 1) = it.1.length ∧ ∃ π' env' h', Step π1 H1 π' H' ∧ S (gx X T) π' env' h' σ' H' ∧ PostS (gx X T) W D π' H' (forL it.2 g b (it.1.drop (i + 1)) env' h'), fun σ' H' z => ⟨n - 1, by omega, z⟩, fun x H' y => ?_⟩
        obtain ⟨s3, g3, d, ed, dv⟩ := w.yld i π2 h2 H2 x H' s2 x2.good hk hi y
        rw [List.getElem?_eq_getElem hi] at ed
        cases ed
        have p3 := PostS.step s3 p2
        refine ⟨π2, e2, h2, _, x2.step s3 g3, dv, ?_⟩
        generalize g (it.1[i]) e2 h2 = z at p3 ⊢
        cases z with
        | next e4 h4 =>
          intro π4 σ4 H4 s4 x4
          refine ⟨π4, e4, h4, x4, ?_⟩
          have p4 := PostS.step s4 p3
          unfold SR.only at p4
          simp only at p4
          generalize b e4 h4 = z at p4 ⊢
          cases z with
          | next e5 h5 => exact fun π5 σ5 H5 s5 x5 => ⟨by omega, π5, e5, h5, ((s2.trans s3).trans s4).trans s5, x5, PostS.step s5 p4⟩
          | cont e5 h5 => exact fun π5 σ5 H5 s5 x5 => ⟨by omega, π5, e5, h5, ((s2.trans s3).trans s4).trans s5, x5, PostS.step s5 p4⟩
          | brk e5 h5 => exact p4
          | ret d h => exact p4
          | exn y e h => exact p4
          | bad => exact p4
        | ret d h => exact (show False from p3).elim
        | brk env h => exact (show False from p3).elim
        | cont env h => exact (show False from p3).elim
        | exn y env h => exact p3
        | bad => exact p3
      · rw [if_neg hk] at p2
        exact p2.elim
    · have hi' : i = it.1.length := by omega
      rw [List.drop_of_length_le (by omega)] at p2
      unfold forL at p2
      by_cases hk : gdOk it.2 h2 = true
      · rw [if_pos hk] at p2
        exact .inl ⟨w.stop i π2 h2 H2 s2 x2.good hk hi', p2 π2 σ2 H2 Step.refl x2⟩
      · rw [if_neg hk] at p2
        exact p2.elim⟩
end
end MM

namespace MM
open PySem L2

/-- what data need of a step -/
structure StepV (π : List Addr) (H : Hp) (π' : List Addr) (H' : Hp) : Prop where
  ext : ∃ more, π' = π ++ more
  tup : ∀ a xs, H a = some (.tup xs) → a ∉ π → H' a = some (.tup xs) ∧ a ∉ π'
  frz : ∀ a o xs, H a = some (.frz o (.lst xs)) → a ∉ π → H' a = some (.frz o (.lst xs)) ∧ a ∉ π'
section
variable {K : PySem.W.Frag} {π π' : List Addr} {H H' : Hp}
theorem StepV.get (s : StepV π H π' H') {i : Nat} {a : Addr} (h : π[i]? = some a) : π'[i]? = some a := by
  obtain ⟨m, e⟩ := s.ext
  rw [e, List.getElem?_append_left (List.getElem?_eq_some_iff.mp h).1]
  exact h
theorem TupAt.stepV (s : StepV π H π' H') {a : Addr} {xs : List V} (h : TupAt K π H a xs) : TupAt K π' H' a xs := by
  rcases h with ⟨h, n⟩ | h
  · exact .inl (s.tup a xs h n)
  · exact .inr h
theorem LstAt.stepV (s : StepV π H π' H') {a : Addr} {xs : List V} (h : LstAt K π H a xs) : LstAt K π' H' a xs := by
  rcases h with ⟨o, h, n⟩ | h
  · exact .inl ⟨o, s.frz a o xs h n⟩
  · exact .inr h
mutual
theorem DV.stepV (s : StepV π H π' H') : ∀ (d : D) (v : V), DV K π H d v → DV K π' H' d v
  | .non, _, h => h
  | .bl _, _, h => h
  | .int _, _, h => h
  | .str _, _, h => h
  | .ref _, _, ⟨a, h, e⟩ => ⟨a, s.get h, e⟩
  | .tup ds, _, ⟨a, xs, e, h, q⟩ => ⟨a, xs, e, h.stepV s, DVs.stepV s ds xs q⟩
  | .rol ds, _, ⟨a, xs, e, h, q⟩ => ⟨a, xs, e, h.stepV s, DVs.stepV s ds xs q⟩
theorem DVs.stepV (s : StepV π H π' H') : ∀ (ds : List D) (xs : List V), DVs K π H ds xs → DVs K π' H' ds xs
  | [], _, h => h
  | d :: ds, _, ⟨v, vs, e, h, q⟩ => ⟨v, vs, e, DV.stepV s d v h, DVs.stepV s ds vs q⟩
end
theorem DPs.stepV {κ : Type} (s : StepV π H π' H') : ∀ (ps : List (κ × D)) (xs : List (κ × V)), DPs K π H ps xs → DPs K π' H' ps xs
  | [], _, h => h
  | p :: ps, _, ⟨v, vs, e, h, q⟩ => ⟨v, vs, e, h.stepV s _ _, DPs.stepV s ps vs q⟩
theorem OV.stepV {G : Gx} {a : Addr} {o : O} (s : StepV π H π' H') (e : H' a = H a) (h : OV G π H a o) : OV G π' H' a o := by
  cases o with
  | lst ds => obtain ⟨xs, h, q⟩ := h; exact ⟨xs, e.trans h, q.stepV s _ _⟩
  | dic ds => obtain ⟨xs, h, q⟩ := h; exact ⟨xs, e.trans h, q.stepV s _ _⟩
  | dicL ds => obtain ⟨o, xs, h, q⟩ := h; exact ⟨o, xs, e.trans h, q.stepV s _ _⟩
  | ins c fs => obtain ⟨C, dx, xs, g, h, q⟩ := h; exact ⟨C, dx, xs, g, e.trans h, q.stepV s _ _⟩
/-- a list that is none of ours (yet) is written -/
theorem StepV.hid {P : Addr} {xs ys : List V} (e : H P = some (.lst xs)) : StepV π H π (upd H P (.lst ys)) :=
  ⟨⟨[], by simp⟩, fun a zs h n => ⟨by rw [upd_ne (show a ≠ P from fun z => by rw [z, e] at h; cases h)]; exact h, n⟩, fun a o zs h n => ⟨by rw [upd_ne (show a ≠ P from fun z => by rw [z, e] at h; cases h)]; exact h, n⟩⟩
theorem Step.hide {P : Addr} {o : HO} (s : Step π H π' H') (n : H P = none) : Step π H π' (upd H' P o) :=
  ⟨s.ext, s.out, fun a u e m t => by rw [upd_ne (show a ≠ P from fun z => by rw [z, n] at e; cases e)]; exact s.keep a u e m t, fun a o u e => by rw [upd_ne (show a ≠ P from fun z => by rw [z, n] at e; cases e)]; exact s.frz a o u e⟩
theorem Good.hid {G : Gx} {h : Hm} {P : Addr} {xs ys : List V} (g : Good G π h H) (e : H P = some (.lst xs)) (n : P ∉ π) : Good G π h (upd H P (.lst ys)) := by
  refine ⟨g.len, g.nd, fun i a o h1 h2 => (g.ob i a o h1 h2).stepV (StepV.hid e) (upd_ne (show a ≠ P from fun z => n (by rw [← z]; exact List.mem_of_getElem? h1))), g.tabs_upd (.inr ⟨_, e, fun ⟨ps, z⟩ => (by cases z), fun c q z => (by unfold LamX.CodeO at z; cases z)⟩), g.tout⟩
theorem StepV.adopt {P : Addr} {xs : List V} (e : H P = some (.lst xs)) : StepV π H (π ++ [P]) H := by
  refine ⟨⟨[P], rfl⟩, fun a zs h n => ⟨h, fun m => ?_⟩, fun a o zs h n => ⟨h, fun m => ?_⟩⟩
  · rcases List.mem_append.mp m with m | m
    · exact n m
    · rw [List.mem_singleton] at m
      rw [m, e] at h
      cases h
  · rcases List.mem_append.mp m with m | m
    · exact n m
    · rw [List.mem_singleton] at m
      rw [m, e] at h
      cases h
theorem Step.adopt {P : Addr} (s : Step π H π' H') (n : H P = none) : Step π H (π' ++ [P]) H' := by
  obtain ⟨m, e⟩ := s.ext
  refine ⟨⟨m ++ [P], by rw [e, List.append_assoc]⟩, fun a o h k t z => ?_, s.keep, s.frz⟩
  rcases List.mem_append.mp z with z | z
  · exact s.out a o h k t z
  · rw [List.mem_singleton] at z
    rw [z, n] at h
    cases h
theorem Good.adopt {G : Gx} {h : Hm} {P : Addr} {ds : List D} {xs : List V} (g : Good G π h H) (e : H P = some (.lst xs)) (n : P ∉ π) (q : DVs G.K π H ds xs) : Good G (π ++ [P]) (h ++ [.lst ds]) H := by
  have s : StepV π H (π ++ [P]) H := StepV.adopt e
  refine ⟨by rw [List.length_append, List.length_append, g.len] <;> rfl, ?_, fun i b v e1 e2 => ?_, g.tabs, fun p hp m => ?_⟩
  · rw [List.nodup_append]
    refine ⟨g.nd, by simp, fun x hx y hy z => ?_⟩
    rw [List.mem_singleton] at hy
    rw [z, hy] at hx
    exact n hx
  · by_cases hi : i < π.length
    · rw [List.getElem?_append_left hi] at e1
      rw [List.getElem?_append_left (by rw [← g.len]; exact hi)] at e2
      exact (g.ob i b v e1 e2).stepV s rfl
    · have h1 := (List.getElem?_eq_some_iff.mp e1).1
      have hi' : i = π.length := by
        rw [List.length_append, List.length_singleton] at h1
        omega
      subst hi'
      rw [List.getElem?_append_right (Nat.le_refl _), Nat.sub_self] at e1
      rw [List.getElem?_append_right (by rw [g.len]; exact Nat.le_refl _), g.len, Nat.sub_self] at e2
      have e1' : P = b := Option.some.inj e1
      have e2' : O.lst ds = v := Option.some.inj e2
      subst e1' e2'
      exact ⟨xs, e, q.stepV s _ _⟩
  · rcases List.mem_append.mp m with m | m
    · exact g.tout p hp m
    · rw [List.mem_singleton] at m
      obtain ⟨ps, z⟩ := tab_at (g.tabs p hp)
      rw [m, e] at z
      cases z
theorem EnvOk.stepV {G : Gx} {env : Ev} {σ : L2.St} (s : StepV π H π' H') (e : EnvOk G π H env σ) : EnvOk G π' H' env σ := ⟨e.len, fun i d q => by
  obtain ⟨v, h1, h2⟩ := e.get i d q
  exact ⟨v, h1, h2.stepV s _ _⟩⟩
end

def wipeE (env : Ev) : List Nat → Ev
  | [] => env
  | v :: vs => (wipeE env vs).set v none
theorem EnvOk.wipe {G : Gx} {π : List Addr} {H : Hp} {env : Ev} {σ : L2.St} (e : EnvOk G π H env σ) : ∀ vs : List Nat, EnvOk G π H (wipeE env vs) (wipe σ vs)
  | [] => e
  | v :: vs => (EnvOk.wipe e vs).gone v
theorem wipe_len (σ : L2.St) : ∀ vs : List Nat, (wipe σ vs).length = σ.length := wipe_length σ
theorem wipe_get {σ : L2.St} {i : Nat} : ∀ {vs : List Nat}, i ∈ vs → i < σ.length → (wipe σ vs)[i]? = some none
  | v :: vs, m, l => by
    unfold wipe
    by_cases h : i = v
    · subst h
      rw [List.getElem?_set_self (by rw [wipe_length]; exact l)]
    · rw [List.getElem?_set_ne (Ne.symm h)]
      exact wipe_get ((List.mem_cons.mp m).resolve_left h) l
theorem wipe_set {σ : L2.St} {i : Nat} {x : Option V} {vs : List Nat} (m : i ∈ vs) : wipe (σ.set i x) vs = wipe σ vs := by
  apply List.ext_getElem?
  intro j
  by_cases hj : j ∈ vs
  · by_cases hl : j < σ.length
    · rw [wipe_get hj hl, wipe_get hj (by rw [List.length_set]; exact hl)]
    · rw [List.getElem?_eq_none (by rw [wipe_length, List.length_set]; omega), List.getElem?_eq_none (by rw [wipe_length]; omega)]
  · rw [wipe_out hj, wipe_out hj, List.getElem?_set_ne (show i ≠ j from fun z => hj (by rw [← z]; exact m))]
theorem wipe_wipe {σ : L2.St} : ∀ {vs ws : List Nat}, (∀ v ∈ vs, v ∈ ws) → wipe (wipe σ vs) ws = wipe σ ws
  | [], _, _ => rfl
  | v :: vs, ws, h => by
    show wipe ((wipe σ vs).set v none) ws = _
    rw [wipe_set (h v List.mem_cons_self), wipe_wipe fun u hu => h u (List.mem_cons_of_mem _ hu)]
/-- as tG, the slots known outside vs -/
def tGw (G : Gx) (W : WX) (vs : List Nat) (g : Gt) : TG := fun v σ H Q => ∃ π env h d, S G π env h σ H ∧ DV G.K π H d v ∧ PostS G W (nxO fun σ' H' => wipe σ' vs = wipe σ vs → Q σ' H') π H (g d env h)
def tGsw (G : Gx) (W : WX) (vs : List Nat) (g : Gts) : TGs := fun us σ H Q => ∃ π env h ds, S G π env h σ H ∧ DVs G.K π H ds us ∧ PostS G W (nxO fun σ' H' => wipe σ' vs = wipe σ vs → Q σ' H') π H (g ds env h)
abbrev Gw (X : Cx) (T : List (Addr × Str)) (W : WX) (vs : List Nat) (e : Expr) (g : Gt) : Prop := PG X e (tGw (gx X T) W vs g)
abbrev Gsw (X : Cx) (T : List (Addr × Str)) (W : WX) (vs : List Nat) (e : List Expr) (g : Gts) : Prop := PGs X e (tGsw (gx X T) W vs g)
section
variable {X : Cx} {T : List (Addr × Str)} {W : WX} {vs : List Nat} {e : Expr} {es : List Expr} {g : Gt} {r : Gts} {pos : Pos}
theorem gw_name (i : Nat) {x : Str} (hN : X.N.Nodup) (hi : X.N[i]? = some x := by rfl) (hx : Loc X.env.scope x := by first | exact .inl rfl | exact .inr rfl) (hf : X.fn x = true ∨ X.env.scope.names.lookup x = some .local := by first | exact .inl rfl | exact .inr rfl | assumption) (hm : i ∈ vs := by decide) : Gw X T W vs (.Name x pos) (gN i) :=
  PG.of (pg_name hN hi hx hf) fun v σ H Q ⟨π, env, h, d, s, dv, p⟩ => p π _ H Step.refl ⟨s.good, s.env.set dv i⟩ (wipe_set hm)
theorem gsw_nil : Gsw X T W vs [] gsNil := PGs.of pgs_nil fun v σ H Q ⟨π, env, h, ds, s, dv, p⟩ => by
  cases ds with
  | nil => exact ⟨dv, p π σ H Step.refl s rfl⟩
  | cons d ds => exact p.elim
theorem gsw_cons (h1 : Gw X T W vs e g) (h2 : Gsw X T W vs es r) (hs : (assignEach (e :: es) X.env).map (·.2) = assign e X.env :: (assignEach es X.env).map (·.2) := by rfl) : Gsw X T W vs (e :: es) (gsCons g r) := PGs.of (pgs_cons h1 h2 hs) fun v σ H Q ⟨π, env, h, ds, s, dv, p⟩ => by
  cases ds with
  | nil => exact p.elim
  | cons d ds =>
    obtain ⟨v, us, rfl, d1, d2⟩ := dv
    refine ⟨v, us, rfl, π, env, h, d, s, d1, ?_⟩
    have p' : PostS (gx X T) W (nxO fun σ' H' => wipe σ' vs = wipe σ vs → Q σ' H') π H ((g d env h).then (r ds)) := p
    generalize g d env h = z at p' ⊢
    cases z with
    | next env' h' => exact fun π2 σ2 H2 s2 x e => ⟨π2, env', h', ds, x, d2.step s2 _ _, (PostS.step s2 p').mono (fun σ3 H3 z e2 => z (e2.trans e)) (fun _ _ z => z) (fun _ _ z => z) (fun _ _ z => z)⟩
    | ret d h => exact p'
    | brk env h => exact p'
    | cont env h => exact p'
    | exn y env h => exact p'
    | bad => exact p'
theorem gw_tup {k n : Nat} (hc : X.calm = true) (hr : Gsw X T W vs es r) (hn : (assignEach es X.env).length = n := by rfl) (hst : (assignEach es X.env).findIdx? (·.1) = none := by rfl) : Gw X T W vs (.Tuple es k pos) (gT n r) :=
  PG.of (pg_tup hc hr hn hst) fun v σ H Q ⟨π, env, h, d, s, dv, p⟩ => by
    unfold gT at p
    split at p
    · obtain ⟨a, xs, rfl, t, q⟩ := dv
      split at p
      · rename_i hl
        exact ⟨a, xs, rfl, t.sq, by rw [q.len]; exact hl, π, env, h, _, s, q, p⟩
      · exact p.elim
    · exact p.elim
theorem gw_lst {k n : Nat} (hc : X.calm = true) (hr : Gsw X T W vs es r) (hn : (assignEach es X.env).length = n := by rfl) (hst : (assignEach es X.env).findIdx? (·.1) = none := by rfl) : Gw X T W vs (.Tuple es k pos) (gL n r) :=
  PG.of (pg_lst hc hr hn hst) fun v σ H Q ⟨π, env, h, d, s, dv, p⟩ => by
    unfold gL at p
    split at p
    · obtain ⟨a, qa, rfl⟩ := dv
      split at p
      · rename_i e0
        obtain ⟨xs, ha, q⟩ := s.good.lst e0 qa
        split at p
        · rename_i hl
          exact ⟨a, xs, rfl, SqL.of ha, by rw [q.len]; exact hl, π, env, h, _, s, q, p⟩
        · exact p.elim
      · exact p.elim
    · exact p.elim
end

def lcL (gs : List (Nat × O)) (g : Gt) (t : Ev → Hm → R Bool) (e : Ev → Hm → R D) (env : Ev) : List D → Hm → R (List D)
  | [], h => if gdOk gs h = true then .ok [] h else .bad
  | d :: ds, h => if gdOk gs h = true then (match g d env h with
      | .next e1 h1 => (match t e1 h1 with
        | .ok true h2 => (match e e1 h2 with
          | .ok y h3 => (match lcL gs g t e env ds h3 with
            | .ok ys h4 => .ok (y :: ys) h4
            | _ => .bad)
          | _ => .bad)
        | .ok false h2 => lcL gs g t e env ds h2
        | _ => .bad)
      | _ => .bad) else .bad
def mLc (vs : List Nat) (m : Ev → Hm → R Itr) (g : Gt) (t : Ev → Hm → R Bool) (e : Ev → Hm → R D) : Ev → Hm → R D := fun env h => (m env h).bind fun it h1 => if it.1.length ≤ 16777216 then (match lcL it.2 g t e (wipeE env vs) it.1 h1 with
  | .ok ys h2 => .ok (.ref h2.length) (h2 ++ [.lst ys])
  | _ => .bad) else .bad
def tYesM : Ev → Hm → R Bool := fun _ h => .ok true h
def WF : WX := fun _ _ _ _ => False
abbrev Tsm (X : Cx) (T : List (Addr × Str)) (W : WX) (e : List Expr) (m : Ev → Hm → R Bool) : Prop := PTs X e (tB' (gx X T) W m)
theorem tsm_nil {X : Cx} {T : List (Addr × Str)} {W : WX} : Tsm X T W [] tYesM := ⟨fun pins s σ H Q I ⟨π, env, h, x, p⟩ => pts_nil.run pins s σ H Q I (p π H Step.refl x.good)⟩
theorem tsm_one {X : Cx} {T : List (Addr × Str)} {W : WX} {c : Expr} {t : Ev → Hm → R Bool} (h : Tm X T W c t) : Tsm X T W [c] t := pts_one h
theorem lc_of {G : Gx} {W : WX} {vs : List Nat} {m : Ev → Hm → R Itr} {g : Gt} {t : Ev → Hm → R Bool} {e : Ev → Hm → R D} {σ : L2.St} {H : Hp} {Q : VK} (p : tE G W (mLc vs m g t e) σ H Q) : tLc (tI G W m) (tGw G WF vs g) (tB' G WF t) (tE G WF e) vs σ H Q := by
  obtain ⟨π, env, h, s, p⟩ := p
  refine ⟨π, env, h, s, p.bind.mono fun π1 H1 h1 it s1 g1 p1 J w P hP => ?_⟩
  by_cases hlen : it.1.length ≤ 16777216
  · rw [if_pos hlen] at p1
    cases hr : lcL it.2 g t e (wipeE env vs) it.1 h1 with
    | exn x h' => rw [hr] at p1; exact p1.elim
    | bad => rw [hr] at p1; exact p1.elim
    | ok ys hF =>
      rw [hr] at p1
      have p1' : Post G W π1 σ H1 (R.ok (D.ref hF.length) (hF ++ [O.lst ys])) (fun π' H' _ d => ∀ v, DV G.K π' H' d v → Q v H') := p1
      have eW : EnvOk G π1 H1 (wipeE env vs) (wipe σ vs) := (s.env.step s1).wipe vs
      refine ⟨fun i n H' => i + n = it.1.length ∧ ∃ π' h' acc rest xs, Step π1 H1 π' H' ∧ Good G π' h' H' ∧ EnvOk G π' H' (wipeE env vs) (wipe σ vs) ∧ H' P = some (.lst xs) ∧ P ∉ π' ∧ DVs G.K π' H' acc xs ∧ acc.length ≤ i ∧ acc ++ rest = ys ∧ lcL it.2 g t e (wipeE env vs) (it.1.drop i) h' = .ok rest hF,
        ⟨it.1.length, by simp, π1, h1, [], ys, [], Step.other g1 hP, g1.other hP, eW.step (Step.other g1 hP), upd_same, g1.free hP, rfl, Nat.le_refl _, rfl, by rw [List.drop_zero]; exact hr⟩, ?_⟩
      rintro i n H2 ⟨hin, π2, h2, acc, rest, xs, st2, g2, e2, hx2, n2, da, la, eq, run⟩
      by_cases hi : i < it.1.length
      · rw [List.drop_eq_getElem_cons hi] at run
        unfold lcL at run
        by_cases hk : gdOk it.2 h2 = true
        · rw [if_pos hk] at run
          refine .inr ⟨w.go i π2 h2 H2 st2 g2 hk hi, fun H' => (i + 1) + (n - 1) = it.1.length ∧ ∃ π' h' acc rest xs, Step π1 H1 π' H' ∧ Good G π' h' H' ∧ EnvOk G π' H' (wipeE env vs) (wipe σ vs) ∧ H' P = some (.lst xs) ∧ P ∉ π' ∧ DVs G.K π' H' acc xs ∧ acc.length ≤ i + 1 ∧ acc ++ rest = ys ∧ lcL it.2 g t e (wipeE env vs) (it.1.drop (i + 1)) h' = .ok rest hF, fun H' z => ⟨n - 1, by omega, z⟩, fun x H' y => ?_⟩
          obtain ⟨s3, g3, d, ed, dv⟩ := w.yld i π2 h2 H2 x H' st2 g2 hk hi y
          rw [List.getElem?_eq_getElem hi] at ed
          cases ed
          have np : ∀ ps, HO.lst xs ≠ .tbl ps := fun ps z => by cases z
          refine ⟨π2, wipeE env vs, h2, _, ⟨g3, e2.step s3⟩, dv, ?_⟩
          generalize g (it.1[i]) (wipeE env vs) h2 = z at run ⊢
          cases z with
          | next e4 h4 =>
            intro π4 σ4 H4 s4 x4 hw4
            have hw4' : wipe σ4 vs = wipe σ vs := hw4.trans (wipe_wipe fun v hv => hv)
            refine ⟨hw4', π4, e4, h4, x4, ?_⟩
            simp only at run
            cases ht : t e4 h4 with
            | exn x h' => rw [ht] at run; cases run
            | bad => rw [ht] at run; cases run
            | ok k h5 =>
              rw [ht] at run
              intro π5 H5 s5 g5
              have s35 := (s3.trans s4).trans s5
              have hx5 : H5 P = some (.lst xs) := s35.keep P _ hx2 n2 np
              have n5 : P ∉ π5 := s35.out P _ hx2 n2 np
              cases k with
              | false =>
                refine iteF ⟨by omega, π5, h5, acc, rest, xs, st2.trans s35, g5, (e2.step s35), hx5, n5, da.step s35 _ _, by omega, eq, run⟩
              | true =>
                refine iteT ⟨π5, e4, h5, x4.step s5 g5, ?_⟩
                simp only at run
                cases he : e e4 h5 with
                | exn x h' => rw [he] at run; cases run
                | bad => rw [he] at run; cases run
                | ok y h6 =>
                  rw [he] at run
                  simp only at run
                  cases hr2 : lcL it.2 g t e (wipeE env vs) (it.1.drop (i + 1)) h6 with
                  | exn x h' => rw [hr2] at run; cases run
                  | bad => rw [hr2] at run; cases run
                  | ok ys2 h7 =>
                    rw [hr2] at run
                    simp only [R.ok.injEq] at run
                    obtain ⟨r1, r2⟩ := run
                    subst r1 r2
                    intro π6 H6 s6 g6 v dy
                    have s36 := s35.trans s6
                    have hx6 : H6 P = some (.lst xs) := s36.keep P _ hx2 n2 np
                    have n6 : P ∉ π6 := s36.out P _ hx2 n2 np
                    have sv : StepV π6 H6 π6 (upd H6 P (.lst (xs ++ [v]))) := StepV.hid hx6
                    have da6 := da.step s36 _ _
                    refine ⟨xs, hx6, szl' (by rw [da6.len]; omega), by omega, π6, h6, acc ++ [y], ys2, xs ++ [v], (st2.trans s36).hide hP, g6.hid hx6 n6, (e2.step s36).stepV sv, upd_same, n6, (da6.snoc dy).stepV sv _ _, by rw [List.length_append, List.length_singleton]; omega, by rw [List.append_assoc]; exact eq, hr2⟩
          | ret d h => cases run
          | brk env h => cases run
          | cont env h => cases run
          | exn y env h => cases run
          | bad => cases run
        · rw [if_neg hk] at run
          cases run
      · have hi' : i = it.1.length := by omega
        rw [List.drop_of_length_le (by omega)] at run
        unfold lcL at run
        by_cases hk : gdOk it.2 h2 = true
        · rw [if_pos hk] at run
          simp only [R.ok.injEq] at run
          obtain ⟨r1, r2⟩ := run
          subst r1 r2
          rw [List.append_nil] at eq
          subst eq
          refine .inl ⟨w.stop i π2 h2 H2 st2 g2 hk hi', p1' (π2 ++ [P]) H2 (st2.adopt hP) (g2.adopt hx2 n2 da) _ ⟨P, ?_, rfl⟩⟩
          rw [List.getElem?_append_right (by rw [g2.len]; exact Nat.le_refl _), g2.len, Nat.sub_self] <;> rfl
        · rw [if_neg hk] at run
          cases run
  · rw [if_neg hlen] at p1
    exact p1.elim
section
variable {X : Cx} {T : List (Addr × Str)} {W : WX} {elt tg iter : Expr} {ifs : List Expr} {scope : Scope} {pos : Pos} {m : Ev → Hm → R Itr} {g : Gt} {t : Ev → Hm → R Bool} {e : Ev → Hm → R D}
theorem em_lc (own : List (Str × Nat)) (hc : X.calm = true) (hN : X.N.Nodup) (hi : Im X T W tg iter m) (ok : BlkOk X.N X.env.scope scope own)
    (hg : ∀ (s : Shared) (H : Hp) (C : Addr) (cl : List (Str × Addr)) (fp : List Addr), Gw (X.blk s H scope (compEnvC scope cl C X.env) fp) T WF (own.map (·.2)) tg g)
    (ht : ∀ (s : Shared) (H : Hp) (C : Addr) (cl : List (Str × Addr)) (fp : List Addr), Tsm (X.blk s H scope (compEnvC scope cl C X.env) fp) T WF ifs t)
    (he : ∀ (s : Shared) (H : Hp) (C : Addr) (cl : List (Str × Addr)) (fp : List Addr), Em (X.blk s H scope (compEnvC scope cl C X.env) fp) T WF elt e) (hs : ∀ x, foldedSetIterable iter X.env x = pure x := by intro _; rfl) :
    Em X T W (.ListComp elt [⟨tg, iter, ifs, 0⟩] scope pos) (mLc (own.map (·.2)) m g t e) :=
  PE.of (pe_lc hc hN hi ok hg ht he hs) fun σ H Q p => lc_of p
/-- name = [..] on one line -/
theorem sm_setLc (i : Nat) (own : List (Str × Nat)) {y : Str} {py spos : Pos} (hc : X.calm = true) (hN : X.N.Nodup) (hi : Im X T W tg iter m) (ok : BlkOk X.N X.env.scope scope own)
    (hg : ∀ (s : Shared) (H : Hp) (C : Addr) (cl : List (Str × Addr)) (fp : List Addr), Gw (X.blk s H scope (compEnvC scope cl C X.env) fp) T WF (own.map (·.2)) tg g)
    (ht : ∀ (s : Shared) (H : Hp) (C : Addr) (cl : List (Str × Addr)) (fp : List Addr), Tsm (X.blk s H scope (compEnvC scope cl C X.env) fp) T WF ifs t)
    (he : ∀ (s : Shared) (H : Hp) (C : Addr) (cl : List (Str × Addr)) (fp : List Addr), Em (X.blk s H scope (compEnvC scope cl C X.env) fp) T WF elt e)
    (hsw : swapsWith (.ListComp elt [⟨tg, iter, ifs, 0⟩] scope pos) (some (.Name y py)) spos.line X.env = pure true)
    (hy : X.N[i]? = some y := by rfl) (hyl : X.env.scope.names.lookup y = some .local := by rfl) (hs : ∀ x, foldedSetIterable iter X.env x = pure x := by intro _; rfl) :
    Sm X T W (.Assign [.Name y py] (.ListComp elt [⟨tg, iter, ifs, 0⟩] scope pos) spos) (sAsg (gN i) (mLc (own.map (·.2)) m g t e)) :=
  PS.of (ps_setLc hc hN hy hyl hsw hi ok hg ht he hs) fun D σ H ⟨π, env, h, s, p⟩ => lc_of (W := W) ⟨π, env, h, s, (PostS.bind s p).mono fun π1 H1 h1 d s1 g1 p1 v dv => p1 π1 _ H1 Step.refl ⟨g1, (s.step s1 g1).env.set dv i⟩⟩
end
end MM

namespace MM
open PySem L2

def startE (n : Nat) (ds : List D) : Ev := ds.map some ++ List.replicate (n - ds.length) none
def callM (n p : Nat) (m : Ev → Hm → SR) : Fc := fun ds h => if ds.length = p then (match m (startE n ds) h with
  | .next _ h' => .ok .non h'
  | .ret d h' => .ok d h'
  | .exn x _ h' => .exn x h'
  | _ => .bad) else .bad
/-- a def's promise: what the run of fn says -/
def spM (G : Gx) (fn : Fc) (n : Nat) : Sp := fun vs H Q E => ∃ π h ds, Good G π h H ∧ DVs G.K π H ds vs ∧ ds.length = n ∧ Post G (fun cls d _ H' => E cls d H') π [] H (fn ds h) fun π' H' _ d => ∀ v, DV G.K π' H' d v → Q v H'
structure FunM (P : Program) (w : World) (K : PySem.W.Frag) (mg : Str → Option Value) (base : Heap) (T : List (Addr × Str)) (k : Nat) (f : Addr) (p : Nat) (fn : Fc) : Prop where
  ex : ∃ fd ps, ps.length = p ∧ FnOk P w K mg base (L2.CX P w) k f fd ps (spM ⟨K, mg, T⟩ fn p) ∧ Binds K fd ps []
  kp : PySem.W.keepIn K (.ref f) = true
section
variable {P : Program} {w : World} {K : PySem.W.Frag} {mg : Str → Option Value} {base : Heap} {T : List (Addr × Str)}
theorem FunM.mono {j k : Nat} {f : Addr} {p : Nat} {fn : Fc} (F : FunM P w K mg base T j f p fn) (h : j ≤ k) : FunM P w K mg base T k f p fn := by
  obtain ⟨⟨fd, ps, e, F1, F2⟩, kp⟩ := F
  exact ⟨⟨fd, ps, e, F1.mono h, F2⟩, kp⟩
theorem envOk_start {G : Gx} {π : List Addr} {H : Hp} {N : List Str} {ds : List D} {vs : List V} (q : DVs G.K π H ds vs) : EnvOk G π H (startE N.length ds) (L2.start N vs) := by
  unfold startE L2.start
  refine ⟨by rw [List.length_append, List.length_append, List.length_map, List.length_map, List.length_replicate, List.length_replicate, q.len], fun i d e => ?_⟩
  by_cases hi : i < ds.length
  · rw [List.getElem?_append_left (by rw [List.length_map]; exact hi), List.getElem?_map, List.getElem?_eq_getElem hi] at e
    have e' : ds[i] = d := Option.some.inj (Option.some.inj e)
    subst e'
    obtain ⟨v, h1, h2⟩ := q.get (List.getElem?_eq_getElem hi)
    exact ⟨v, by rw [List.getElem?_append_left (by rw [List.length_map, q.len]; exact hi), List.getElem?_map, h1] <;> rfl, h2⟩
  · rw [List.getElem?_append_right (by rw [List.length_map]; omega)] at e
    have := List.mem_of_getElem? e
    rw [List.mem_replicate] at this
    cases this.2
theorem postS_fn {G : Gx} {π : List Addr} {H : Hp} {E : XK} {Q : VK} {n p : Nat} {m : Ev → Hm → SR} {ds : List D} {h : Hm} (q : Post G (fun cls d _ H' => E cls d H') π [] H (callM n p m ds h) fun π' H' _ d => ∀ v, DV G.K π' H' d v → Q v H') :
    PostS G (fun cls d _ H' => E cls d H') { nx := fun _ H' => Q .non H', rt := Q } π H (m (startE n ds) h) := by
  unfold callM at q
  by_cases hl : ds.length = p
  · rw [if_pos hl] at q
    generalize m (startE n ds) h = z at q ⊢
    cases z with
    | next env h => exact fun π2 σ2 H2 s2 x => q π2 H2 s2 x.good _ rfl
    | ret d h => exact fun π2 H2 v s2 x e => q π2 H2 s2 x _ e
    | brk env h => exact (show False from q).elim
    | cont env h => exact (show False from q).elim
    | exn y env h => exact fun π2 σ2 H2 cls d s2 x e => q π2 H2 cls d s2 x.good e
    | bad => exact q
  · rw [if_neg hl] at q
    exact q.elim
/-- THE RULE for a def -/
theorem def_m {x qual : Str} {params : Arguments} {body : List Stmt} {scope : Scope} {f : Addr} {fd : FuncData} {N ps : List Str} {k : Nat} {m : Ev → Hm → SR} (F : FunD K x qual params body scope [] [] f fd) (S : FnScope N ps scope)
    (hb : ∀ (kV doc pm : Value) (an : Option Addr) (cdv ct : Value) (us : List Value), us.length = ps.length → bindArgs (PySem.W.fnOf x qual params body scope .none kV doc pm an cdv ct) ⟨us, []⟩ = pure (ps.zip us))
    (hbody : ∀ (cdv : Value) (A : Around) (outer : List Env) (s : Shared) (H : Hp) (E : XK), Room k (cxOf (L2.CX P w) P w K mg base N qual scope f cdv A outer s H E).A → Takes (cxOf (L2.CX P w) P w K mg base N qual scope f cdv A outer s H E) (fun cls d _ H' => E cls d H') →
      PassesOwn (model P w) (cxOf (L2.CX P w) P w K mg base N qual scope f cdv A outer s H E).A (cxOf (L2.CX P w) P w K mg base N qual scope f cdv A outer s H E).env (cxOf (L2.CX P w) P w K mg base N qual scope f cdv A outer s H E).xe →
      Ssm (cxOf (L2.CX P w) P w K mg base N qual scope f cdv A outer s H E) T (fun cls d _ H' => E cls d H') body m) :
    FunM P w K mg base T (k + 1) f ps.length (callM N.length ps.length m) := by
  refine ⟨⟨fd, ps, rfl, ?_, F.bindsN hb⟩, F.kp⟩
  refine F.ok S (fun vs H Q E ⟨π, h, ds, g, q, hl, _⟩ => by rw [q.len]; exact hl) fun cdv A outer s H vs Q E hr ⟨π, h, ds, g, q, hl, p⟩ => ⟨_, hbody cdv A outer s H E hr (takes_of rfl rfl rfl rfl) (passes_of rfl), ?_⟩
  exact ⟨π, startE N.length ds, h, ⟨g, envOk_start q⟩, postS_fn p⟩
end

theorem takesF {X : Cx} : Takes X WF := takes0
section
variable {X : Cx} {T : List (Addr × Str)} {W : WX} {k j p : Nat} {f C : Addr} {fn : Fc} {x : Str} {pp pos apos : Pos} {e o : Expr} {es : List Expr} {mr : Ev → Hm → R (List D)} {mo : Ev → Hm → R D} {cn m : Str}
/-- a promise met -/
theorem sp_of {G : Gx} {π : List Addr} {σ : L2.St} {h : Hm} {H : Hp} {ds : List D} {vs : List V} {Q : VK} {n : Nat} (g : Good G π h H) (q : DVs G.K π H ds vs) (hl : ds.length = n) (p : Post G W π σ H (fn ds h) fun π' H' _ d => ∀ v, DV G.K π' H' d v → Q v H') : spM G fn n vs H Q (WE W σ) := by
  refine ⟨π, h, ds, g, q, hl, ?_⟩
  generalize fn ds h = z at p ⊢
  cases z with
  | ok a h' => exact p
  | exn x h' => exact p
  | bad => exact p
def mCallF (p : Nat) (fn : Fc) (mr : Ev → Hm → R (List D)) : Ev → Hm → R D := fun env h => (mr env h).bind fun ds h1 => if ds.length = p then fn ds h1 else .bad
theorem em_call (F : FunM X.prog X.w X.K X.mg X.base T j f p fn) (hr : Room k X.A) (hk : j ≤ k) (hg : Gl X x) (hm : X.mg x = some (.ref f)) (tk : Takes X W) (ha : Am X T W (e :: es) mr) (hdb : (x == ("__debug__" : Str)) = false := by rfl)
    (he : starEach (e :: es) X.env = (false, eval e X.env) :: starEach es X.env := by rfl) (hpl : (backTo pos (starEach es X.env)).any (·.1) = false := by rfl) : Em X T W (.Call (.Name x pp) (e :: es) [] pos) (mCallF p fn mr) := by
  obtain ⟨fd, ps, ep, F1, F2⟩ := F.ex
  refine PE.of (pe_callSD (dvs := []) (ds := []) (E := WE W) F1 (hr.mono hk) hg hm F.kp F2 .nil (fun σ => passAt tk σ) ha hdb he hpl) fun σ H Q ⟨π, env, h, s, q⟩ => ?_
  refine ⟨π, env, h, s, q.bind.mono fun π1 H1 h1 ds s1 g1 p1 vs dv => ?_⟩
  show spM _ fn p (vs ++ []) H1 Q (WE W σ)
  rw [List.append_nil]
  by_cases hl : ds.length = p
  · rw [if_pos hl] at p1
    exact sp_of g1 dv hl p1
  · rw [if_neg hl] at p1
    exact p1.elim
theorem em_call0 (F : FunM X.prog X.w X.K X.mg X.base T j f p fn) (hr : Room k X.A) (hk : j ≤ k) (hg : Gl X x) (hm : X.mg x = some (.ref f)) (tk : Takes X W) (hdb : (x == ("__debug__" : Str)) = false := by rfl) : Em X T W (.Call (.Name x pp) [] [] pos) (mCallF p fn mNil) := by
  obtain ⟨fd, ps, ep, F1, F2⟩ := F.ex
  refine ⟨fun pins s σ H Q I ⟨π, env, h, s0, q⟩ => ?_⟩
  refine wpAny_Call_Name_kw (ld_glob I hg hm ?_ hdb)
  refine PySem.W.callWith_K0 I.kIn F.kp (run_fnSD (us := []) (vs := []) (dvs := []) (ds := []) (E := WE W) F1 (hr.mono hk) F2 .nil (passAt tk σ) I .nil ?_)
  have q' : Post (gx X T) W π σ H (if ([] : List D).length = p then fn [] h else .bad) (fun π' H' _ d => ∀ v, DV (gx X T).K π' H' d v → Q v H') := q
  by_cases hl : ([] : List D).length = p
  · rw [if_pos hl] at q'
    exact sp_of (ds := []) s0.good rfl hl q'
  · rw [if_neg hl] at q'
    exact q'.elim
/-- o.m(..), o an instance of the class named cn -/
def mMethF (cn m : Str) (p : Nat) (fn : Fc) (mo : Ev → Hm → R D) (mr : Ev → Hm → R (List D)) : Ev → Hm → R D := fun env h => (mo env h).bind fun x h1 => match x with
  | .ref i => match h1[i]? with
    | some (.ins c fs) => if c = cn ∧ fs.lookup m = none then (mr env h1).bind fun ds h2 => if ds.length + 1 = p then fn (.ref i :: ds) h2 else .bad else .bad
    | _ => .bad
  | _ => .bad
theorem DPs.lookupN {K : PySem.W.Frag} {π : List Addr} {H : Hp} {f : Str} : ∀ {fs : List (Str × D)} {xs : List (Str × V)}, DPs K π H fs xs → fs.lookup f = none → xs.lookup f = none
  | [], _, h, _ => by rw [show _ = [] from h] <;> rfl
  | p :: ps, _, ⟨v, vs, e, h, q⟩, l => by
    obtain ⟨k, y⟩ := p
    rw [e]
    by_cases hk : f = k
    · have hb : (f == k) = true := beq_iff_eq.mpr hk
      simp only [List.lookup, hb] at l
      cases l
    · have hb : (f == k) = false := beq_eq_false_iff_ne.mpr hk
      simp only [List.lookup, hb] at l ⊢
      exact DPs.lookupN q l
theorem em_meth {pl : Sem Bool} (c : Cls X.K C) (hm : Meth X.K C m f) (F : FunM X.prog X.w X.K X.mg X.base T j f p fn) (hr : Room k X.A) (hk : j ≤ k) (hC : X.mg cn = some (.ref C)) (tk : Takes X W) (ho : Em X T W o mo) (ha : Am X T W (e :: es) mr)
    (hst : starEach (e :: es) X.env = (false, eval e X.env) :: starEach es X.env := by rfl) (hpl : (backTo pos (starEach es X.env)).any (·.1) = false := by rfl)
    (ht : eval (.Call (.Attribute o m apos) (e :: es) [] pos) X.env = (do
      let ov ← eval o X.env
      standAt apos.atName
      let (f, first) ← holding [ov] (getMethod ov m pl)
      callWith pos f first (backTo pos (starEach (e :: es) X.env)) (backToKw pos (keywordEach [] X.env))) := by rfl) :
    Em X T W (.Call (.Attribute o m apos) (e :: es) [] pos) (mMethF cn m p fn mo mr) := by
  obtain ⟨fd, ps, ep, F1, F2⟩ := F.ex
  refine ⟨fun pins s σ H Q I ⟨π, env, h, s0, q⟩ => ?_⟩
  refine PySem.W.methodCall_KW (pl := pl) (thn (ho.run pins s σ H (fun x H1 => ∃ a dx fs, x = V.ref a ∧ H1 a = some (.ins C dx fs) ∧ fs.lookup m = none ∧ tL (gx X T) W mr σ H1 fun vs H2 => spM (gx X T) fn p (x :: vs) H2 Q (WE W σ)) I ⟨π, env, h, s0, q.bind.mono fun π1 H1 h1 d s1 g1 p1 x dx => ?_⟩) fun u s1 ⟨x, H1, I1, rx, a, dx, fs, ex, ea, l, q⟩ => ?_) ht
  · split at p1
    · rename_i i
      obtain ⟨a, qa, rfl⟩ := dx
      split at p1
      · rename_i c' fs e0
        split at p1
        · rename_i hc
          obtain ⟨rfl, hlk⟩ := hc
          obtain ⟨C', dx, xs, m1, ha', q1⟩ := g1.obj e0 qa
          rw [show (gx X T).mg c' = some (.ref C) from hC] at m1
          cases m1
          refine ⟨a, dx, xs, rfl, ha', q1.lookupN hlk, π1, env, h1, s0.step s1 g1, p1.bind.mono fun π2 H2 h2 ds s2 g2 p2 vs dv => ?_⟩
          split at p2
          · rename_i hl
            exact sp_of (ds := .ref i :: ds) g2 ⟨_, _, rfl, ⟨a, s2.get qa, rfl⟩, dv⟩ hl p2
          · exact p2.elim
        · exact p1.elim
      · exact p1.elim
    · exact p1.elim
  · subst ex
    obtain rfl : u = Value.ref a := rx
    refine getmeth_ok I1 ea c hm l ?_
    refine PySem.W.callWith_K (first := [.ref a]) (h₀ := X.base) I.ok.mod.kin hm.kp (thn (ha.run pos pins s1 σ H1 _ I1 q) fun us s2 ⟨vs, H2, I2, r, q2⟩ => ⟨I2.kIn, ?_⟩) hst hpl
    exact run_fnSD (us := .ref a :: us) (vs := .ref a :: vs) (dvs := []) (ds := []) (E := WE W) F1 (hr.mono hk) F2 .nil (passAt tk σ) I2 (.cons rfl r) (by rw [List.append_nil]; exact q2)
theorem em_meth0 {pl : Sem Bool} (c : Cls X.K C) (hm : Meth X.K C m f) (F : FunM X.prog X.w X.K X.mg X.base T j f p fn) (hr : Room k X.A) (hk : j ≤ k) (hC : X.mg cn = some (.ref C)) (tk : Takes X W) (ho : Em X T W o mo)
    (ht : eval (.Call (.Attribute o m apos) [] [] pos) X.env = (do
      let ov ← eval o X.env
      standAt apos.atName
      let (f, first) ← holding [ov] (getMethod ov m pl)
      callWith pos f first (backTo pos (starEach [] X.env)) (backToKw pos (keywordEach [] X.env))) := by rfl) :
    Em X T W (.Call (.Attribute o m apos) [] [] pos) (mMethF cn m p fn mo mNil) := by
  obtain ⟨fd, ps, ep, F1, F2⟩ := F.ex
  refine ⟨fun pins s σ H Q I ⟨π, env, h, s0, q⟩ => ?_⟩
  refine PySem.W.methodCall_KW (pl := pl) (thn (ho.run pins s σ H (fun x H1 => ∃ a dx fs, x = V.ref a ∧ H1 a = some (.ins C dx fs) ∧ fs.lookup m = none ∧ spM (gx X T) fn p [x] H1 Q (WE W σ)) I ⟨π, env, h, s0, q.bind.mono fun π1 H1 h1 d s1 g1 p1 x dx => ?_⟩) fun u s1 ⟨x, H1, I1, rx, a, dx, fs, ex, ea, l, q⟩ => ?_) ht
  · split at p1
    · rename_i i
      obtain ⟨a, qa, rfl⟩ := dx
      split at p1
      · rename_i c' fs e0
        split at p1
        · rename_i hc
          obtain ⟨rfl, hlk⟩ := hc
          obtain ⟨C', dx, xs, m1, ha', q1⟩ := g1.obj e0 qa
          rw [show (gx X T).mg c' = some (.ref C) from hC] at m1
          cases m1
          refine ⟨a, dx, xs, rfl, ha', q1.lookupN hlk, ?_⟩
          have p2 : Post (gx X T) W π1 σ H1 (if ([] : List D).length + 1 = p then fn [.ref i] h1 else .bad) (fun π' H' _ d => ∀ v, DV (gx X T).K π' H' d v → Q v H') := p1
          split at p2
          · rename_i hl
            exact sp_of (ds := [.ref i]) g1 ⟨_, _, rfl, ⟨a, qa, rfl⟩, rfl⟩ hl p2
          · exact p2.elim
        · exact p1.elim
      · exact p1.elim
    · exact p1.elim
  · subst ex
    obtain rfl : u = Value.ref a := rx
    refine getmeth_ok I1 ea c hm l ?_
    exact PySem.W.callWith_K0 (first := [.ref a]) I1.kIn hm.kp (run_fnSD (us := [.ref a]) (vs := [.ref a]) (dvs := []) (ds := []) (E := WE W) F1 (hr.mono hk) F2 .nil (passAt tk σ) I1 (.cons rfl .nil) (by rw [List.append_nil]; exact q))
/-- C(..) of an own class with __init__ -/
def mMake (cn : Str) (p : Nat) (fn : Fc) (mr : Ev → Hm → R (List D)) : Ev → Hm → R D := fun env h => (mr env h).bind fun ds h1 => if ds.length + 1 = p then (match fn (.ref h1.length :: ds) (h1 ++ [.ins cn []]) with
  | .ok .non h2 => .ok (.ref h1.length) h2
  | .exn x h2 => .exn x h2
  | _ => .bad) else .bad
theorem run_makeS {pins : List (Addr × Obj)} {σ : L2.St} {H : Hp} {s : Shared} {Q : VK} {us : List Value} {vs : List V} {fd : FuncData} {ps : List Str} {sp : Sp} {E : XK} (M : Mk X.K C f) (F : FnOk X.prog X.w X.K X.mg X.base (L2.CX X.prog X.w) k f fd ps sp) (hr : Room (k + 1) X.A) (hb : Binds X.K fd ps [])
    (hx : PassesAt (L2.CX X.prog X.w) X σ E) (I : Inv X pins σ H s) (r : Vals vs us)
    (h : ∀ x dx, H x = none → H dx = none → dx ≠ x → sp (.ref x :: vs) (upd (upd H dx (.own x)) x (.ins C dx [])) (fun v H2 => v = .non ∧ Q (.ref x) H2) E) :
    wpAny (model X.prog X.w) X.A (call (.ref C) us) (EP X pins σ Q) X.xe s := by
  have hq := h (s.heap.objs.size + 1) s.heap.objs.size (I.hok.fresh (Nat.le_succ _)) (I.hok.fresh (Nat.le_refl _)) (Nat.ne_of_lt (Nat.lt_succ_self _))
  have I2 := Inv.made (C := C) I
  have r2 : Vals (V.ref (s.heap.objs.size + 1) :: vs) (Value.ref (s.heap.objs.size + 1) :: us) := .cons rfl r
  have hl : (Value.ref (s.heap.objs.size + 1) :: us ++ []).length = ps.length := by
    have e := r2.length
    rw [F.len _ _ _ _ hq] at e
    rw [List.append_nil]
    exact e.symm
  have hbb := hb _ (Value.ref (s.heap.objs.size + 1) :: us) I2.kIn hl
  rw [List.append_nil] at hbb
  refine wpAny_call (make_map (f := f) I.kIn M.makes M.init (beq_iff_eq.mp M.fn) (codeAny_mono (F.run _ X.stack _ _ ⟨Value.ref (s.heap.objs.size + 1) :: us, []⟩ (Value.ref (s.heap.objs.size + 1) :: us) _ _ E (hr.make C us [])
    (I2.env0.make C us []) hbb r2 hq) fun r s' hq' => ?_))
  cases r with
  | error e => exact hx pins _ _ e s' I2 hq'
  | ok fl =>
    cases fl with
    | ret u =>
      obtain ⟨v, H', I3, rv, ev, q3⟩ := I2.after hq'
      subst ev
      exact ⟨rv, ⟨V.ref (s.heap.objs.size + 1), H', I3, rfl, q3⟩⟩
    | next => exact False.elim hq'
    | brk => exact False.elim hq'
    | cont => exact False.elim hq'
theorem made_of {π : List Addr} {σ : L2.St} {h : Hm} {H : Hp} {ds : List D} {vs : List V} {Q : VK} (hC : X.mg cn = some (.ref C)) (g : Good (gx X T) π h H) (q : DVs X.K π H ds vs) (hl : ds.length + 1 = p)
    (pp : Post (gx X T) W π σ H (match fn (.ref h.length :: ds) (h ++ [.ins cn []]) with
      | .ok .non h2 => .ok (.ref h.length) h2
      | .exn x h2 => .exn x h2
      | _ => .bad) fun π' H' _ d => ∀ v, DV (gx X T).K π' H' d v → Q v H') : ∀ x dx, H x = none → H dx = none → dx ≠ x → spM (gx X T) fn p (.ref x :: vs) (upd (upd H dx (.own x)) x (.ins C dx [])) (fun v H2 => v = .non ∧ Q (.ref x) H2) (WE W σ) := by
  intro x dx nx nd ne
  have s1 := Step.other (o := .own x) g nd
  have g1 := g.other (o := .own x) nd
  have n1 : upd H dx (.own x) x = none := by rw [upd_ne (Ne.symm ne)]; exact nx
  have s2 := Step.new (u := .ins C dx []) g1 n1
  have g2 := g1.new (u := .ins C dx []) (o := .ins cn []) n1 ⟨C, dx, [], hC, upd_same, rfl⟩
  have s12 := s1.trans s2
  have ix : (π ++ [x])[h.length]? = some x := by
    rw [List.getElem?_append_right (by rw [g.len]; exact Nat.le_refl _), g.len, Nat.sub_self] <;> rfl
  refine ⟨π ++ [x], h ++ [.ins cn []], .ref h.length :: ds, g2, ⟨_, _, rfl, ⟨x, ix, rfl⟩, q.step s12 _ _⟩, hl, ?_⟩
  generalize fn (.ref h.length :: ds) (h ++ [.ins cn []]) = z at pp ⊢
  cases z with
  | ok a h' =>
    cases a <;> first
      | exact pp.elim
      | (intro π' H' s3 g3 v dv
         exact ⟨dv, pp π' H' (s12.trans s3) g3 _ ⟨x, s3.get ix, rfl⟩⟩)
  | exn y h' => exact fun π' H' cls d s3 g3 e => pp π' H' cls d (s12.trans s3) g3 e
  | bad => exact pp
theorem em_make (M : Mk X.K C f) (F : FunM X.prog X.w X.K X.mg X.base T j f p fn) (hr : Room k X.A) (hk : j + 1 ≤ k) (hg : Gl X cn) (hC : X.mg cn = some (.ref C)) (tk : Takes X W) (ha : Am X T W (e :: es) mr) (hdb : (cn == ("__debug__" : Str)) = false := by rfl)
    (he : starEach (e :: es) X.env = (false, eval e X.env) :: starEach es X.env := by rfl) (hpl : (backTo pos (starEach es X.env)).any (·.1) = false := by rfl) : Em X T W (.Call (.Name cn pp) (e :: es) [] pos) (mMake cn p fn mr) := by
  obtain ⟨fd, ps, ep, F1, F2⟩ := F.ex
  refine ⟨fun pins s σ H Q I ⟨π, env, h, s0, q⟩ => ?_⟩
  refine wpAny_Call_Name_kw (ld_glob I hg hC ?_ hdb)
  refine PySem.W.callWith_K (h₀ := X.base) I.ok.mod.kin M.kp (thn (ha.run pos pins s σ H (fun vs H1 => ∀ x dx, H1 x = none → H1 dx = none → dx ≠ x → spM (gx X T) fn p (.ref x :: vs) (upd (upd H1 dx (.own x)) x (.ins C dx [])) (fun v H2 => v = .non ∧ Q (.ref x) H2) (WE W σ)) I
    ⟨π, env, h, s0, q.bind.mono fun π1 H1 h1 ds s1 g1 p1 vs dv => ?_⟩) fun us s1 ⟨vs, H1, I1, r, q⟩ => ⟨I1.kIn, ?_⟩) he hpl
  · split at p1
    · rename_i hl
      exact made_of hC g1 dv hl p1
    · exact p1.elim
  · exact run_makeS M F1 (hr.mono hk) F2 (passAt tk σ) I1 r q
theorem em_make0 (M : Mk X.K C f) (F : FunM X.prog X.w X.K X.mg X.base T j f p fn) (hr : Room k X.A) (hk : j + 1 ≤ k) (hg : Gl X cn) (hC : X.mg cn = some (.ref C)) (tk : Takes X W) (hdb : (cn == ("__debug__" : Str)) = false := by rfl) : Em X T W (.Call (.Name cn pp) [] [] pos) (mMake cn p fn mNil) := by
  obtain ⟨fd, ps, ep, F1, F2⟩ := F.ex
  refine ⟨fun pins s σ H Q I ⟨π, env, h, s0, q⟩ => ?_⟩
  refine wpAny_Call_Name_kw (ld_glob I hg hC ?_ hdb)
  refine PySem.W.callWith_K0 I.kIn M.kp (run_makeS (us := []) (vs := []) M F1 (hr.mono hk) F2 (passAt tk σ) I .nil ?_)
  have q' : Post (gx X T) W π σ H (if ([] : List D).length + 1 = p then (match fn (.ref h.length :: []) (h ++ [.ins cn []]) with
    | .ok .non h2 => .ok (.ref h.length) h2
    | .exn x h2 => .exn x h2
    | _ => .bad) else .bad) (fun π' H' _ d => ∀ v, DV (gx X T).K π' H' d v → Q v H') := q
  by_cases hl : ([] : List D).length + 1 = p
  · rw [if_pos hl] at q'
    exact made_of (ds := []) hC s0.good rfl hl q'
  · rw [if_neg hl] at q'
    exact q'.elim
/-- raise C('..') of an own class without own __init__ -/
def sRaise (cn : Str) : Ev → Hm → SR := fun env h => .exn ⟨cn, []⟩ env h
theorem sm_raise {bmB : List Value} {B newId initId : String} {msg : Str} {jj : Nat} {p2 : Pos} (hc : X.calm = true) (tk : Takes X W) (F : ExcBaseFacts B newId initId bmB) (q : PySem.W.excIn X.K C bmB newId = true) (gC : X.mg cn = some (.ref C)) (kC : PySem.W.keepIn X.K (.ref C) = true) (r : Raises X (.ref C)) (hg : Gl X cn)
    (hdb : (cn == ("__debug__" : Str)) = false := by rfl) : Sm X T W (.Raise (some (.Call (.Name cn pp) [.Constant (.str msg) jj p2] [] pos)) none apos) (sRaise cn) :=
  PS.of (ps_raise hc tk (pmk_own F q gC kC r hg hdb)) fun D σ H ⟨π, env, h, s, p⟩ => p π σ H _ _ Step.refl s ⟨C, gC, rfl, rfl⟩
end
end MM

namespace MM
open PySem L2 PyProof.Rows

def rSumT (K : PySem.W.Frag) : List V → Hp → VK → Prop := fun vs H Q => ∃ (a : Addr) (ns : List Int), vs = [V.ref a] ∧ SqT K H a (ns.map V.int) ∧ Q (.int ns.sum) H
theorem sum_tup_raw {prog : Program} {w : World} {A : Around} {E : Value → Shared → Prop} {s : Shared} {l : Addr} {its : List Value} {ns : List Int} {Q : Value → Shared → Prop} (hh : A.handled = none) (hl : IsTup s.heap l its.toArray) (hi : IntsAre its ns)
    (h : ∀ h' tk t', (∀ b o, s.heap.get? b = some o → h'.get? b = some o) → Q (.int ns.sum t') { s with heap := h', toks := tk }) : wpAny (model prog w) A (call (.builtin "sum") [.ref l]) Q E s := by
  obtain ⟨xs, e⟩ := hi.allInts.items
  have hn : numsOf (intItems xs).toList = ns := by rw [← e]; exact hi.numsOf
  rw [nums_intItems] at hn
  rw [e] at hl
  have hlt : l < s.heap.objs.size := by obtain ⟨_, e, _⟩ := hl; exact Heap.lt_size e
  refine call_sum_walkG (wpAny_pyIter_tuple (show s.heap.IsTuple l (intItems xs) from hl) ?_)
  refine ⟨s.heap.objs.size, _, _, _, _, _, numAt xs, rfl, Walks.tuple (A := A.in1) hh s.heap.objs.size l (Nat.ne_of_lt hlt) (intItems xs), ⟨⟨_, Heap.get?_push_size _ rfl, rfl, rfl⟩, ?_⟩, fun b hb => ?_, (fun _ _ => intItems_at), fun h' tk t' hk => ?_⟩
  · exact (show s.heap.IsTuple l (intItems xs) from hl).at fun o e => Heap.get?_push_of_some _ e
  · show b < (s.heap.push _).objs.size
    rw [Heap.size_push]
    rcases List.mem_cons.mp hb with rfl | hb
    · exact Nat.lt_succ_self _
    · rcases List.mem_cons.mp hb with rfl | hb
      · exact Nat.lt_succ_of_lt hlt
      · cases hb
  · have z := h h' tk t' (fun b o e => hk b o (by
      intro m
      rw [List.mem_singleton] at m
      subst m
      exact absurd (Heap.lt_size e) (Nat.lt_irrefl _)) (Heap.get?_push_of_some _ e))
    rw [show ns.sum = preSum (numAt xs) (intItems xs).size from by rw [preSum_eq, List.take_of_length_le (by simp [intItems]), hn]] at z
    exact z
theorem cr_sumT {X : Cx} (hc : X.calm = true) : CallR X (.builtin "sum") (rSumT X.K) := by
  intro pins s σ H vs us Q I r h
  obtain ⟨a, ns, rfl, hs, q⟩ := h
  obtain ⟨its, rv, hl, _⟩ := I.tuple hs
  rw [Vals.ref1 r]
  exact sum_tup_raw (I.ok.hd hc) hl rv.ints fun h' tk t' hk => ⟨.int _, H, I.kept hk, ⟨_, rfl⟩, q⟩
def fSum2 : Fc := fun ds h => match ds with
  | [.tup xs] => match intsD xs with
    | some ns => .ok (.int ns.sum) h
    | none => .bad
  | ds => fSum ds h
theorem oc_sum2 {G : Gx} : OpC G (fun vs H Q => rSum G.K vs H Q ∨ rSumT G.K vs H Q) fSum2 := by
  intro W π σ h H ds xs Q g dx p
  unfold fSum2 at p
  split at p
  · obtain ⟨v, vs, rfl, ⟨a, ys, rfl, t, q⟩, e⟩ := dx
    obtain rfl := (show vs = [] from e)
    split at p
    · rename_i ns e0
      rw [intsD_eq e0] at q
      have e3 := q.ints
      subst e3
      exact .inr ⟨a, ns, rfl, t.sq, post_val g p rfl⟩
    · exact p.elim
  · exact .inl (oc_sum W π σ h H ds xs Q g dx p)
theorem cr_sum2 {X : Cx} (hc : X.calm = true) : CallR X (.builtin "sum") (fun vs H Q => rSum X.K vs H Q ∨ rSumT X.K vs H Q) := CallR.or (cr_sum hc) (cr_sumT hc)
/-- {} -/
def mDic0 : Ev → Hm → R D := fun _ h => .ok (.ref h.length) (h ++ [.dic []])
theorem em_dic0 {X : Cx} {T : List (Addr × Str)} {W : WX} {pos : Pos} : Em X T W (.Dict [] [] pos) mDic0 := PE.of pe_dnewK fun σ H Q ⟨π, env, h, s, p⟩ a n => by
  have st := Step.new (a := a) (u := .dK []) s.good n
  refine p (π ++ [a]) _ st (s.good.new (o := .dic []) n ⟨[], upd_same, rfl⟩) _ ⟨a, ?_, rfl⟩
  rw [List.getElem?_append_right (by rw [s.good.len]; exact Nat.le_refl _), s.good.len, Nat.sub_self] <;> rfl
end MM

namespace MM
open PySem L2

theorem pi_or {X : Cx} {tg e : Expr} {t t' : TI} (p : PI X tg e t) (q : PI X tg e t') : PI X tg e (fun σ H R => t σ H R ∨ t' σ H R) := ⟨fun pins s σ H Q I h => h.elim (p.run pins s σ H Q I) (q.run pins s σ H Q I)⟩
theorem pg_or {X : Cx} {e : Expr} {t t' : TG} (p : PG X e t) (q : PG X e t') : PG X e (fun v σ H R => t v σ H R ∨ t' v σ H R) := ⟨fun pins s σ H v u Q I r h => h.elim (p.run pins s σ H v u Q I r) (q.run pins s σ H v u Q I r)⟩
/-- a list or a tuple is walked -/
def mItA (m : Ev → Hm → R D) : Ev → Hm → R Itr := fun env h => (m env h).bind fun x h1 => match x with
  | .tup ds => .ok (ds, []) h1
  | x => oR (itL h1 x) h1
theorem im_any {X : Cx} {T : List (Addr × Str)} {W : WX} {tg e : Expr} {me : Ev → Hm → R D} (he : Em X T W e me) : Im X T W tg e (mItA me) := PI.of (pi_or (im_list he) (im_tup (tg := tg) he)) fun σ H Q ⟨π, env, h, s, p⟩ => by
  unfold mItA at p
  cases q : me env h with
  | ok d h1 =>
    rw [q] at p
    by_cases ht : ∃ ds, d = .tup ds
    · obtain ⟨ds, rfl⟩ := ht
      refine .inr ⟨π, env, h, s, ?_⟩
      unfold mItT
      rw [q]
      exact p
    · refine .inl ⟨π, env, h, s, ?_⟩
      unfold mItL
      rw [q]
      cases d with
      | tup ds => exact (ht ⟨ds, rfl⟩).elim
      | _ => exact p
  | exn x h1 =>
    refine .inl ⟨π, env, h, s, ?_⟩
    unfold mItL
    rw [q] at p ⊢
    exact p
  | bad => rw [q] at p; exact p.elim
/-- a tuple or a list is unpacked -/
def gU (n : Nat) (r : Gts) : Gt := fun d env h => match d with
  | .tup ds => if ds.length = n then r ds env h else .bad
  | .ref i => match h[i]? with
    | some (.lst ds) => if ds.length = n then r ds env h else .bad
    | _ => .bad
  | _ => .bad
section
variable {X : Cx} {T : List (Addr × Str)} {W : WX} {vs : List Nat} {e : Expr} {es : List Expr} {g : Gt} {r : Gts} {pos : Pos}
theorem gm_unp {k n : Nat} (hc : X.calm = true) (hr : Gsm X T W es r) (hn : (assignEach es X.env).length = n := by rfl) (hst : (assignEach es X.env).findIdx? (·.1) = none := by rfl) : Gm X T W (.Tuple es k pos) (gU n r) :=
  PG.of (pg_or (gm_tup hc hr hn hst) (gm_lst hc hr hn hst)) fun v σ H Q ⟨π, env, h, d, s, dv, p⟩ => by
    cases d with
    | tup ds => exact .inl ⟨π, env, h, _, s, dv, p⟩
    | ref i => exact .inr ⟨π, env, h, _, s, dv, p⟩
    | _ => exact p.elim
theorem gw_unp {k n : Nat} (hc : X.calm = true) (hr : Gsw X T W vs es r) (hn : (assignEach es X.env).length = n := by rfl) (hst : (assignEach es X.env).findIdx? (·.1) = none := by rfl) : Gw X T W vs (.Tuple es k pos) (gU n r) :=
  PG.of (pg_or (gw_tup hc hr hn hst) (gw_lst hc hr hn hst)) fun v σ H Q ⟨π, env, h, d, s, dv, p⟩ => by
    cases d with
    | tup ds => exact .inl ⟨π, env, h, _, s, dv, p⟩
    | ref i => exact .inr ⟨π, env, h, _, s, dv, p⟩
    | _ => exact p.elim
end

instance {i j : Int} : Decidable (CDiv i j) := inferInstanceAs (Decidable (0 < j ∧ j < 1073741824))
def fIDiv : F2 := fI fun i j => if CDiv i j then some (.int (i / j)) else none
def fIMod : F2 := fI fun i j => if 0 < j then some (.int (i % j)) else none
def fIAdd : F2 := fI fun i j => some (.int (i + j))
section
variable {X : Cx} {T : List (Addr × Str)} {W : WX} {e : Expr} {me : Ev → Hm → R D} {pos pos' : Pos}
theorem io_add : OpR X (inplaceOp .Add) (rI0 fun i j => .int (i + j)) ∧ Op2 (gx X T) (rI0 fun i j => .int (i + j)) fIAdd := ⟨iop_add, o2_I0⟩
theorem io_sub : OpR X (inplaceOp .Sub) (rI0 fun i j => .int (i - j)) ∧ Op2 (gx X T) (rI0 fun i j => .int (i - j)) fSub := ⟨iop_sub, o2_I0⟩
theorem io_mul : OpR X (inplaceOp .Mult) (rI CMul fun i j => .int (i * j)) ∧ Op2 (gx X T) (rI CMul fun i j => .int (i * j)) fMulI := ⟨iop_mul, o2_IC⟩
theorem io_div : OpR X (inplaceOp .FloorDiv) (rI CDiv fun i j => .int (i / j)) ∧ Op2 (gx X T) (rI CDiv fun i j => .int (i / j)) fIDiv := ⟨iop_fdiv, o2_IC⟩
theorem io_mod : OpR X (inplaceOp .Mod) (rI (fun _ j => 0 < j) fun i j => .int (i % j)) ∧ Op2 (gx X T) (rI (fun _ j => 0 < j) fun i j => .int (i % j)) fIMod := ⟨iop_mod, o2_IC⟩
end
/-- lengths of argument lists -/
def LenIs (m : Ev → Hm → R (List D)) (n : Nat) : Prop := ∀ env h ds h', m env h = .ok ds h' → ds.length = n
theorem len_nil : LenIs mNil 0 := fun env h ds h' e => by cases e; rfl
theorem len_cons {a : Ev → Hm → R D} {r : Ev → Hm → R (List D)} {n : Nat} (w : LenIs r n) : LenIs (mCons a r) (n + 1) := fun env h ds h' e => by
  unfold mCons at e
  cases q : a env h with
  | ok d h1 =>
    rw [q] at e
    cases q2 : r env h1 with
    | ok xs h2 =>
      have e' : (r env h1).bind (fun xs h2 => R.ok (d :: xs) h2) = .ok ds h' := e
      rw [q2] at e'
      cases e'
      rw [List.length_cons, w _ _ _ _ q2]
    | exn x h2 =>
      have e' : (r env h1).bind (fun xs h2 => R.ok (d :: xs) h2) = .ok ds h' := e
      rw [q2] at e'
      cases e'
    | bad =>
      have e' : (r env h1).bind (fun xs h2 => R.ok (d :: xs) h2) = .ok ds h' := e
      rw [q2] at e'
      cases e'
  | exn x h1 => rw [q] at e; cases e
  | bad => rw [q] at e; cases e
section
variable {X : Cx} {T : List (Addr × Str)} {W : WX} {es : List Expr} {mr : Ev → Hm → R (List D)} {pos : Pos}
theorem em_tup {x1} (ha : Am X T W es mr) (w : LenIs mr es.length) (hl : es.length ≤ 1000 := by decide) : Em X T W (.Tuple es x1 pos) (mTup mr) := am_tup ha hl w
theorem em_lst (ha : Am X T W es mr) (w : LenIs mr es.length) (hl : es.length ≤ 1000 := by decide) : Em X T W (.List es pos) (mLst mr) := am_lst ha hl w
end
theorem hu65 {k : Nat} {A : Around} (r : Room k A) : A.units + 65 < cLine := by have := r.un; omega
/-- a tuple of constants of the written part -/
theorem sqT_none {K : PySem.W.Frag} {a : Addr} {xs : List V} (h : SqT K (fun _ => none) a xs) : KTup K a xs := by
  rcases h with h | h
  · rcases h with h | ⟨_, h⟩ <;> cases h
  · exact h
/-- flat data -/
def flV : V → Option D
  | .non => some .non
  | .bl b => some (.bl b)
  | .int i => some (.int i)
  | .str x => some (.str x)
  | _ => none
theorem flV_ok {K : PySem.W.Frag} {π : List Addr} {H : Hp} {v : V} {d : D} (e : flV v = some d) : DV K π H d v := by
  cases v <;> first
    | (cases e; rfl)
    | cases e
def flVs : List V → Option (List D)
  | [] => some []
  | v :: vs => match flV v, flVs vs with
    | some d, some ds => some (d :: ds)
    | _, _ => none
theorem flVs_ok {K : PySem.W.Frag} {π : List Addr} {H : Hp} : ∀ {vs : List V} {ds : List D}, flVs vs = some ds → DVs K π H ds vs
  | [], ds, e => by cases e; rfl
  | v :: vs, ds, e => by
    unfold flVs at e
    cases q : flV v with
    | none => rw [q] at e; cases e
    | some d =>
      cases q2 : flVs vs with
      | none => rw [q, q2] at e; cases e
      | some es =>
        rw [q, q2] at e
        cases e
        exact ⟨v, vs, rfl, flV_ok q, flVs_ok q2⟩
theorem dv_tup {K : PySem.W.Frag} {π : List Addr} {H : Hp} {a : Addr} {xs : List V} {ds : List D} (h : SqT K (fun _ => none) a xs) (e : flVs xs = some ds) : DV K π H (.tup ds) (.ref a) := ⟨a, xs, rfl, .inr (sqT_none h), flVs_ok e⟩
section
variable {X : Cx} {T : List (Addr × Str)} {W : WX} {tg e : Expr} {mr : Ev → Hm → R (List D)} {me : Ev → Hm → R D} {p p' pos pos' : Pos}
theorem cl_eq (hu : X.A.units + 64 < cLine) : OpR X (compareOp .Eq) (rEqM X.K) ∧ Op2 (gx X T) (rEqM X.K) fEq := ⟨op_eq.or (op_eqD hu), o2_eq⟩
/-- reversed(range(j)) -/
def mRvR1 (m : Ev → Hm → R D) : Ev → Hm → R Itr := fun env h => (m env h).bind fun x h1 => match x with
  | .int j => if sm62 j = true then .ok (rngD (0 + (((j - 0).toNat : Nat) : Int) - 1) (-1) (j - 0).toNat, []) h1 else .bad
  | _ => .bad
theorem im_revR (hg : Gl X "reversed") (hm : X.mg "reversed" = none) (hg2 : Gl X "range") (hm2 : X.mg "range" = none) (he : Em X T W e me) (na : starEach [e] X.env = (false, eval e X.env) :: starEach [] X.env := by rfl) (hs : starEach [.Call (.Name "range" p) [e] [] pos] X.env = (false, eval (.Call (.Name "range" p) [e] [] pos) X.env) :: starEach [] X.env := by rfl) :
    Im X T W tg (.Call (.Name "reversed" p') [.Call (.Name "range" p) [e] [] pos] [] pos') (mRvR1 me) := PI.of (pi_revR hg hm (prg_1 hg2 hm2 he na) hs) fun σ H Q ⟨π, env, h, s, q⟩ => by
  refine ⟨π, env, h, s, q.bind.mono fun π1 H1 h1 d s1 g1 p1 x dx => ?_⟩
  split at p1
  · rename_i j
    obtain rfl := (show x = _ from dx)
    split at p1
    · rename_i hc
      obtain ⟨c1, c2⟩ := sm62_ok hc
      exact ⟨j, rfl, by decide, by decide, c1, c2, p1 π1 H1 Step.refl g1 _ walk_rgc⟩
    · exact p1.elim
  · exact p1.elim
end
end MM

namespace MM
open PySem L2

section
variable {P : Program} {w : World} {K : PySem.W.Frag} {mg : Str → Option Value} {base : Heap} {T : List (Addr × Str)}
theorem def_ok {x qual : Str} {params : Arguments} {body : List Stmt} {scope : Scope} {f : Addr} {fd : FuncData} {N ps : List Str} {k : Nat} {m : Ev → Hm → SR} (F : FunD K x qual params body scope [] [] f fd) (S : FnScope N ps scope)
    (hbody : ∀ (cdv : Value) (A : Around) (outer : List Env) (s : Shared) (H : Hp) (E : XK), Room k (cxOf (L2.CX P w) P w K mg base N qual scope f cdv A outer s H E).A → Takes (cxOf (L2.CX P w) P w K mg base N qual scope f cdv A outer s H E) (fun cls d _ H' => E cls d H') →
      PassesOwn (model P w) (cxOf (L2.CX P w) P w K mg base N qual scope f cdv A outer s H E).A (cxOf (L2.CX P w) P w K mg base N qual scope f cdv A outer s H E).env (cxOf (L2.CX P w) P w K mg base N qual scope f cdv A outer s H E).xe →
      Ssm (cxOf (L2.CX P w) P w K mg base N qual scope f cdv A outer s H E) T (fun cls d _ H' => E cls d H') body m) :
    FnOk P w K mg base (L2.CX P w) (k + 1) f fd ps (spM ⟨K, mg, T⟩ (callM N.length ps.length m) ps.length) := by
  refine F.ok S (fun vs H Q E ⟨π, h, ds, g, q, hl, _⟩ => by rw [q.len]; exact hl) fun cdv A outer s H vs Q E hr ⟨π, h, ds, g, q, hl, p⟩ => ⟨_, hbody cdv A outer s H E hr (takes_of rfl rfl rfl rfl) (passes_of rfl), ?_⟩
  exact ⟨π, startE N.length ds, h, ⟨g, envOk_start q⟩, postS_fn p⟩
end
/-- how the script comes -/
def Scr (ns : List Int) (d : D) (h : Hm) : Prop := (d = .rol (ns.map D.int) ∧ h = []) ∨ (d = .ref 0 ∧ h = [.lst (ns.map D.int)])
/-- what is to be shown of the law's run -/
def PlainLaw (f : Fc) (n : Nat) : Prop := ∀ (ns : List Int) (d : D) (h : Hm), ns.length ≤ n → Scr ns d h → ∃ h', f [d] h = .ok (.bl true) h'
theorem sp_law {G : Gx} {f : Fc} {n : Nat} (hT : G.T = []) (pl : PlainLaw f n) {ns : List Int} {a : Addr} {H : Hp} (hl : ns.length ≤ n) (hS : SqL G.K H a (ns.map V.int)) : spM G f 1 [.ref a] H (fun v _ => v = .bl true) fun _ _ _ => False := by
  have go : ∀ π d h, Good G π h H → DV G.K π H d (.ref a) → Scr ns d h → spM G f 1 [.ref a] H (fun v _ => v = .bl true) fun _ _ _ => False := fun π d h g dv sc => by
    obtain ⟨h', e⟩ := pl ns d h hl sc
    refine ⟨π, h, [d], g, ⟨_, _, rfl, dv, rfl⟩, rfl, ?_⟩
    rw [e]
    intro π' H' s g' v e'
    exact e'
  have g0 : Good G [] [] H := ⟨rfl, List.nodup_nil, fun i a o e => (by cases e), fun p hp => (by rw [hT] at hp; cases hp), fun p hp => (by rw [hT] at hp; cases hp)⟩
  have g1 : H a = some (.lst (ns.map V.int)) → Good G [a] [.lst (ns.map D.int)] H := fun e => by
    refine ⟨rfl, by simp, fun i b o e1 e2 => ?_, fun p hp => (by rw [hT] at hp; cases hp), fun p hp => (by rw [hT] at hp; cases hp)⟩
    cases i with
    | zero =>
      cases e1
      cases e2
      exact ⟨_, e, DVs.ofInts⟩
    | succ i => cases e1
  rcases hS with (h | ⟨o, h⟩) | h
  · exact go [a] (.ref 0) [.lst (ns.map D.int)] (g1 h) ⟨a, rfl, rfl⟩ (.inr ⟨rfl, rfl⟩)
  · exact go [] (.rol (ns.map D.int)) [] g0 ⟨a, _, rfl, .inl ⟨o, h, by simp⟩, DVs.ofInts⟩ (.inl ⟨rfl, rfl⟩)
  · exact go [] (.rol (ns.map D.int)) [] g0 ⟨a, _, rfl, .inr h, DVs.ofInts⟩ (.inl ⟨rfl, rfl⟩)
theorem lawAt {l : PySem.W.OpenLaw} {w : World} {K : PySem.W.Frag} {k n : Nat} {mg : Str → Option Value} {fa : Addr} {h : Heap} {f : Fc} {x qual : Str} {params : Arguments} {body : List Stmt} {scope : Scope} {fd : FuncData}
    (F : FunD K x qual params body scope [] [] fa fd) (hb : ∀ (kV doc pm : Value) (an : Option Addr) (cdv ct : Value) (us : List Value), us.length = (["script"] : List Str).length → bindArgs (PySem.W.fnOf x qual params body scope .none kV doc pm an cdv ct) ⟨us, []⟩ = pure ((["script"] : List Str).zip us))
    (pl : PlainLaw f n) (ok : ∀ base : Heap, K.In base → base.Ns mainGlobals mg → FnOk l.prog w K mg base (L2.CX l.prog w) k fa fd ["script"] (spM ⟨K, mg, []⟩ f 1)) : LamX.LawAtS l w K (L2.CX l.prog w) k n "script" mg fa h := by
  have b := FunD.bindsA (ps := ["script"]) F hb
  exact ⟨fd, [], spM ⟨K, mg, []⟩ f 1, fun p hp => (by cases hp), fun p hp => (by cases hp), fun p hp => (by cases hp), fun s v => b s [v] rfl, fun H a ns hl _ _ hS => sp_law rfl pl hl hS, fun base h1 h2 _ => ok base h1 h2⟩
theorem cx_none {P : Program} {w : World} (H : Hp) (s : Shared) (e : Value) (s' : Shared) (h : L2.CX P w [] H s (fun _ _ _ => False) e s') : False := by
  obtain ⟨_, _, _, _, _, _, _, _, _, _, _, _, z⟩ := h
  exact z.elim
end MM

namespace MM
open PySem L2

section
variable {α β : Type} {a : α} {h : Hm} {x : Ex} {k : α → Hm → R β} {ks : α → Hm → SR} {env : Ev} {b : Ev → Hm → SR} {d e : D}
@[simp] theorem bind_ok : (R.ok a h).bind k = k a h := rfl
@[simp] theorem bind_exn : (R.exn x h : R α).bind k = .exn x h := rfl
@[simp] theorem bind_bad : (R.bad : R α).bind k = .bad := rfl
@[simp] theorem bindS_ok : (R.ok a h).bindS env ks = ks a h := rfl
@[simp] theorem bindS_exn : (R.exn x h : R α).bindS env ks = .exn x env h := rfl
@[simp] theorem bindS_bad : (R.bad : R α).bindS env ks = .bad := rfl
@[simp] theorem then_next : (SR.next env h).then b = b env h := rfl
@[simp] theorem then_ret : (SR.ret d h).then b = .ret d h := rfl
@[simp] theorem then_brk : (SR.brk env h).then b = .brk env h := rfl
@[simp] theorem then_cont : (SR.cont env h).then b = .cont env h := rfl
@[simp] theorem then_exn : (SR.exn x env h).then b = .exn x env h := rfl
@[simp] theorem then_bad : (SR.bad).then b = .bad := rfl
@[simp] theorem only_next : (SR.next env h).only = .next env h := rfl
@[simp] theorem only_exn : (SR.exn x env h).only = .exn x env h := rfl
end
section
variable {i j : Nat} {env : Ev} {h : Hm} {d e : D} {x y : Int} {s t : Str} {p q : Bool} {ds es : List D} {a b c : Ev → Hm → R D} {r : Ev → Hm → R (List D)} {sa sb : Ev → Hm → SR} {f f' : F2} {g : Gt} {gs : Gts} {ta tb : Ev → Hm → R Bool}
@[simp] theorem run_seq : sSeq sa sb env h = (sa env h).then sb := rfl
@[simp] theorem run_nil : sNil env h = .next env h := rfl
@[simp] theorem run_ret : sRet a env h = (a env h).bindS env fun d h1 => .ret d h1 := rfl
@[simp] theorem run_retN : sRetN env h = .ret .non h := rfl
@[simp] theorem run_drop : sDrop a env h = (a env h).bindS env fun _ h1 => .next env h1 := rfl
@[simp] theorem run_if : sIf ta sa sb env h = (ta env h).bindS env fun k h1 => if k = true then sa env h1 else sb env h1 := rfl
@[simp] theorem run_asg : sAsg g a env h = (a env h).bindS env fun d h1 => (g d env h1).only := rfl
@[simp] theorem run_brk : sBrk env h = .brk env h := rfl
@[simp] theorem run_cont : sCont env h = .cont env h := rfl
@[simp] theorem run_raise {cn : Str} : sRaise cn env h = .exn ⟨cn, []⟩ env h := rfl
@[simp] theorem run_gN : gN i d env h = .next (env.set i (some d)) h := rfl
@[simp] theorem run_C : mC d env h = .ok d h := rfl
@[simp] theorem run_var : mVar i env h = (match env[i]? with
  | some (some d) => .ok d h
  | _ => .bad) := rfl
@[simp] theorem run_m2 : m2 f a b env h = (a env h).bind fun x h1 => (b env h1).bind fun y h2 => f x y h2 := rfl
@[simp] theorem run_lnil : mNil env h = .ok [] h := rfl
@[simp] theorem run_lcons : mCons a r env h = (a env h).bind fun x h1 => (r env h1).bind fun xs h2 => .ok (x :: xs) h2 := rfl
@[simp] theorem run_tup : mTup r env h = (r env h).bind fun xs h1 => .ok (.tup xs) h1 := rfl
@[simp] theorem run_lst : mLst r env h = (r env h).bind fun xs h1 => .ok (.ref h1.length) (h1 ++ [.lst xs]) := rfl
@[simp] theorem run_bool : mBool a env h = (a env h).bind fun x h1 => (match x with
  | .bl b => .ok b h1
  | _ => .bad) := rfl
@[simp] theorem run_tru : mTru a env h = (a env h).bind fTru := rfl
@[simp] theorem run_and : mAnd ta tb env h = (ta env h).bind fun k h1 => if k = true then tb env h1 else .ok false h1 := rfl
@[simp] theorem run_or : mOr ta tb env h = (ta env h).bind fun k h1 => if k = true then .ok true h1 else tb env h1 := rfl
@[simp] theorem run_not : mNot ta env h = (ta env h).bind fun k h1 => .ok (!k) h1 := rfl
@[simp] theorem run_andV : mAndV a b env h = (a env h).bind fun x h1 => (fTru x h1).bind fun k h2 => if k = true then b env h2 else .ok x h2 := rfl
@[simp] theorem run_orV : mOrV a b env h = (a env h).bind fun x h1 => (fTru x h1).bind fun k h2 => if k = true then .ok x h2 else b env h2 := rfl
@[simp] theorem run_notV : mNotV a env h = (a env h).bind fun x h1 => (fTru x h1).bind fun k h2 => .ok (.bl (!k)) h2 := rfl
@[simp] theorem run_ifE : mIf ta a b env h = (ta env h).bind fun k h1 => if k = true then a env h1 else b env h1 := rfl
@[simp] theorem run_chain : mChain f f' a b c env h = (a env h).bind fun x h1 => (b env h1).bind fun y h2 => (f x y h2).bind fun z h3 => (match z with
  | .bl k => if k = true then (c env h3).bind fun w h4 => f' y w h4 else .ok (.bl false) h3
  | _ => .bad) := rfl
@[simp] theorem run_neg : mNeg a env h = (a env h).bind fun x h1 => (match x with
  | .int i => .ok (.int (-i)) h1
  | _ => .bad) := rfl
@[simp] theorem run_sl {l u : Ev → Hm → R (Option Int)} : mSl a l u env h = (a env h).bind fun x h1 => (l env h1).bind fun lo h2 => (u env h2).bind fun hi h3 => fSl x lo hi h3 := rfl
@[simp] theorem run_no : mNo env h = .ok none h := rfl
@[simp] theorem run_some : mSome a env h = (a env h).bind fun x h1 => (match x with
  | .int i => .ok (some i) h1
  | _ => .bad) := rfl
@[simp] theorem run_call {fc : Fc} : mCall fc r env h = (r env h).bind fc := rfl
@[simp] theorem run_callF {fc : Fc} {p : Nat} : mCallF p fc r env h = (r env h).bind fun ds h1 => if ds.length = p then fc ds h1 else .bad := rfl
@[simp] theorem run_meth {tg : Hm → D → Bool} {fm : Fm} : mMeth tg fm a r env h = (a env h).bind fun x h1 => if tg h1 x = true then (r env h1).bind fun ds h2 => fm x ds h2 else .bad := rfl
@[simp] theorem run_subM : gSubM a b d env h = (a env h).bindS env fun x h1 => (b env h1).bindS env fun y h2 => (match fSet x y d h2 with
  | some h3 => .next env h3
  | none => .bad) := rfl
@[simp] theorem run_par : sPar i j r env h = (r env h).bindS env fun ds h1 => (match ds with
  | [a, b] => .next ((env.set i (some a)).set j (some b)) h1
  | _ => .bad) := rfl
@[simp] theorem run_par3 {l : Nat} : sPar3 i j l r env h = (r env h).bindS env fun ds h1 => (match ds with
  | [a, b, c] => .next (((env.set i (some a)).set j (some b)).set l (some c)) h1
  | _ => .bad) := rfl
@[simp] theorem run_aug : sAug i f a env h = (match env[i]? with
  | some (some x) => (a env h).bindS env fun y h1 => (f x y h1).bindS env fun z h2 => .next (env.set i (some z)) h2
  | _ => .bad) := rfl
@[simp] theorem run_itA : mItA a env h = (a env h).bind fun x h1 => (match x with
  | .tup ds => .ok (ds, []) h1
  | x => oR (itL h1 x) h1) := rfl
@[simp] theorem run_rg1 : mRg1 r env h = (r env h).bind fun ds h1 => (match ds with
  | [.int j] => if sm62 j = true then .ok (rng1 0 j.toNat, []) h1 else .bad
  | _ => .bad) := rfl
@[simp] theorem run_enum : mEnum r env h = (r env h).bind fun ds h1 => (match ds with
  | [x] => (match itL h1 x with
    | some it => .ok (enumD 0 it.1, it.2) h1
    | none => .bad)
  | _ => .bad) := rfl
@[simp] theorem run_for {m : Ev → Hm → R Itr} : sFor m g sa env h = (m env h).bindS env fun it h1 => forL it.2 g sa it.1 env h1 := rfl
@[simp] theorem run_lc {vs : List Nat} {m : Ev → Hm → R Itr} : mLc vs m g ta a env h = (m env h).bind fun it h1 => if it.1.length ≤ 16777216 then (match lcL it.2 g ta a (wipeE env vs) it.1 h1 with
  | .ok ys h2 => .ok (.ref h2.length) (h2 ++ [.lst ys])
  | _ => .bad) else .bad := rfl
@[simp] theorem run_fld {cs : List Str} {s : Str} : mFld cs s a env h = (a env h).bind fun x h1 => (match x with
  | .ref i => (match h1[i]? with
    | some (.ins c fs) => if c ∈ cs then (match fs.lookup s with
        | some d => .ok d h1
        | none => .bad) else .bad
    | _ => .bad)
  | _ => .bad) := rfl
@[simp] theorem run_fldM {cs : List Str} {s : Str} : sFldM cs s a b env h = (b env h).bindS env fun y h1 => (a env h1).bindS env fun x h2 => (match setF cs s x y h2 with
  | some h3 => .next env h3
  | none => .bad) := rfl
@[simp] theorem run_tyes : tYesM env h = .ok true h := rfl
@[simp] theorem fAdd_i : fAdd (.int x) (.int y) h = .ok (.int (x + y)) h := rfl
@[simp] theorem fSub_i : fSub (.int x) (.int y) h = .ok (.int (x - y)) h := rfl
@[simp] theorem fLt_i : fLt (.int x) (.int y) h = .ok (.bl (decide (x < y))) h := rfl
@[simp] theorem fLe_i : fLe (.int x) (.int y) h = .ok (.bl (decide (x ≤ y))) h := rfl
@[simp] theorem fGt_i : fGt (.int x) (.int y) h = .ok (.bl (decide (y < x))) h := rfl
@[simp] theorem fGe_i : fGe (.int x) (.int y) h = .ok (.bl (decide (y ≤ x))) h := rfl
theorem fMulI_ok (c : CMul x y) : fMulI (.int x) (.int y) h = .ok (.int (x * y)) h := by
  unfold fMulI fI
  simp only [if_pos c]
theorem fMul_ok (c : CMul x y) : fMul (.int x) (.int y) h = .ok (.int (x * y)) h := fMulI_ok c
theorem fDiv_ok (c : y ≠ 0 ∧ y.natAbs < 1073741824) : fDiv (.int x) (.int y) h = .ok (.int (x.fdiv y)) h := by
  unfold fDiv fI
  simp only [if_pos (show CDivN x y from c)]
theorem fMod_ok (c : y ≠ 0) : fMod (.int x) (.int y) h = .ok (.int (x.fmod y)) h := by
  unfold fMod fI
  simp only [if_pos c]
theorem fPow_ok (c : 0 ≤ y ∧ y ≤ 1000000 ∧ x.natAbs < 2 ^ 64) : fPow (.int x) (.int y) h = .ok (.int (x ^ y.toNat)) h := by
  unfold fPow fI
  simp only [if_pos (show CPow x y from c)]
@[simp] theorem fEq_i : fEq (.int x) (.int y) h = .ok (.bl (decide (x = y))) h := by
  show R.ok (D.bl (decide (D.int x = D.int y))) h = _
  simp
@[simp] theorem fNe_i : fNe (.int x) (.int y) h = .ok (.bl (!decide (x = y))) h := by
  show R.ok (D.bl (!decide (D.int x = D.int y))) h = _
  simp
@[simp] theorem fAbs_i : fAbs [.int x] h = .ok (.int (if x < 0 then -x else x)) h := rfl
@[simp] theorem fInt_i : fInt [.int x] h = .ok (.int x) h := rfl
@[simp] theorem fInt_b : fInt [.bl p] h = .ok (.int (if p then 1 else 0)) h := rfl
end
theorem ofString_inj {a b : String} : (Str.ofString a = Str.ofString b) ↔ a = b := by
  refine ⟨fun h => ?_, fun h => by rw [h]⟩
  rw [Str.ofString_eq_toList, Str.ofString_eq_toList] at h
  have h1 : a.toList.map Char.toNat = b.toList.map Char.toNat := by
    have := congrArg (fun z : Str => z.cps.toList) h
    simpa using this
  have h2 : a.toList = b.toList := by
    refine (List.map_inj_right ?_).mp h1
    intro x y hxy
    exact Char.toNat_inj.mp hxy
  exact String.toList_inj.mp h2
@[simp] theorem str_eq {a b : String} : (Str.ofString a = Str.ofString b) = (a = b) := propext ofString_inj
@[simp] theorem str_beq {a b : String} : (Str.ofString a == Str.ofString b) = (a == b) := by
  by_cases h : a = b
  · subst h
    simp
  · have h2 : ¬ Str.ofString a = Str.ofString b := fun z => h (ofString_inj.mp z)
    rw [beq_eq_false_iff_ne.mpr h, beq_eq_false_iff_ne.mpr h2]
section
variable {h : Hm} {s t : Str} {p q : Bool} {x y : Int}
@[simp] theorem fEq_s : fEq (.str s) (.str t) h = .ok (.bl (decide (s = t))) h := by
  show R.ok (D.bl (decide (D.str s = D.str t))) h = _
  simp
@[simp] theorem fNe_s : fNe (.str s) (.str t) h = .ok (.bl (!decide (s = t))) h := by
  show R.ok (D.bl (!decide (D.str s = D.str t))) h = _
  simp
@[simp] theorem fEq_b : fEq (.bl p) (.bl q) h = .ok (.bl (decide (p = q))) h := by
  show R.ok (D.bl (decide (D.bl p = D.bl q))) h = _
  simp
@[simp] theorem fMax2_i : fMax2 [.int x, .int y] h = .ok (.int (if y > x then y else x)) h := rfl
@[simp] theorem fMin2_i : fMin2 [.int x, .int y] h = .ok (.int (if y < x then y else x)) h := rfl
@[simp] theorem fIAdd_i : fIAdd (.int x) (.int y) h = .ok (.int (x + y)) h := rfl
@[simp] theorem fTru_b : fTru (.bl p) h = .ok p h := rfl
@[simp] theorem fTru_i : fTru (.int x) h = .ok (x != 0) h := rfl
@[simp] theorem fIs_n {d : D} {n : Bool} : fIs n d .non h = .ok (.bl (if n then !decide (d = .non) else decide (d = .non))) h := rfl
end
@[simp] theorem lookup_str {a k : Str} {d : D} {es : List (Str × D)} : List.lookup a ((k, d) :: es) = if a = k then some d else List.lookup a es := by
  by_cases h : a = k
  · have hb : (a == k) = true := beq_iff_eq.mpr h
    simp only [List.lookup, hb, if_pos h]
  · have hb : (a == k) = false := beq_eq_false_iff_ne.mpr h
    simp only [List.lookup, hb, if_neg h]
@[simp] theorem fIx_t {ds : List D} {x : Int} {h : Hm} : fIx (.tup ds) (.int x) h = (match L2.atI ds x with
  | some d => .ok d h
  | none => .bad) := rfl
@[simp] theorem run_methF {cn m : Str} {p : Nat} {fn : Fc} {mo : Ev → Hm → R D} {mr : Ev → Hm → R (List D)} {env : Ev} {h : Hm} : mMethF cn m p fn mo mr env h = (mo env h).bind fun x h1 => (match x with
  | .ref i => (match h1[i]? with
    | some (.ins c fs) => if c = cn ∧ fs.lookup m = none then (mr env h1).bind fun ds h2 => if ds.length + 1 = p then fn (.ref i :: ds) h2 else .bad else .bad
    | _ => .bad)
  | _ => .bad) := rfl
@[simp] theorem run_make {cn : Str} {p : Nat} {fn : Fc} {mr : Ev → Hm → R (List D)} {env : Ev} {h : Hm} : mMake cn p fn mr env h = (mr env h).bind fun ds h1 => if ds.length + 1 = p then (match fn (.ref h1.length :: ds) (h1 ++ [.ins cn []]) with
  | .ok .non h2 => .ok (.ref h1.length) h2
  | .exn x h2 => .exn x h2
  | _ => .bad) else .bad := rfl
@[simp] theorem run_get {mo a b : Ev → Hm → R D} {env : Ev} {h : Hm} : mGet mo a b env h = (mo env h).bind fun x h1 => if isD h1 x = true then (a env h1).bind fun k h2 => (b env h2).bind fun y h3 => (match x, keyD k with
  | .ref i, some k => (match h3[i]? with
    | some (.dic kvs) => .ok ((getK kvs k).getD y) h3
    | _ => .bad)
  | _, _ => .bad) else .bad := rfl
@[simp] theorem run_fldA {cs : List Str} {f : Str} {fo : F2} {mo me : Ev → Hm → R D} {env : Ev} {h : Hm} : sFldA cs f fo mo me env h = (mo env h).bindS env fun x h1 => (match x with
  | .ref i => (match h1[i]? with
    | some (.ins c fs) => if c ∈ cs then (match fs.lookup f with
        | some v => (me env h1).bindS env fun y h2 => (fo v y h2).bindS env fun z h3 => (match h3[i]? with
            | some (.ins c' fs') => if c' = c ∧ fs'.length < 1000 then .next env (h3.set i (.ins c (putD f z fs'))) else .bad
            | _ => .bad)
        | none => .bad) else .bad
    | _ => .bad)
  | _ => .bad) := rfl
end MM

namespace MM
open PySem L2
section
variable {h : Hm} {r : Nat} {ds : List D} {x y : D} {k : Int} {j : Nat}
/-- subscripts -/
theorem ixN_nat {n j : Nat} (hj : j < n) : ixN n (j : Int) = some j := by
  unfold ixN
  rw [if_pos (by omega), if_pos (by omega)]
  simp
theorem fIx_lst (e : h[r]? = some (.lst ds)) (e2 : ds[j]? = some x) : fIx (.ref r) (.int (j : Int)) h = .ok x h := by
  have hj : j < ds.length := (List.getElem?_eq_some_iff.mp e2).1
  unfold fIx
  simp only [e, L2.atI, ixN_nat hj, Option.bind_some, e2]
theorem fIx_last (e : h[r]? = some (.lst ds)) (e2 : ds.getLast? = some x) : fIx (.ref r) (.int (-1)) h = .ok x h := by
  have hj : 0 < ds.length := by cases ds with
    | nil => cases e2
    | cons a l => exact Nat.succ_pos _
  have e3 : ixN ds.length (-1) = some (ds.length - 1) := by
    unfold ixN
    rw [if_neg (by omega), if_pos (by omega)]
    congr 1
    omega
  unfold fIx
  simp only [e, L2.atI, e3, Option.bind_some]
  rw [List.getLast?_eq_getElem?] at e2
  rw [e2]
theorem fSet_lst (e : h[r]? = some (.lst ds)) (hj : j < ds.length) : fSet (.ref r) (.int (j : Int)) y h = some (h.set r (.lst (ds.set j y))) := by
  unfold fSet
  simp only [e, ixN_nat hj]
end
section
variable {h : Hm} {i : Nat} (hi : i < h.length)
include hi
theorem ix3 (p q r : D) : fIx (.ref i) (.int 0) (h.set i (.lst [p, q, r])) = .ok p (h.set i (.lst [p, q, r])) ∧ fIx (.ref i) (.int 1) (h.set i (.lst [p, q, r])) = .ok q (h.set i (.lst [p, q, r])) ∧ fIx (.ref i) (.int 2) (h.set i (.lst [p, q, r])) = .ok r (h.set i (.lst [p, q, r])) := by
  have e : (h.set i (.lst [p, q, r]))[i]? = some (.lst [p, q, r]) := List.getElem?_set_self hi
  exact ⟨fIx_lst (j := 0) e rfl, fIx_lst (j := 1) e rfl, fIx_lst (j := 2) e rfl⟩
theorem set3 (p q r y : D) : fSet (.ref i) (.int 0) y (h.set i (.lst [p, q, r])) = some (h.set i (.lst [y, q, r])) ∧ fSet (.ref i) (.int 1) y (h.set i (.lst [p, q, r])) = some (h.set i (.lst [p, y, r])) ∧ fSet (.ref i) (.int 2) y (h.set i (.lst [p, q, r])) = some (h.set i (.lst [p, q, y])) := by
  have e : (h.set i (.lst [p, q, r]))[i]? = some (.lst [p, q, r]) := List.getElem?_set_self hi
  refine ⟨(fSet_lst (j := 0) e (by simp)).trans ?_, (fSet_lst (j := 1) e (by simp)).trans ?_, (fSet_lst (j := 2) e (by simp)).trans ?_⟩ <;> simp
end
theorem set_self {h : Hm} {i : Nat} {o : O} (e : h[i]? = some o) : h.set i o = h := by
  obtain ⟨hi, e⟩ := List.getElem?_eq_some_iff.mp e
  rw [← e]
  exact List.set_getElem_self hi

def b_dice : Ev → Hm → SR := (sSeq (sIf (mBool (mChain fLt fLt (m2 fSub (mC (.int 0)) (mC (.int 10))) (mVar 0) (mC (.int 10))))
  (sRet (mLst (mCons (mCall fAbs (mCons (mVar 0) mNil)) (mCons (mC (.int 0)) (mCons (mC (.int 2)) mNil)))))
  sNil)
  (sRet (mLst (mCons (mVar 0) (mCons (m2 fAdd (mC (.int 1)) (m2 fMod (mCall fInt (mCons (mVar 0) mNil)) (mC (.int 1009)))) (mCons (mCall fInt (mCons (m2 fGe (mVar 0) (m2 fPow (mC (.int 10)) (mC (.int 18)))) mNil)) mNil))))))
def f_dice : Fc := callM 1 1 b_dice
def b_roll : Ev → Hm → SR := (sSeq (sIf (mOr (mBool (m2 fEq (m2 fIx (mVar 0) (mC (.int 2))) (mC (.int 2)))) (mAnd (mBool (m2 fEq (m2 fIx (mVar 0) (mC (.int 2))) (mC (.int 1)))) (mBool (m2 fGt (m2 fIx (mVar 0) (mC (.int 0))) (mC (.int 0))))))
  (sSeq (sAsg (gN 2) (m2 fMod (mCall fInt (mCons (m2 fIx (mVar 0) (mC (.int 0))) mNil)) (mVar 1)))
  (sSeq (sAsg (gSubM (mVar 0) (mC (.int 0))) (m2 fDiv (m2 fIx (mVar 0) (mC (.int 0))) (mVar 1)))
  (sRet (mVar 2))))
  sNil)
  (sSeq (sAsg (gSubM (mVar 0) (mC (.int 2))) (mC (.int 0)))
  (sSeq (sAsg (gSubM (mVar 0) (mC (.int 0))) (m2 fMod (mCall fInt (mCons (m2 fAdd (m2 fAdd (m2 fMul (m2 fIx (mVar 0) (mC (.int 0))) (mC (.int 48271))) (m2 fMul (m2 fIx (mVar 0) (mC (.int 1))) (mC (.int 69621)))) (mC (.int 11))) mNil)) (mC (.int 2147483647))))
  (sSeq (sAsg (gSubM (mVar 0) (mC (.int 1))) (m2 fAdd (m2 fIx (mVar 0) (mC (.int 1))) (mC (.int 1))))
  (sRet (m2 fMod (mCall fInt (mCons (m2 fAdd (m2 fDiv (m2 fIx (mVar 0) (mC (.int 0))) (mC (.int 7))) (m2 fIx (mVar 0) (mC (.int 0)))) mNil)) (mVar 1)))))))
def f_roll : Fc := callM 3 2 b_roll
def b_rounds : Ev → Hm → SR := (sSeq (sAsg (gN 2) (mSl (mVar 0) mNo (mSome (mVar 1))))
  (sSeq (sIf (mBool (m2 fEq (mVar 2) (mLst mNil)))
  (sAsg (gN 2) (mLst (mCons (mC (.int 0)) mNil)))
  sNil)
  (sRet (mLc [3] (mItA (mVar 2)) (gN 3) tYesM (mCallF 1 f_dice (mCons (mVar 3) mNil))))))
def f_rounds : Fc := callM 4 2 b_rounds
theorem dice_ok (c : Int) (h : Hm) : ∃ a b m, f_dice [.int c] h = .ok (.ref h.length) (h ++ [.lst [.int a, .int b, .int m]]) := by
  by_cases hc : -10 < c ∧ c < 10
  · refine ⟨if c < 0 then -c else c, 0, 2, ?_⟩
    simp [f_dice, callM, b_dice, startE, hc]
  · refine ⟨c, 1 + c.fmod 1009, if (10 : Int) ^ 18 ≤ c then 1 else 0, ?_⟩
    have : ¬ ((-10 < c) ∧ (c < 10)) := hc
    by_cases h1 : -10 < c
    · have h2 : ¬ c < 10 := fun z => hc ⟨h1, z⟩
      simp [f_dice, callM, b_dice, startE, h1, h2, fMod_ok, fPow_ok]
    · simp [f_dice, callM, b_dice, startE, h1, fMod_ok, fPow_ok]
theorem roll_ok {i : Nat} {h : Hm} {a b m many : Int} (e : h[i]? = some (.lst [.int a, .int b, .int m])) (h1 : 0 < many) (h2 : many < 1073741824) :
    ∃ v a' b' m' : Int, 0 ≤ v ∧ v < many ∧ f_roll [.ref i, .int many] h = .ok (.int v) (h.set i (.lst [.int a', .int b', .int m'])) := by
  have hi0 : i < h.length := (List.getElem?_eq_some_iff.mp e).1
  obtain ⟨h0, e0, hi⟩ : ∃ h0 : Hm, h = h0.set i (.lst [.int a, .int b, .int m]) ∧ i < h0.length := ⟨h, (set_self e).symm, hi0⟩
  subst e0
  have hm : many ≠ 0 := by omega
  have hd : many ≠ 0 ∧ many.natAbs < 1073741824 := ⟨hm, by omega⟩
  have v1 : ∀ z : Int, 0 ≤ z.fmod many ∧ z.fmod many < many := fun z => ⟨Int.fmod_nonneg_of_pos z h1, Int.fmod_lt_of_pos z h1⟩
  have hm1 : ∀ x : Int, CMul x 48271 := fun x => .inr ⟨by decide, by decide⟩
  have hm2 : ∀ x : Int, CMul x 69621 := fun x => .inr ⟨by decide, by decide⟩
  simp only [List.set_set]
  by_cases c : m = 2 ∨ (m = 1 ∧ 0 < a)
  · refine ⟨a.fmod many, a.fdiv many, b, m, (v1 a).1, (v1 a).2, ?_⟩
    rcases c with rfl | ⟨rfl, c⟩
    · simp [f_roll, callM, b_roll, startE, ix3 hi, set3 hi, fMod_ok hm, fDiv_ok hd]
    · simp [f_roll, callM, b_roll, startE, ix3 hi, set3 hi, fMod_ok hm, fDiv_ok hd, c]
  · have c1 : ¬ m = 2 := fun z => c (.inl z)
    refine ⟨(((a * 48271 + b * 69621 + 11).fmod 2147483647).fdiv 7 + (a * 48271 + b * 69621 + 11).fmod 2147483647).fmod many, (a * 48271 + b * 69621 + 11).fmod 2147483647, b + 1, 0, (v1 _).1, (v1 _).2, ?_⟩
    by_cases c2 : m = 1
    · have c3 : ¬ 0 < a := fun z => c (.inr ⟨c2, z⟩)
      simp [f_roll, callM, b_roll, startE, ix3 hi, set3 hi, fMod_ok, fDiv_ok, fMul_ok, hm1, hm2, c2, c3, hm]
    · simp [f_roll, callM, b_roll, startE, ix3 hi, set3 hi, fMod_ok, fDiv_ok, fMul_ok, hm1, hm2, c1, c2, hm]

def IsDice (h : Hm) (i : Nat) : Prop := ∃ a b m : Int, h[i]? = some (.lst [.int a, .int b, .int m])
/-- what stood at n stands, but at i -/
def Fr (i : Nat) (h h' : Hm) : Prop := h.length ≤ h'.length ∧ ∀ j, j < h.length → j ≠ i → h'[j]? = h[j]?
theorem Fr.refl {i : Nat} {h : Hm} : Fr i h h := ⟨Nat.le_refl _, fun _ _ _ => rfl⟩
theorem Fr.trans {i : Nat} {h h1 h2 : Hm} (a : Fr i h h1) (b : Fr i h1 h2) : Fr i h h2 := ⟨Nat.le_trans a.1 b.1, fun j hj ne => (b.2 j (Nat.lt_of_lt_of_le hj a.1) ne).trans (a.2 j hj ne)⟩
theorem Fr.app {i : Nat} {h g : Hm} : Fr i h (h ++ g) := ⟨by rw [List.length_append]; omega, fun j hj _ => List.getElem?_append_left hj⟩
theorem Fr.set {i : Nat} {h : Hm} {o : O} : Fr i h (h.set i o) := ⟨by rw [List.length_set]; exact Nat.le_refl _, fun j hj ne => List.getElem?_set_ne (Ne.symm ne)⟩
theorem Fr.get {i j : Nat} {h h' : Hm} {o : O} (f : Fr i h h') (e : h[j]? = some o) (ne : j ≠ i) : h'[j]? = some o := (f.2 j (List.getElem?_eq_some_iff.mp e).1 ne).trans e
theorem roll_fr {i : Nat} {h : Hm} {many : Int} (e : IsDice h i) (h1 : 0 < many) (h2 : many < 1073741824) : ∃ (v : Int) (h' : Hm), 0 ≤ v ∧ v < many ∧ f_roll [.ref i, .int many] h = .ok (.int v) h' ∧ IsDice h' i ∧ h'.length = h.length ∧ Fr i h h' := by
  obtain ⟨a, b, m, e⟩ := e
  have hi := (List.getElem?_eq_some_iff.mp e).1
  obtain ⟨v, a', b', m', v1, v2, run⟩ := roll_ok e h1 h2
  exact ⟨v, _, v1, v2, run, ⟨a', b', m', List.getElem?_set_self hi⟩, List.length_set .., Fr.set⟩
theorem dices_ok (env : Ev) (hE : env.length = 4) : ∀ (cs : List Int) (gs : List (Nat × O)) (h : Hm), (∀ g : Hm, gdOk gs (h ++ g) = true) → ∃ L : List O, L.length = cs.length ∧ (∀ o ∈ L, ∃ a b m : Int, o = .lst [.int a, .int b, .int m]) ∧
    lcL gs (gN 3) tYesM (mCallF 1 f_dice (mCons (mVar 3) mNil)) env (cs.map D.int) h = .ok ((List.range cs.length).map fun k => D.ref (h.length + k)) (h ++ L)
  | [], gs, h, hg => ⟨[], rfl, fun o ho => (by cases ho), by
    have := hg []
    rw [List.append_nil] at this
    simp [lcL, this]⟩
  | c :: cs, gs, h, hg => by
    obtain ⟨a, b, m, e⟩ := dice_ok c h
    obtain ⟨L, hL, h3, ih⟩ := dices_ok env hE cs gs (h ++ [.lst [.int a, .int b, .int m]]) fun g => by rw [List.append_assoc]; exact hg _
    have g0 := hg []
    rw [List.append_nil] at g0
    have e3 : (env.set 3 (some (D.int c)))[3]? = some (some (.int c)) := List.getElem?_set_self (by omega)
    refine ⟨.lst [.int a, .int b, .int m] :: L, by rw [List.length_cons, List.length_cons, hL], fun o ho => ?_, ?_⟩
    · rcases List.mem_cons.mp ho with rfl | ho
      · exact ⟨a, b, m, rfl⟩
      · exact h3 o ho
    · rw [List.map_cons]
      unfold lcL
      rw [if_pos g0]
      simp only [run_gN, run_tyes, run_callF, run_lcons, run_lnil, run_var, e3, bind_ok, List.length_cons, List.length_nil, if_pos, e, ih]
      simp only [List.length_append, List.length_cons, List.length_nil, List.range_succ_eq_map, List.map_cons, List.map_map, List.append_assoc, List.cons_append, List.nil_append, Nat.zero_add]
      congr 2
      apply List.map_congr_left
      intro k _
      show D.ref (h.length + 1 + k) = D.ref (h.length + (k + 1))
      congr 1
      omega
end MM

namespace MM
open PySem L2

theorem mapO_map {α β γ : Type} {f : β → Option γ} {g : α → β} {k : α → γ} (w : ∀ a, f (g a) = some (k a)) : ∀ l : List α, mapO f (l.map g) = some (l.map k)
  | [] => rfl
  | a :: l => by
    rw [List.map_cons, List.map_cons]
    unfold mapO
    rw [w, mapO_map w l]
theorem py_ints {h : Hm} {n : Nat} (cs : List Int) : mapO (py h (n + 1)) (cs.map D.int) = some (cs.map PyData.int) := mapO_map (g := D.int) (k := PyData.int) (fun _ => rfl) cs
theorem py_ref {h : Hm} {n i : Nat} {ds : List D} (e : h[i]? = some (.lst ds)) : py h (n + 1) (.ref i) = (mapO (py h n) ds).map .list := by
  show (match h[i]? with
    | some (.lst ds) => (mapO (py h n) ds).map PyData.list
    | _ => none) = _
  rw [e]
theorem fEq_nil {h : Hm} {i j : Nat} {cs : List Int} (e : h[i]? = some (.lst (cs.map D.int))) (e2 : h[j]? = some (.lst [])) : fEq (.ref i) (.ref j) h = .ok (.bl cs.isEmpty) h := by
  unfold fEq
  rw [if_neg (by show ¬ (false = true); simp), py_ref e, py_ref e2, py_ints]
  cases cs <;> rfl
theorem rounds_fin (d : D) (h0 : Hm) (cells : List Int) (r : Nat) (e1 e3 : Option D) (er : h0[r]? = some (.lst (cells.map D.int))) (hl : cells.length ≤ 16777216) : ∃ L : List O, L.length = cells.length ∧ (∀ o ∈ L, ∃ a b m : Int, o = .lst [.int a, .int b, .int m]) ∧
    (sRet (mLc [3] (mItA (mVar 2)) (gN 3) tYesM (mCallF 1 f_dice (mCons (mVar 3) mNil)))) [some d, e1, some (.ref r), e3] h0 = .ret (.ref (h0.length + cells.length)) (h0 ++ (L ++ [.lst ((List.range cells.length).map fun k => D.ref (h0.length + k))])) := by
  have hr := (List.getElem?_eq_some_iff.mp er).1
  have gg : ∀ g : Hm, gdOk [(r, O.lst (cells.map D.int))] (h0 ++ g) = true := fun g => by
    simp only [gdOk, List.all_cons, List.all_nil, Bool.and_true, decide_eq_true_eq]
    rw [List.getElem?_append_left hr]
    exact er
  obtain ⟨L, hL, h3, run⟩ := dices_ok (wipeE [some d, e1, some (.ref r), e3] [3]) rfl cells _ h0 gg
  refine ⟨L, hL, h3, ?_⟩
  have it : itL h0 (.ref r) = some (cells.map D.int, [(r, O.lst (cells.map D.int))]) := by
    show (match h0[r]? with
      | some (.lst ds) => some (ds, [(r, O.lst ds)])
      | _ => none) = _
    rw [er]
  have v2 : mVar 2 [some d, e1, some (.ref r), e3] h0 = .ok (.ref r) h0 := rfl
  simp only [run_ret, run_lc, run_itA, v2, bind_ok, it, oR, List.length_map, if_pos hl, run, bindS_ok]
  rw [List.length_append, hL, List.append_assoc]
theorem rounds_ok {d : D} {h : Hm} {ns : List Int} {most : Nat} (hm : most ≤ 1000) (sc : Scr ns d h) : ∃ (L : List O) (cells : List Int) (n : Nat), n + cells.length + 1 = L.length ∧
    f_rounds [d, .int most] h = .ok (.ref (h.length + n + cells.length)) (h ++ L) ∧ L[n + cells.length]? = some (.lst ((List.range cells.length).map fun k => D.ref (h.length + n + k))) ∧ ∀ k, k < cells.length → ∃ a b m : Int, L[n + k]? = some (.lst [.int a, .int b, .int m]) := by
  obtain ⟨cs, hcs, hlen⟩ : ∃ cs : List Int, fSl d none (some (most : Int)) h = .ok (.ref h.length) (h ++ [.lst (cs.map D.int)]) ∧ cs.length ≤ 1000 := by
    have hb : HT.sIx (ns.map D.int).length (ns.map D.int).length (some (most : Int)) ≤ most := by
      unfold HT.sIx
      simp only
      split <;> omega
    rcases sc with ⟨rfl, rfl⟩ | ⟨rfl, rfl⟩
    · refine ⟨(ns.drop (HT.sIx (ns.map D.int).length 0 none)).take (HT.sIx (ns.map D.int).length (ns.map D.int).length (some (most : Int)) - HT.sIx (ns.map D.int).length 0 none), ?_, ?_⟩
      · show R.ok _ _ = _
        unfold cutD
        rw [List.map_take, List.map_drop]
      · rw [List.length_take]
        omega
    · refine ⟨(ns.drop (HT.sIx (ns.map D.int).length 0 none)).take (HT.sIx (ns.map D.int).length (ns.map D.int).length (some (most : Int)) - HT.sIx (ns.map D.int).length 0 none), ?_, ?_⟩
      · show R.ok _ _ = _
        unfold cutD
        rw [List.map_take, List.map_drop]
      · rw [List.length_take]
        omega
  have q : ((h ++ [O.lst (cs.map D.int)]) ++ [O.lst []])[h.length]? = some (O.lst (cs.map D.int)) := by
    rw [List.getElem?_append_left (by simp), List.getElem?_append_right (Nat.le_refl _), Nat.sub_self]
    rfl
  have q2 : ((h ++ [O.lst (cs.map D.int)]) ++ [O.lst []])[(h ++ [O.lst (cs.map D.int)]).length]? = some (O.lst []) := by
    rw [List.getElem?_append_right (Nat.le_refl _), Nat.sub_self]
    rfl
  have eq := fEq_nil q q2
  have done : ∀ (L0 : List O) (cells : List Int) (r : Nat) (e1 e3 : Option D), (h ++ L0)[r]? = some (O.lst (cells.map D.int)) → cells.length ≤ 16777216 →
      b_rounds [some d, some (.int most), none, none] h = (sRet (mLc [3] (mItA (mVar 2)) (gN 3) tYesM (mCallF 1 f_dice (mCons (mVar 3) mNil)))) [some d, e1, some (.ref r), e3] (h ++ L0) →
      ∃ (L : List O) (cells : List Int) (n : Nat), n + cells.length + 1 = L.length ∧
        f_rounds [d, .int most] h = .ok (.ref (h.length + n + cells.length)) (h ++ L) ∧ L[n + cells.length]? = some (.lst ((List.range cells.length).map fun k => D.ref (h.length + n + k))) ∧ ∀ k, k < cells.length → ∃ a b m : Int, L[n + k]? = some (.lst [.int a, .int b, .int m]) := by
    intro L0 cells r e1 e3 er hl run
    obtain ⟨L, hL, h3, fin⟩ := rounds_fin d (h ++ L0) cells r e1 e3 er hl
    rw [fin] at run
    refine ⟨L0 ++ (L ++ [.lst ((List.range cells.length).map fun k => D.ref (h.length + L0.length + k))]), cells, L0.length, by simp [hL]; omega, ?_, ?_, fun k hk => ?_⟩
    · show (match b_rounds [some d, some (.int most), none, none] h with
        | .next _ h' => R.ok D.non h'
        | .ret d h' => .ok d h'
        | .exn x _ h' => .exn x h'
        | _ => .bad) = _
      rw [run]
      simp only [List.length_append, List.append_assoc]
    · rw [List.getElem?_append_right (by omega), show L0.length + cells.length - L0.length = L.length by omega, List.getElem?_append_right (Nat.le_refl _), Nat.sub_self]
      rfl
    · have hk2 : k < L.length := by omega
      rw [List.getElem?_append_right (by omega), show L0.length + k - L0.length = k by omega, List.getElem?_append_left hk2, List.getElem?_eq_getElem hk2]
      obtain ⟨a, b, m, e⟩ := h3 _ (List.getElem_mem hk2)
      exact ⟨a, b, m, by rw [e]⟩
  cases hc : cs with
  | nil =>
    subst hc
    refine done [.lst [], .lst [], .lst [.int 0]] [0] (h.length + 2) (some (.int most)) none ?_ (by decide) ?_
    · rw [List.getElem?_append_right (by omega), show h.length + 2 - h.length = 2 by omega]
      rfl
    · have hcs' : fSl d none (some (most : Int)) h = .ok (.ref h.length) (h ++ [O.lst []]) := hcs
      have eq' : fEq (.ref h.length) (.ref (h.length + 1)) (h ++ [O.lst [], O.lst []]) = .ok (.bl true) (h ++ [O.lst [], O.lst []]) := by
        have z := eq
        simp only [List.map_nil, List.length_append, List.length_cons, List.length_nil, List.append_assoc, List.cons_append, List.nil_append, Nat.zero_add] at z
        exact z
      simp [b_rounds, hcs', eq', -run_lc]
  | cons c cs' =>
    subst hc
    refine done [.lst ((c :: cs').map D.int), .lst []] (c :: cs') h.length (some (.int most)) none ?_ (by omega) ?_
    · rw [List.getElem?_append_right (Nat.le_refl _), Nat.sub_self]
      rfl
    · have eq' : fEq (.ref h.length) (.ref (h.length + 1)) (h ++ [O.lst ((c :: cs').map D.int), O.lst []]) = .ok (.bl false) (h ++ [O.lst ((c :: cs').map D.int), O.lst []]) := by
        have z := eq
        simp only [List.length_append, List.length_cons, List.length_nil, List.append_assoc, List.cons_append, List.nil_append, Nat.zero_add] at z
        exact z
      simp only [List.map_cons] at hcs eq' ⊢
      simp [b_rounds, hcs, eq', -run_lc]
def lawOf (most : Nat) (B : Ev → Hm → SR) : Ev → Hm → SR := sSeq (sFor (mItA (mCallF 2 f_rounds (mCons (mVar 0) (mCons (mC (.int (most : Int))) mNil)))) (gN 1) B) (sRet (mC (.bl true)))
/-- a round's body goes on, and leaves what is not its own -/
def RoundOk (N : Nat) (B : Ev → Hm → SR) : Prop := ∀ (d : D) (i : Nat) (rest : List (Option D)) (h : Hm), rest.length = N - 2 → IsDice h i → ∃ (rest' : List (Option D)) (h' : Hm), B (some d :: some (.ref i) :: rest) h = .next (some d :: some (.ref i) :: rest') h' ∧ rest'.length = N - 2 ∧ Fr i h h'
theorem rounds_loop {N : Nat} {B : Ev → Hm → SR} (hB : RoundOk N B) (d : D) (r : Nat) (all : List D) : ∀ (ks : List Nat) (e1 : Option D) (rest : List (Option D)) (h : Hm), rest.length = N - 2 → h[r]? = some (.lst all) → (∀ k ∈ ks, k ≠ r ∧ IsDice h k) → ks.Nodup →
    ∃ (env' : Ev) (h' : Hm), forL [(r, .lst all)] (gN 1) B (ks.map D.ref) (some d :: e1 :: rest) h = .next env' h'
  | [], e1, rest, h, hl, hr, hk, nd => by
    refine ⟨some d :: e1 :: rest, h, ?_⟩
    rw [List.map_nil]
    unfold forL
    rw [if_pos (by simp [gdOk, hr])]
  | k :: ks, e1, rest, h, hl, hr, hk, nd => by
    obtain ⟨nk, dk⟩ := hk k List.mem_cons_self
    obtain ⟨rest', h', run, hl', fr⟩ := hB d k rest h hl dk
    rw [List.nodup_cons] at nd
    obtain ⟨env2, h2, ih⟩ := rounds_loop hB d r all ks (some (.ref k)) rest' h' hl' (fr.get hr (Ne.symm nk)) (fun j hj => by
      obtain ⟨nj, a, b, m, dj⟩ := hk j (List.mem_cons_of_mem _ hj)
      exact ⟨nj, a, b, m, fr.get dj (fun z => nd.1 (z ▸ hj))⟩) nd.2
    refine ⟨env2, h2, ?_⟩
    rw [List.map_cons]
    unfold forL
    rw [if_pos (by simp [gdOk, hr])]
    simp only [run_gN, List.set_cons_succ, List.set_cons_zero, only_next, run]
    exact ih
theorem plain_rounds {N most n : Nat} {B : Ev → Hm → SR} (hN : 2 ≤ N) (hm : most ≤ 1000) (hB : RoundOk N B) : PlainLaw (callM N 1 (lawOf most B)) n := by
  intro ns d h _ sc
  obtain ⟨L, cells, m, hL, run, eL, ed⟩ := rounds_ok hm sc
  have hst : startE N [d] = some d :: none :: List.replicate (N - 2) none := by
    show some d :: List.replicate (N - 1) none = _
    rw [show N - 1 = (N - 2) + 1 by omega, List.replicate_succ]
  have er : (h ++ L)[h.length + m + cells.length]? = some (.lst ((List.range cells.length).map fun k => D.ref (h.length + m + k))) := by
    rw [List.getElem?_append_right (by omega), show h.length + m + cells.length - h.length = m + cells.length by omega]
    exact eL
  obtain ⟨env', h', loop⟩ := rounds_loop hB d (h.length + m + cells.length) ((List.range cells.length).map fun k => D.ref (h.length + m + k)) ((List.range cells.length).map fun k => h.length + m + k) none (List.replicate (N - 2) none) (h ++ L) (List.length_replicate ..) er (fun k hk => by
    obtain ⟨j, hj, rfl⟩ := List.mem_map.mp hk
    rw [List.mem_range] at hj
    obtain ⟨a, b, c, e⟩ := ed j hj
    refine ⟨by omega, a, b, c, ?_⟩
    rw [List.getElem?_append_right (by omega), show h.length + m + j - h.length = m + j by omega]
    exact e) (by
    refine List.nodup_iff_pairwise_ne.mpr ?_
    rw [List.pairwise_map]
    exact List.Pairwise.imp (fun hab => by omega) List.pairwise_lt_range)
  rw [List.map_map] at loop
  rw [show (fun k => D.ref (h.length + m + k)) = D.ref ∘ fun k => h.length + m + k from rfl] at loop
  refine ⟨h', ?_⟩
  have it : itL (h ++ L) (.ref (h.length + m + cells.length)) = some ((List.range cells.length).map fun k => D.ref (h.length + m + k), [(h.length + m + cells.length, .lst ((List.range cells.length).map fun k => D.ref (h.length + m + k)))]) := by
    show (match (h ++ L)[h.length + m + cells.length]? with
      | some (.lst ds) => some (ds, [(h.length + m + cells.length, O.lst ds)])
      | _ => none) = _
    rw [er]
  show (match lawOf most B (startE N [d]) h with
    | .next _ h' => R.ok D.non h'
    | .ret d h' => .ok d h'
    | .exn x _ h' => .exn x h'
    | _ => .bad) = _
  rw [hst]
  have v0 : mVar 0 (some d :: none :: List.replicate (N - 2) none) h = .ok d h := rfl
  simp only [lawOf, run_seq, run_for, run_itA, run_callF, run_lcons, run_lnil, run_C, v0, bind_ok, List.length_cons, List.length_nil, if_pos, run, it, oR, bindS_ok]
  rw [show (fun k => D.ref (h.length + m + k)) = D.ref ∘ fun k => h.length + m + k from rfl, loop]
  rfl
theorem fIx_int {h : Hm} {r : Nat} {ds : List D} {k : Int} {x : D} (e : h[r]? = some (.lst ds)) (hk : 0 ≤ k) (e2 : ds[k.toNat]? = some x) : fIx (.ref r) (.int k) h = .ok x h := by
  have := fIx_lst (j := k.toNat) e e2
  rwa [Int.toNat_of_nonneg hk] at this
theorem fSet_int {h : Hm} {r : Nat} {ds : List D} {k : Int} {y : D} (e : h[r]? = some (.lst ds)) (hk : 0 ≤ k) (hj : k.toNat < ds.length) : fSet (.ref r) (.int k) y h = some (h.set r (.lst (ds.set k.toNat y))) := by
  have := fSet_lst (y := y) e hj
  rwa [Int.toNat_of_nonneg hk] at this
/-- all that stood stands: the rest is new -/
theorem ext_app {h h' : Hm} (hl : h.length ≤ h'.length) (w : ∀ j, j < h.length → h'[j]? = h[j]?) : ∃ g, h' = h ++ g := by
  refine ⟨h'.drop h.length, ?_⟩
  apply List.ext_getElem?
  intro j
  by_cases hj : j < h.length
  · rw [w j hj, List.getElem?_append_left hj]
  · rw [List.getElem?_append_right (by omega), List.getElem?_drop]
    congr 1
    omega
section
variable {h : Hm} {r : Nat} {ds es : List D} {x y : D}
theorem isL_ok (e : h[r]? = some (.lst ds)) : isL h (.ref r) = true := by
  show (match h[r]? with
    | some (.lst _) => true
    | _ => false) = true
  rw [e]
theorem fAppend_ok (e : h[r]? = some (.lst ds)) (hl : ds.length < 16777216) : fAppend (.ref r) [y] h = .ok .non (h.set r (.lst (ds ++ [y]))) := by
  unfold fAppend
  simp only [e, if_pos hl]
theorem fLen_lst (e : h[r]? = some (.lst ds)) : fLen [.ref r] h = .ok (.int (ds.length : Int)) h := by
  unfold fLen
  simp only [lenD, e]
theorem itL_lst (e : h[r]? = some (.lst ds)) : itL h (.ref r) = some (ds, [(r, .lst ds)]) := by
  show (match h[r]? with
    | some (.lst ds) => some (ds, [(r, O.lst ds)])
    | _ => none) = _
  rw [e]
theorem fList_lst (e : h[r]? = some (.lst ds)) : fList [.ref r] h = .ok (.ref h.length) (h ++ [.lst ds]) := by
  unfold fList
  simp only [itemsD, e]
theorem fTuple_lst (e : h[r]? = some (.lst ds)) : fTuple [.ref r] h = .ok (.tup ds) h := by
  unfold fTuple
  simp only [itemsD, e]
end
def lcTurn (g : Gt) (t : Ev → Hm → R Bool) (e : Ev → Hm → R D) (env : Ev) (d : D) (h : Hm) : R (Option D) := match g d env h with
  | .next e1 h1 => (match t e1 h1 with
    | .ok true h2 => (match e e1 h2 with
      | .ok y h3 => .ok (some y) h3
      | _ => .bad)
    | .ok false h2 => .ok none h2
    | _ => .bad)
  | _ => .bad
def consO (o : Option D) (r : R (List D)) : R (List D) := match o with
  | some y => (match r with
    | .ok ys h4 => .ok (y :: ys) h4
    | _ => .bad)
  | none => r
theorem lcL_cons {gs : List (Nat × O)} {g : Gt} {t : Ev → Hm → R Bool} {e : Ev → Hm → R D} {env : Ev} {d : D} {ds : List D} {h h1 : Hm} {o : Option D} (hg : gdOk gs h = true) (e1 : lcTurn g t e env d h = .ok o h1) : lcL gs g t e env (d :: ds) h = consO o (lcL gs g t e env ds h1) := by
  unfold lcTurn at e1
  rw [lcL, if_pos hg]
  split at e1
  · rename_i e2 h2 q
    try rw [q]
    try simp only
    split at e1
    · rename_i h3 q2
      try rw [q2]
      try simp only
      split at e1
      · rename_i y h4 q3
        try rw [q3]
        cases e1
        rfl
      · cases e1
    · rename_i h3 q2
      try rw [q2]
      cases e1
      rfl
    · cases e1
  · cases e1
theorem lcL_pure {gs : List (Nat × O)} {g : Gt} {t : Ev → Hm → R Bool} {e : Ev → Hm → R D} {env : Ev} {h : Hm} (hg : gdOk gs h = true) {α : Type} (f : α → D) (y : α → Option D) : ∀ (xs : List α), (∀ a ∈ xs, lcTurn g t e env (f a) h = .ok (y a) h) → lcL gs g t e env (xs.map f) h = .ok (xs.filterMap y) h
  | [], _ => by simp [lcL, hg]
  | a :: xs, H => by
    have ih := lcL_pure hg f y xs fun b hb => H b (List.mem_cons_of_mem _ hb)
    rw [List.map_cons, lcL_cons hg (H a List.mem_cons_self), ih]
    cases q : y a with
    | none => rw [List.filterMap_cons_none q] <;> rfl
    | some z => rw [List.filterMap_cons_some q] <;> rfl
/-- [roll(dice, many) for t in ..] -/
theorem rolls_lc {i t : Nat} {many : Int} {env : Ev} (ht : t ≠ 1) (he : env[1]? = some (some (.ref i))) (m1 : 0 < many) (m2 : many < 1073741824) : ∀ (ds : List D) (h : Hm), IsDice h i → ∃ (vs : List Int) (h' : Hm), lcL [] (gN t) tYesM (mCallF 2 f_roll (mCons (mVar 1) (mCons (mC (.int many)) mNil))) env ds h = .ok (vs.map D.int) h' ∧ (∀ v ∈ vs, 0 ≤ v ∧ v < many) ∧ vs.length = ds.length ∧ IsDice h' i ∧ h'.length = h.length ∧ Fr i h h'
  | [], h, di => ⟨[], h, by simp [lcL, gdOk], fun v hv => (by cases hv), rfl, di, rfl, Fr.refl⟩
  | d :: ds, h, di => by
    obtain ⟨v, h1, v1, v2, run, d1, l1, f1⟩ := roll_fr di m1 m2
    obtain ⟨vs, h2, run2, b2, len2, d2, l2, f2⟩ := rolls_lc ht he m1 m2 ds h1 d1
    refine ⟨v :: vs, h2, ?_, fun u hu => ?_, by rw [List.length_cons, List.length_cons, len2], d2, l2.trans l1, f1.trans f2⟩
    · have e2 : (env.set t (some d))[1]? = some (some (.ref i)) := by rw [List.getElem?_set_ne ht]; exact he
      have tn : lcTurn (gN t) tYesM (mCallF 2 f_roll (mCons (mVar 1) (mCons (mC (.int many)) mNil))) env d h = .ok (some (.int v)) h1 := by
        simp [lcTurn, e2, run]
      rw [lcL_cons (by simp [gdOk]) tn, run2]
      rfl
    · rcases List.mem_cons.mp hu with rfl | hu
      · exact ⟨v1, v2⟩
      · exact b2 u hu
theorem fNe_t2 {h : Hm} {a b c e : Int} : fNe (.tup [.int a, .int b]) (.tup [.int c, .int e]) h = .ok (.bl (!(a == c && b == e))) h := by
  unfold fNe
  rw [if_neg (by show ¬ (false = true); simp)]
  simp [py, mapO, PyData.eqv, PyData.eqvAll]
theorem sm62_of {v : Int} (h1 : 0 ≤ v) (h2 : v < 1000000000) : sm62 v = true := by
  unfold sm62
  rw [decide_eq_true_eq]
  omega
theorem rng1_nat (n : Nat) : rng1 0 n = (List.range n).map fun k : Nat => D.int (0 + (k : Int)) := rfl
theorem rng1_len (lo : Int) (n : Nat) : (rng1 lo n).length = n := by simp [rng1]
theorem keep_app {h g : Hm} {r : Nat} {o : O} (e : h[r]? = some o) : (h ++ g)[r]? = some o := by
  rw [List.getElem?_append_left (List.getElem?_eq_some_iff.mp e).1]
  exact e
theorem IsDice.app {h g : Hm} {i : Nat} (d : IsDice h i) : IsDice (h ++ g) i := by
  obtain ⟨a, b, m, e⟩ := d
  exact ⟨a, b, m, keep_app e⟩
theorem IsDice.set {h : Hm} {i n : Nat} {o : O} (d : IsDice h i) (ne : n ≠ i) : IsDice (h.set n o) i := by
  obtain ⟨a, b, m, e⟩ := d
  exact ⟨a, b, m, by rw [List.getElem?_set_ne ne]; exact e⟩
theorem IsDice.lt {h : Hm} {i : Nat} (d : IsDice h i) : i < h.length := by
  obtain ⟨a, b, m, e⟩ := d
  exact (List.getElem?_eq_some_iff.mp e).1
theorem Fr.hi {i n : Nat} {h h' : Hm} {o : O} (f : Fr i h h') (hn : h.length ≤ n) : Fr i h (h'.set n o) := ⟨by rw [List.length_set]; exact f.1, fun j hj ne => by rw [List.getElem?_set_ne (by omega)]; exact f.2 j hj ne⟩
theorem Fr.app2 {i : Nat} {h h' g : Hm} (f : Fr i h h') : Fr i h (h' ++ g) := f.trans Fr.app
theorem get_new {h : Hm} {o : O} : (h ++ [o])[h.length]? = some o := by
  rw [List.getElem?_append_right (Nat.le_refl _), Nat.sub_self]
  rfl
theorem seq_next {sa sb : Ev → Hm → SR} {env e1 : Ev} {h h1 : Hm} {r : SR} (a : sa env h = .next e1 h1) (b : sb e1 h1 = r) : sSeq sa sb env h = r := by
  rw [run_seq, a]
  exact b
theorem lcL_grow {gs : List (Nat × O)} {g : Gt} {t : Ev → Hm → R Bool} {e : Ev → Hm → R D} {env : Ev} {h : Hm} (hg : ∀ w : Hm, gdOk gs (h ++ w) = true) {α : Type} (f : α → D) (y : α → Option D) : ∀ (xs : List α) (w : Hm), (∀ a ∈ xs, ∀ w : Hm, ∃ w' : Hm, lcTurn g t e env (f a) (h ++ w) = .ok (y a) (h ++ (w ++ w'))) → ∃ w' : Hm, lcL gs g t e env (xs.map f) (h ++ w) = .ok (xs.filterMap y) (h ++ (w ++ w'))
  | [], w, _ => ⟨[], by simp [lcL, hg w]⟩
  | a :: xs, w, H => by
    obtain ⟨w1, e1⟩ := H a List.mem_cons_self w
    obtain ⟨w2, e2⟩ := lcL_grow hg f y xs (w ++ w1) fun b hb => H b (List.mem_cons_of_mem _ hb)
    refine ⟨w1 ++ w2, ?_⟩
    rw [List.map_cons, lcL_cons (hg w) e1, e2]
    cases q : y a with
    | none => rw [List.filterMap_cons_none q, List.append_assoc] <;> rfl
    | some z => rw [List.filterMap_cons_some q, List.append_assoc] <;> rfl
theorem fSl_lst {h : Hm} {r : Nat} {ds : List D} (e : h[r]? = some (.lst ds)) (lo hi : Option Int) : fSl (.ref r) lo hi h = .ok (.ref h.length) (h ++ [.lst (cutD ds lo hi)]) := by
  unfold fSl
  simp only [e]
theorem sIx_nat {n k : Nat} (d : Nat) (hk : k ≤ n) : HT.sIx n d (some (k : Int)) = k := by
  unfold HT.sIx
  simp only
  split <;> omega
theorem cutD_nat {ds : List D} {a b : Nat} (h1 : a ≤ ds.length) (h2 : b ≤ ds.length) : cutD ds (some (a : Int)) (some (b : Int)) = (ds.drop a).take (b - a) := by
  unfold cutD
  rw [sIx_nat _ h1, sIx_nat _ h2]
theorem cutD_to {ds : List D} {b : Nat} (h2 : b ≤ ds.length) : cutD ds none (some (b : Int)) = ds.take b := by
  unfold cutD
  rw [sIx_nat _ h2]
  rfl
theorem fEq_nilD {h : Hm} {i j : Nat} {ds : List D} (hd : ∀ n : Nat, ∃ qs, mapO (py h (n + 1)) ds = some qs) (e : h[i]? = some (.lst ds)) (e2 : h[j]? = some (.lst [])) : fEq (.ref i) (.ref j) h = .ok (.bl ds.isEmpty) h := by
  obtain ⟨qs, q⟩ := hd 58
  unfold fEq
  rw [if_neg (by show ¬ (false = true); simp), py_ref e, py_ref e2, q]
  cases ds with
  | nil => cases q; rfl
  | cons a l =>
    cases qs with
    | nil =>
      unfold mapO at q
      split at q
      · split at q <;> cases q
      · cases q
    | cons b m => rfl
theorem lim_lt {n : Nat} (h : n ≤ 1000) : n < 16777216 := Nat.lt_of_le_of_lt h (by decide)
theorem lc_a {vs : List Nat} {m : Ev → Hm → R Itr} {g : Gt} {t : Ev → Hm → R Bool} {e : Ev → Hm → R D} {env : Ev} {h h1 h2 : Hm} {it : Itr} {ys : List D} (a : m env h = .ok it h1) (hl : it.1.length ≤ 16777216) (b : lcL it.2 g t e (wipeE env vs) it.1 h1 = .ok ys h2) : mLc vs m g t e env h = .ok (.ref h2.length) (h2 ++ [.lst ys]) := by
  rw [run_lc, a, bind_ok, if_pos hl, b]
theorem lim_le {n : Nat} (h : n ≤ 1000) : n ≤ 16777216 := Nat.le_trans h (by decide)
/-- a comprehension's run, put together -/
theorem lc_run {vs : List Nat} {m : Ev → Hm → R Itr} {g : Gt} {t : Ev → Hm → R Bool} {e : Ev → Hm → R D} {env : Ev} {h h1 h2 : Hm} {it : Itr} {ds ys : List D} {gs : List (Nat × O)} (a : m env h = .ok it h1) (hl : ds.length ≤ 1000) (b : lcL gs g t e (wipeE env vs) ds h1 = .ok ys h2) (e1 : it.1 = ds := by rfl) (e2 : it.2 = gs := by rfl) : mLc vs m g t e env h = .ok (.ref h2.length) (h2 ++ [.lst ys]) :=
  lc_a a (lim_le (by rw [e1]; exact hl)) (by rw [e1, e2]; exact b)
theorem rg1_runv {r : Ev → Hm → R (List D)} {env : Ev} {h h1 : Hm} {v : Int} (a : r env h = .ok [.int v] h1) (s : sm62 v = true) : mRg1 r env h = .ok (rng1 0 v.toNat, []) h1 := by
  rw [run_rg1, a, bind_ok]
  exact if_pos s
theorem rg1_run {r : Ev → Hm → R (List D)} {env : Ev} {h h1 : Hm} {n : Nat} (a : r env h = .ok [.int (n : Int)] h1) (hn : n ≤ 1000) : mRg1 r env h = .ok ((List.range n).map (fun k : Nat => D.int (0 + (k : Int))), []) h1 := by
  have q : ∀ v : Int, v = (n : Int) → r env h = .ok [.int v] h1 → mRg1 r env h = .ok ((List.range n).map (fun k : Nat => D.int (0 + (k : Int))), []) h1 := fun v e a => by
    have s : sm62 v = true := sm62_of (by omega) (by omega)
    have t : v.toNat = n := by omega
    rw [rg1_runv a s, t, rng1_nat]
  exact q _ rfl a
theorem asg_run {i : Nat} {m : Ev → Hm → R D} {env : Ev} {h h1 : Hm} {d : D} (a : m env h = .ok d h1) : sAsg (gN i) m env h = .next (env.set i (some d)) h1 := by
  rw [run_asg, a]
  rfl
/-- one turn of a loop that goes on -/
theorem forL_next {gs : List (Nat × O)} {g : Gt} {b : Ev → Hm → SR} {d : D} {ds : List D} {env e1 e2 : Ev} {h h1 h2 : Hm} {r : SR} (hg : gdOk gs h = true) (a : g d env h = .next e1 h1) (w : b e1 h1 = .next e2 h2) (k : forL gs g b ds e2 h2 = r) : forL gs g b (d :: ds) env h = r := by
  rw [forL, if_pos hg, a, only_next]
  simp only
  rw [w]
  exact k
theorem forL_nil {gs : List (Nat × O)} {g : Gt} {b : Ev → Hm → SR} {env : Ev} {h : Hm} (hg : gdOk gs h = true) : forL gs g b [] env h = .next env h := by
  rw [forL, if_pos hg]
theorem gdOk_nil {h : Hm} : gdOk [] h = true := rfl
theorem gdOk_one {h : Hm} {r : Nat} {o : O} (e : h[r]? = some o) : gdOk [(r, o)] h = true := by
  simp [gdOk, e]
theorem fIx_zero {h : Hm} {r : Nat} {d : D} {ds : List D} (e : h[r]? = some (.lst (d :: ds))) : fIx (.ref r) (.int 0) h = .ok d h := fIx_lst (j := 0) e rfl
theorem fPop_at {h : Hm} {r j : Nat} {ds : List D} {x : D} (e : h[r]? = some (.lst ds)) (e2 : ds[j]? = some x) (hl : ds.length ≤ 1000) : fPop (.ref r) [.int (j : Int)] h = .ok x (h.set r (.lst (ds.eraseIdx j))) := by
  have hj : j < ds.length := (List.getElem?_eq_some_iff.mp e2).1
  unfold fPop
  simp only [e, ixN_nat hj, e2, if_pos (lim_le hl)]
theorem fNe_nil {h : Hm} {i j : Nat} {cs : List Int} (e : h[i]? = some (.lst (cs.map D.int))) (e2 : h[j]? = some (.lst [])) : fNe (.ref i) (.ref j) h = .ok (.bl (!cs.isEmpty)) h := by
  unfold fNe
  rw [if_neg (by show ¬ (false = true); simp), py_ref e, py_ref e2, py_ints]
  cases cs <;> rfl
theorem seq_ret {sa sb : Ev → Hm → SR} {env : Ev} {h h1 : Hm} {d : D} (a : sa env h = .ret d h1) : sSeq sa sb env h = .ret d h1 := by
  rw [run_seq, a]
  rfl
theorem fNe_same {h : Hm} {i j : Nat} {ds : List D} {qs : List PyData} (q : mapO (py h 59) ds = some qs) (ok : PyData.canLay0 (.list qs) = true) (e : h[i]? = some (.lst ds)) (e2 : h[j]? = some (.lst ds)) : fNe (.ref i) (.ref j) h = .ok (.bl false) h := by
  have p1 : py h 60 (.ref i) = some (.list qs) := by rw [py_ref e, q]; rfl
  have p2 : py h 60 (.ref j) = some (.list qs) := by rw [py_ref e2, q]; rfl
  unfold fNe
  rw [if_neg (by show ¬ (false = true); simp), p1, p2]
  show R.ok (D.bl (!PyData.eqv (.list qs) (.list qs))) h = _
  rw [SeqAt.eqv_refl _ ok]
  rfl
end MM

namespace MM
open PySem L2

def tellL : List (Str × Str) → Str → Option Str
  | [], _ => none
  | (c, t) :: r, x => if x = c then some t else tellL r x
def mTold (cs : List (Str × Str)) (m : Ev → Hm → R D) : Ev → Hm → R D := fun env h => match m env h with
  | .exn x h1 => match tellL cs x.cls with
    | some t => .ok (.str t) h1
    | none => .bad
  | r => r
/-- what the clauses wish -/
def chainW (K : PySem.W.Frag) (Q : VK) : List (Value × Str) → Value → Hp → Prop
  | [], _, _ => False
  | (c, t) :: r, cls, H => ∃ b, PySem.W.exmOne K cls c = some b ∧ (b = true → Q (.str t) H) ∧ (b = false → chainW K Q r cls H)
def TToldM (K : PySem.W.Frag) (l : List (Value × Str)) : (XK → Hp → VK → Prop) → Hp → VK → Prop := fun tl H Q => tl (fun cls _ H' => chainW K Q l cls H') H Q
inductive Hds (mg : Str → Option Value) (sg : Scope) : List ExceptHandler → List (Value × Str) → Prop
  | nil : Hds mg sg [] []
  | cons {e ret : Str} {j : Nat} {p4 p5 p6 p7 : Pos} {CS : Addr} {hds : List ExceptHandler} {l : List (Value × Str)} (hge : sg.names.lookup e = some .globalImplicit) (hme : mg e = some (.ref CS)) (hde : (e == ("__debug__" : Str)) = false) (r : Hds mg sg hds l) :
      Hds mg sg (.ExceptHandler (some (.Name e p4)) none [.Return (some (.Constant (.str ret) j p5)) p6] p7 :: hds) ((.ref CS, ret) :: l)
def retT (ret : Str) : TS := fun D _ H => D.rt (.str ret) H
def hdsT (l : List (Value × Str)) : List (Value × (Addr → Value → Option Addr → TS)) := l.map fun p => (p.1, fun _ _ _ => retT p.2)
theorem hds_ok {X : Cx} {sg : Scope} (hs : X.env.scope = sg) {hds : List ExceptHandler} {l : List (Value × Str)} (h : Hds X.mg sg hds l) : HdsOk X hds (hdsT l) := by
  induction h with
  | nil => exact .nil
  | cons hge hme hde r ih =>
    refine HdsOk.cons ⟨?_, hde, .inl hme⟩ (fun a oe cls d pn _ _ => PSs.of (pss_one (ps_ret pe_str)) fun D σ H h => h) ih
    show X.env.scope.names.lookup _ = _
    rw [hs]
    exact hge
theorem wMany_of {K : PySem.W.Frag} {Wout : WX} {D : Ends} {cls : Value} {d : Option Addr} {σ : L2.St} {H : Hp} : ∀ {l : List (Value × Str)}, chainW K D.rt l cls H → wMany K Wout D (hdsT l) cls d σ H
  | [], h => h.elim
  | (c, t) :: r, ⟨b, e1, e2, e3⟩ => ⟨b, e1, fun hb _ _ => e2 hb, fun hb => wMany_of (e3 hb)⟩
theorem toldM_gives {X : Cx} {Ng : List Str} {x a q : Str} {sg : Scope} {g : Addr} {cdg : Value} {h₀ : ExceptHandler} {hds : List ExceptHandler} {l : List (Value × Str)} {p1 p2 p3 p8 : Pos} (hd : Hds X.mg sg (h₀ :: hds) l) (h0 : ∀ f : Addr, (L2.start Ng [V.ref f])[0]? = some (some (V.ref f))) :
    LamX.GivesTo X Ng x sg g cdg [.Try [.Return (some (.Call (.Name a p1) [] [] p2)) p3] (h₀ :: hds) [] [] p8] a q (TToldM X.K l) := by
  intro f c' s H Q tl act hc h
  refine ⟨_, pss_one (ps_try_many (X := (cxOf C8.CX0 X.prog X.w X.K X.mg X.base Ng x sg g cdg X.A X.stack s H C8.E0).nox)
      (tb := fun W D σ H => ∃ Ech : XK, (∀ cls d σ' H', Ech cls d H' → W cls d σ' H') ∧ σ[0]? = some (some (.ref f)) ∧ H c' = some (LamX.CodeO c' q) ∧ tl Ech H D.rt)
      rfl rfl LamX.takes0 (fun W pn xe tk _ => ?_) (hds_ok rfl hd)), ?_⟩
  · refine ⟨fun pins s' σ H' D I h' => ?_⟩
    obtain ⟨Ech, hW, h1, h2, h3⟩ := h'
    have hp := act W pn xe Ech p1 p2 tk hW
    have hq := pss_one (ps_ret (pos := p3) hp)
    exact hq.run pins s' σ H' D I ⟨h1, h2, h3⟩
  · exact ⟨fun cls _ H' => chainW X.K Q l cls H', fun cls d σ' H' z => wMany_of z, h0 f, hc, h⟩
/-- the def that tells -/
def ToldOk (K : PySem.W.Frag) (mg : Str → Option Value) (x : Str) (g : Addr) (cs : List (Str × Str)) : Prop :=
  ∃ (a : Str) (pg : Arguments) (p1 p2 p3 p8 : Pos) (h₀ : ExceptHandler) (hds : List ExceptHandler) (sg : Scope) (Ng : List Str) (l : List (Value × Str)) (fd : FuncData),
    FunD K x x pg [.Try [.Return (some (.Call (.Name a p1) [] [] p2)) p3] (h₀ :: hds) [] [] p8] sg [] [] g fd ∧ Binds K fd [a] [] ∧ FnScope Ng [a] sg ∧ Ng[0]? = some a ∧ Vis sg a ∧ Hds mg sg (h₀ :: hds) l ∧ (∀ f : Addr, (L2.start Ng [V.ref f])[0]? = some (some (V.ref f))) ∧
    (∀ c t, tellL cs c = some t → ∀ C, mg c = some (.ref C) → ∀ (Q : VK) (H : Hp), Q (.str t) H → chainW K Q l (.ref C) H) ∧ (a == ("__debug__" : Str)) = false ∧ (a == ("__classdict__" : Str)) = false
/-- the heap goes on, the tables have grown -/
theorem step_extN {G : Gx} {π : List Addr} {H H1 : Hp} {h : Hm} (e : LamX.ExtN H H1) : Step π H π H1 := ⟨⟨[], by simp⟩, fun _ _ _ q _ => q, fun a o h1 _ t => e a o h1 t, fun a o u h1 => e a _ h1 fun ps z => by cases z⟩
theorem Good.extN {G : Gx} {π : List Addr} {H H1 : Hp} {h : Hm} (g : Good G π h H) (e : LamX.ExtN H H1) (t : LamX.Tabs G.T H1) : Good G π h H1 := by
  refine ⟨g.len, g.nd, fun i a o e1 e2 => ?_, t, g.tout⟩
  have w := g.ob i a o e1 e2
  refine w.step (step_extN (G := G) (h := h) e) ?_
  cases o with
  | lst ds => obtain ⟨xs, z, _⟩ := w; rw [z]; exact e _ _ z (fun ps z => by cases z)
  | dic ds => obtain ⟨xs, z, _⟩ := w; rw [z]; exact e _ _ z (fun ps z => by cases z)
  | dicL ds => obtain ⟨o, xs, z, _⟩ := w; rw [z]; exact e _ _ z (fun ps z => by cases z)
  | ins c fs => obtain ⟨C, dx, xs, _, z, _⟩ := w; rw [z]; exact e _ _ z (fun ps z => by cases z)
section
variable {X : Cx} {T : List (Addr × Str)} {W : WX} {c P g : Addr} {x : Str} {cs : List (Str × Str)} {params : Arguments} {body : Expr} {scope : Scope} {p lpos pos : Pos} {k kx : Nat} {m : Ev → Hm → R D}
theorem em_told (hT : ToldOk X.K X.mg x g cs) (hg : Gl X x) (hm : X.mg x = some (.ref g)) (TB : LamX.TabB X.base X.mg c P) (hcode : X.env.code = .ref c) (hmT : (P, X.env.qual ++ "<lambda>") ∈ T) (hu : ∀ p ∈ T, p.1 = P → p.2 = X.env.qual ++ "<lambda>") (hr : Room kx X.A) (hk : k + 2 ≤ kx)
    (hbody : ∀ (A : Around) (outer : List Env) (s : Shared) (H : Hp) (E : XK) (f c' : Addr), Room k (LamX.lamCx X A outer s H E scope f c').A → Takes (LamX.lamCx X A outer s H E scope f c') (fun cls d _ H' => E cls d H') → Em (LamX.lamCx X A outer s H E scope f c') T (fun cls d _ H' => E cls d H') body m)
    (L : LamX.LamS X.env.scope scope := by exact LamX.lamS_by rfl) (hdef : defaultsOf params X.env = ([], []) := by rfl)
    (hbind : ∀ (q : Str) (cl : List (Str × Addr)) (pm cv ctv : Value), bindArgs (PySem.W.kla_fn "<lambda>" q params body scope cl pm cv ctv) ⟨[], []⟩ = pure [] := by intros; rfl)
    (hdb : (x == ("__debug__" : Str)) = false := by decide) : Em X T W (.Call (.Name x p) [.Lambda params body scope lpos] [] pos) (mTold cs m) := by
  obtain ⟨a, pg, p1, p2, p3, p8, h₀, hds, sg, Ng, l, fd, F, hb, Sg, hNg, hva, hd, h0, hcs, hd1, hd2⟩ := hT
  obtain ⟨oc, od, dV, kV, doc, pm, an, cdv, ct, osl, rfl, lk, hcd, _, _⟩ := F.ex
  refine PE.of (LamX.pe_lamcall (t := fun E => tE (gx X T) (fun cls d _ H' => E cls d H') m) hg hm F.kp lk hcd hb Sg hNg hva (toldM_gives hd h0) TB hcode hmT hu (hr.mono hk) L hdef hbind (fun A outer s H E f c' hr2 => hbody A outer s H E f c' hr2 (takes_of rfl rfl rfl rfl)) hdb hd1 hd2) fun σ H Q ⟨π, env, h, s, q⟩ => ⟨s.good.tabs, fun H1 eN T1 => ?_⟩
  have st : Step π H π H1 := step_extN (G := gx X T) (h := h) eN
  refine ⟨π, env, h, ⟨s.good.extN eN T1, s.env.step st⟩, ?_⟩
  unfold mTold at q
  generalize m env h = r at q ⊢
  cases r with
  | ok d h' => exact fun π' H' s' g' => q π' H' (st.trans s') g'
  | exn y h' =>
    simp only at q
    cases ht : tellL cs y.cls with
    | none => rw [ht] at q; exact q.elim
    | some t =>
      rw [ht] at q
      intro π' H' cls d s' g' e
      obtain ⟨C, hC, rfl, _⟩ := e
      exact hcs _ _ ht C hC Q H' (q π' H' (st.trans s') g' _ rfl)
  | bad => exact q.elim
end
section
variable {P : Program} {w : World} {K : PySem.W.Frag} {mg : Str → Option Value} {base : Heap} {T : List (Addr × Str)}
/-- a def whose code object is looked at -/
theorem def_mT {x qual : Str} {params : Arguments} {body : List Stmt} {scope : Scope} {p : He.Defn} {fd : FuncData} {N ps : List Str} {k : Nat} {m : Ev → Hm → SR} (F : FunD K x qual params body scope [] [] (He.fAd K p) fd) (S : FnScope N ps scope)
    (hb : ∀ (kV doc pm : Value) (an : Option Addr) (cdv ct : Value) (us : List Value), us.length = ps.length → bindArgs (PySem.W.fnOf x qual params body scope .none kV doc pm an cdv ct) ⟨us, []⟩ = pure (ps.zip us))
    (hbody : ∀ (cdv : Value) (hcd : cdv = .ref (He.cT K p).1) (A : Around) (outer : List Env) (s : Shared) (H : Hp) (E : XK), Room k (cxOf (L2.CX P w) P w K mg base N qual scope (He.fAd K p) cdv A outer s H E).A → Takes (cxOf (L2.CX P w) P w K mg base N qual scope (He.fAd K p) cdv A outer s H E) (fun cls d _ H' => E cls d H') →
      PassesOwn (model P w) (cxOf (L2.CX P w) P w K mg base N qual scope (He.fAd K p) cdv A outer s H E).A (cxOf (L2.CX P w) P w K mg base N qual scope (He.fAd K p) cdv A outer s H E).env (cxOf (L2.CX P w) P w K mg base N qual scope (He.fAd K p) cdv A outer s H E).xe →
      Ssm (cxOf (L2.CX P w) P w K mg base N qual scope (He.fAd K p) cdv A outer s H E) T (fun cls d _ H' => E cls d H') body m) :
    FunM P w K mg base T (k + 1) (He.fAd K p) ps.length (callM N.length ps.length m) := by
  refine ⟨⟨fd, ps, rfl, ?_, F.bindsN hb⟩, F.kp⟩
  obtain ⟨oc, od, dV, kV, doc, pm, an, cdv, ct, osl, rfl, lk, hcd, _, _⟩ := F.ex
  obtain ⟨cc, rfl⟩ := He.codeIn_ref hcd
  refine fn_of lk hcd S (fun vs H Q E ⟨π, h, ds, g, q, hl, _⟩ => by rw [q.len]; exact hl) fun A outer s H vs Q E hr ⟨π, h, ds, g, q, hl, p⟩ => ⟨_, hbody _ ?_ A outer s H E hr (takes_of rfl rfl rfl rfl) (passes_of rfl), ?_⟩
  · exact congrArg Value.ref (He.codeOf_eq lk rfl).symm
  · exact ⟨π, startE N.length ds, h, ⟨g, envOk_start q⟩, postS_fn p⟩
theorem def_okT {x qual : Str} {params : Arguments} {body : List Stmt} {scope : Scope} {p : He.Defn} {fd : FuncData} {N ps : List Str} {k : Nat} {m : Ev → Hm → SR} (F : FunD K x qual params body scope [] [] (He.fAd K p) fd) (S : FnScope N ps scope)
    (hbody : ∀ (cdv : Value) (hcd : cdv = .ref (He.cT K p).1) (A : Around) (outer : List Env) (s : Shared) (H : Hp) (E : XK), Room k (cxOf (L2.CX P w) P w K mg base N qual scope (He.fAd K p) cdv A outer s H E).A → Takes (cxOf (L2.CX P w) P w K mg base N qual scope (He.fAd K p) cdv A outer s H E) (fun cls d _ H' => E cls d H') →
      PassesOwn (model P w) (cxOf (L2.CX P w) P w K mg base N qual scope (He.fAd K p) cdv A outer s H E).A (cxOf (L2.CX P w) P w K mg base N qual scope (He.fAd K p) cdv A outer s H E).env (cxOf (L2.CX P w) P w K mg base N qual scope (He.fAd K p) cdv A outer s H E).xe →
      Ssm (cxOf (L2.CX P w) P w K mg base N qual scope (He.fAd K p) cdv A outer s H E) T (fun cls d _ H' => E cls d H') body m) :
    FnOk P w K mg base (L2.CX P w) (k + 1) (He.fAd K p) fd ps (spM ⟨K, mg, T⟩ (callM N.length ps.length m) ps.length) := by
  obtain ⟨oc, od, dV, kV, doc, pm, an, cdv, ct, osl, rfl, lk, hcd, _, _⟩ := F.ex
  obtain ⟨cc, rfl⟩ := He.codeIn_ref hcd
  refine fn_of lk hcd S (fun vs H Q E ⟨π, h, ds, g, q, hl, _⟩ => by rw [q.len]; exact hl) fun A outer s H vs Q E hr ⟨π, h, ds, g, q, hl, p⟩ => ⟨_, hbody _ ?_ A outer s H E hr (takes_of rfl rfl rfl rfl) (passes_of rfl), ?_⟩
  · exact congrArg Value.ref (He.codeOf_eq lk rfl).symm
  · exact ⟨π, startE N.length ds, h, ⟨g, envOk_start q⟩, postS_fn p⟩
/-- the tables' addresses and names -/
def tabT (K : PySem.W.Frag) (tf : List (He.Defn × Str)) : List (Addr × Str) := tf.map fun p => ((He.cT K p.1).2, p.2)
def tabNd (K : PySem.W.Frag) (tf : List (He.Defn × Str)) : Bool := decide ((tf.map fun p => (He.cT K p.1).2).Nodup)
theorem tab_mem {tf : List (He.Defn × Str)} {p : He.Defn × Str} (h : p ∈ tf) : ((He.cT K p.1).2, p.2) ∈ tabT K tf := List.mem_map.mpr ⟨p, h, rfl⟩
theorem tab_uniq {tf : List (He.Defn × Str)} (nd : tabNd K tf = true) {p : He.Defn × Str} (h : p ∈ tf) : ∀ q ∈ tabT K tf, q.1 = (He.cT K p.1).2 → q.2 = p.2 := fun q hq e => by
  obtain ⟨r, hr, rfl⟩ := List.mem_map.mp hq
  have nd' := of_decide_eq_true nd
  obtain ⟨i, hi, e1⟩ := List.mem_iff_getElem.mp h
  obtain ⟨j, hj, e2⟩ := List.mem_iff_getElem.mp hr
  have e3 : (tf.map fun p => (He.cT K p.1).2)[j]? = some (He.cT K p.1).2 := by
    rw [List.getElem?_map, List.getElem?_eq_getElem hj, e2]
    exact congrArg some e
  have e4 : (tf.map fun p => (He.cT K p.1).2)[i]? = some (He.cT K p.1).2 := by
    rw [List.getElem?_map, List.getElem?_eq_getElem hi, e1] <;> rfl
  have := nodup_ix' nd' e3 e4
  subst this
  rw [e1] at e2
  rw [← e2]
/-- the law with tables -/
theorem sp_lawT {G : Gx} {f : Fc} {n : Nat} (pl : PlainLaw f n) {ns : List Int} {a : Addr} {H : Hp} (hT : ∀ p ∈ G.T, H p.1 = some (.tbl #[])) (hl : ns.length ≤ n) (hS : SqL G.K H a (ns.map V.int)) : spM G f 1 [.ref a] H (fun v _ => v = .bl true) fun _ _ _ => False := by
  have go : ∀ π d h, Good G π h H → DV G.K π H d (.ref a) → Scr ns d h → spM G f 1 [.ref a] H (fun v _ => v = .bl true) fun _ _ _ => False := fun π d h g dv sc => by
    obtain ⟨h', e⟩ := pl ns d h hl sc
    refine ⟨π, h, [d], g, ⟨_, _, rfl, dv, rfl⟩, rfl, ?_⟩
    rw [e]
    intro π' H' s g' v e'
    exact e'
  have tb : LamX.Tabs G.T H := fun p hp => LamX.TabS.nil (hT p hp)
  have g0 : Good G [] [] H := ⟨rfl, List.nodup_nil, fun i a o e => (by cases e), tb, fun p hp => by simp⟩
  have g1 : H a = some (.lst (ns.map V.int)) → Good G [a] [.lst (ns.map D.int)] H := fun e => by
    refine ⟨rfl, by simp, fun i b o e1 e2 => ?_, tb, fun p hp m => ?_⟩
    · cases i with
      | zero =>
        cases e1
        cases e2
        exact ⟨_, e, DVs.ofInts⟩
      | succ i => cases e1
    · rw [List.mem_singleton] at m
      have := hT p hp
      rw [m, e] at this
      cases this
  rcases hS with (h | ⟨o, h⟩) | h
  · exact go [a] (.ref 0) [.lst (ns.map D.int)] (g1 h) ⟨a, rfl, rfl⟩ (.inr ⟨rfl, rfl⟩)
  · exact go [] (.rol (ns.map D.int)) [] g0 ⟨a, _, rfl, .inl ⟨o, h, by simp⟩, DVs.ofInts⟩ (.inl ⟨rfl, rfl⟩)
  · exact go [] (.rol (ns.map D.int)) [] g0 ⟨a, _, rfl, .inr h, DVs.ofInts⟩ (.inl ⟨rfl, rfl⟩)
theorem lawAtT {l : PySem.W.OpenLaw} {w : World} {K : PySem.W.Frag} {k n : Nat} {mg : Str → Option Value} {fa : Addr} {h : Heap} {f : Fc} {x qual : Str} {params : Arguments} {body : List Stmt} {scope : Scope} {fd : FuncData} {tf : List (He.Defn × Str)}
    (KX : K.In h) (hd : ∀ p ∈ tf.map (·.1), PySem.W.codeHdIn K (He.cT K p).1 (He.cT K p).2 = true) (out : ∀ p ∈ tf.map (·.1), K.lookup (He.cT K p).2 = none) (empty : ∀ p ∈ tf.map (·.1), h.get? (He.cT K p).2 = some { cls := .none, data := .fields #[] })
    (F : FunD K x qual params body scope [] [] fa fd) (hb : ∀ (kV doc pm : Value) (an : Option Addr) (cdv ct : Value) (us : List Value), us.length = (["script"] : List Str).length → bindArgs (PySem.W.fnOf x qual params body scope .none kV doc pm an cdv ct) ⟨us, []⟩ = pure ((["script"] : List Str).zip us))
    (pl : PlainLaw f n) (ok : ∀ base : Heap, K.In base → base.Ns mainGlobals mg → (∀ p ∈ tf, LamX.TabB base mg (He.cT K p.1).1 (He.cT K p.1).2) → FnOk l.prog w K mg base (L2.CX l.prog w) k fa fd ["script"] (spM ⟨K, mg, tabT K tf⟩ f 1)) : LamX.LawAtS l w K (L2.CX l.prog w) k n "script" mg fa h := by
  have b := FunD.bindsA (ps := ["script"]) F hb
  refine ⟨fd, tf.map fun p => He.cT K p.1, spM ⟨K, mg, tabT K tf⟩ f 1, fun p hp => ?_, fun p hp => ?_, fun p hp => ?_, fun s v => b s [v] rfl, fun H a ns hl _ hT hS => sp_lawT pl (fun p hp => ?_) hl hS, fun base h1 h2 h3 => ok base h1 h2 fun p hp => h3 _ (List.mem_map.mpr ⟨p, hp, rfl⟩)⟩
  · obtain ⟨q, hq, rfl⟩ := List.mem_map.mp hp
    exact empty _ (List.mem_map.mpr ⟨q, hq, rfl⟩)
  · obtain ⟨q, hq, rfl⟩ := List.mem_map.mp hp
    exact out _ (List.mem_map.mpr ⟨q, hq, rfl⟩)
  · obtain ⟨q, hq, rfl⟩ := List.mem_map.mp hp
    exact PySem.W.codeHd_of_K KX (hd _ (List.mem_map.mpr ⟨q, hq, rfl⟩))
  · obtain ⟨q, hq, rfl⟩ := List.mem_map.mp hp
    exact hT _ (List.mem_map.mpr ⟨q, hq, rfl⟩)
end
def tyN (h : Hm) : D → Option String
  | .non => some "NoneType"
  | .bl _ => some "bool"
  | .int _ => some "int"
  | .str _ => some "str"
  | .tup _ => some "tuple"
  | .rol _ => some "list"
  | .ref i => match h[i]? with
    | some (.lst _) => some "list"
    | some (.dic _) => some "dict"
    | _ => none
theorem tyN_ok {G : Gx} {π : List Addr} {h : Hm} {H : Hp} (g : Good G π h H) {d : D} {x : V} {t : String} (dx : DV G.K π H d x) (e : tyN h d = some t) : TyX G.K H x (.type t) := by
  cases d with
  | non => obtain rfl := (show x = _ from dx); cases e; exact .base .non
  | bl b => obtain rfl := (show x = _ from dx); cases e; exact .base (.bl b)
  | int b => obtain rfl := (show x = _ from dx); cases e; exact .base (.int b)
  | str b => obtain rfl := (show x = _ from dx); cases e; exact .base (.str b)
  | tup ds =>
    obtain ⟨a, xs, rfl, t, q⟩ := dx
    cases e
    rcases t with ⟨t, _⟩ | ⟨o, its, n, e1, e2, _⟩
    · exact .base (.tup t)
    · exact .kTuple e1 e2
  | rol ds =>
    obtain ⟨a, xs, rfl, t, q⟩ := dx
    cases e
    rcases t with ⟨o, t, _⟩ | ⟨o, its, n, e1, e2, _⟩
    · exact .base (.frz t)
    · exact .kList e1 e2
  | ref i =>
    obtain ⟨a, qa, rfl⟩ := dx
    have e' : (match h[i]? with
      | some (.lst _) => some "list"
      | some (.dic _) => some "dict"
      | _ => none) = some t := e
    split at e'
    · rename_i ds e0
      obtain ⟨xs, ha, ds'⟩ := g.lst e0 qa
      cases e'
      exact .base (.lst ha)
    · rename_i kvs e0
      obtain ⟨xs, ha, ds'⟩ := g.obj e0 qa
      cases e'
      exact .base (.dK ha)
    · cases e'
def isB (t n : String) : Bool := decide (t = n) || (decide (t = "bool") && decide (n = "int"))
def fIsi (n : String) (d : D) (h : Hm) : R D := match tyN h d with
  | some t => .ok (.bl (isB t n)) h
  | none => .bad
def mIsi (n : String) (m : Ev → Hm → R D) : Ev → Hm → R D := fun env h => (m env h).bind (fIsi n)
def kitAll (n : String) : Bool := ["NoneType", "bool", "int", "str", "tuple", "list", "dict"].all fun t => decide (kitB t n = some (isB t n))
theorem tyN_in {h : Hm} {d : D} {t : String} (e : tyN h d = some t) : t ∈ ["NoneType", "bool", "int", "str", "tuple", "list", "dict"] := by
  cases d with
  | ref i =>
    have e' : (match h[i]? with
      | some (.lst _) => some "list"
      | some (.dic _) => some "dict"
      | _ => none) = some t := e
    split at e' <;> cases e' <;> simp
  | _ => cases e; simp
theorem em_isi (n : String) {X : Cx} {T : List (Addr × Str)} {W : WX} {e : Expr} {me : Ev → Hm → R D} {c : Str} {pc pp pos : Pos} (hk : kitAll n = true) (hg : Gl X "isinstance") (hm : X.mg "isinstance" = none) (hgc : Gl X c) (hmc : X.mg c = none) (hvc : bootBuiltins c = some (.type n)) (ha : Em X T W e me)
    (hn : c ≠ "__name__" := by decide) (hdb : (c == ("__debug__" : Str)) = false := by decide)
    (he : starEach [e, .Name c pc] X.env = (false, eval e X.env) :: starEach [.Name c pc] X.env := by rfl) : Em X T W (.Call (.Name "isinstance" pp) [e, .Name c pc] [] pos) (mIsi n me) :=
  PE.of (pe_callB call_isi hg hm rfl (pa_cons ha (pa_cons (pe_bltn hgc hmc hvc (v := .ty n) rfl hn hdb) pa_nil rfl) he) (by decide) (by decide) he) fun σ H Q ⟨π, env, h, s, p⟩ => by
    refine ⟨π, env, h, s, p.bind.mono fun π1 H1 h1 d s1 g1 p1 x dx => ?_⟩
    unfold fIsi at p1
    cases q : tyN h1 d with
    | none => rw [q] at p1; exact p1.elim
    | some t =>
      rw [q] at p1
      have k := of_decide_eq_true (List.all_eq_true.mp hk t (tyN_in q))
      exact ⟨x, .ty n, .type t, .type n, isB t n, rfl, .ty n, tyN_ok g1 dx q, kit_ty k, p1 π1 H1 Step.refl g1 _ rfl⟩
theorem em_globI {X : Cx} {T : List (Addr × Str)} {W : WX} {x : Str} {i : Int} {pos : Pos} (hg : Gl X x) (hm : ∃ t, X.mg x = some (.int i t)) (hdb : (x == ("__debug__" : Str)) = false := by rfl) : Em X T W (.Name x pos) (mC (.int i)) := by
  obtain ⟨t, hm⟩ := hm
  exact em_glob (v := .int i) hg hm ⟨t, rfl⟩ (fun _ _ => rfl) hdb
theorem em_globS {X : Cx} {T : List (Addr × Str)} {W : WX} {x z : Str} {pos : Pos} (hg : Gl X x) (hm : ∃ t, X.mg x = some (.str z t)) (hdb : (x == ("__debug__" : Str)) = false := by rfl) : Em X T W (.Name x pos) (mC (.str z)) := by
  obtain ⟨t, hm⟩ := hm
  exact em_glob (v := .str z) hg hm ⟨t, rfl⟩ (fun _ _ => rfl) hdb
end MM

namespace MM
open PySem L2


/-- a call -/
theorem callM_ret {n p : Nat} {m : Ev → Hm → SR} {ds : List D} {h h1 : Hm} {d : D} (hl : ds.length = p) (e : m (startE n ds) h = .ret d h1) : callM n p m ds h = .ok d h1 := by
  unfold callM
  rw [if_pos hl, e]
theorem callM_next {n p : Nat} {m : Ev → Hm → SR} {ds : List D} {h h1 : Hm} {e1 : Ev} (hl : ds.length = p) (e : m (startE n ds) h = .next e1 h1) : callM n p m ds h = .ok .non h1 := by
  unfold callM
  rw [if_pos hl, e]
theorem callM_exn {n p : Nat} {m : Ev → Hm → SR} {ds : List D} {h h1 : Hm} {e1 : Ev} {x : Ex} (hl : ds.length = p) (e : m (startE n ds) h = .exn x e1 h1) : callM n p m ds h = .exn x h1 := by
  unfold callM
  rw [if_pos hl, e]
theorem call_ret {f : Fc} {n p : Nat} {m : Ev → Hm → SR} {ds : List D} {h h1 : Hm} {d : D} (ef : f = callM n p m) (hl : ds.length = p) (e : m (startE n ds) h = .ret d h1) : f ds h = .ok d h1 := by
  rw [ef]
  exact callM_ret hl e
theorem call_next {f : Fc} {n p : Nat} {m : Ev → Hm → SR} {ds : List D} {h h1 : Hm} {e1 : Ev} (ef : f = callM n p m) (hl : ds.length = p) (e : m (startE n ds) h = .next e1 h1) : f ds h = .ok .non h1 := by
  rw [ef]
  exact callM_next hl e
theorem call_exn {f : Fc} {n p : Nat} {m : Ev → Hm → SR} {ds : List D} {h h1 : Hm} {e1 : Ev} {x : Ex} (ef : f = callM n p m) (hl : ds.length = p) (e : m (startE n ds) h = .exn x e1 h1) : f ds h = .exn x h1 := by
  rw [ef]
  exact callM_exn hl e
theorem for_run {m : Ev → Hm → R Itr} {g : Gt} {b : Ev → Hm → SR} {env : Ev} {h h1 : Hm} {it : Itr} {r : SR} {ds : List D} {gs : List (Nat × O)} (a : m env h = .ok it h1) (w : forL gs g b ds env h1 = r) (e1 : it.1 = ds := by rfl) (e2 : it.2 = gs := by rfl) : sFor m g b env h = r := by
  unfold sFor
  rw [a]
  show forL it.2 g b it.1 env h1 = r
  rw [e1, e2]
  exact w
theorem seq_exn {sa sb : Ev → Hm → SR} {env e1 : Ev} {h h1 : Hm} {x : Ex} (a : sa env h = .exn x e1 h1) : sSeq sa sb env h = .exn x e1 h1 := by
  unfold sSeq
  rw [a]
  rfl
theorem told_ok {cs : List (Str × Str)} {m : Ev → Hm → R D} {env : Ev} {h h1 : Hm} {d : D} (a : m env h = .ok d h1) : mTold cs m env h = .ok d h1 := by
  unfold mTold
  rw [a]
theorem told_exn {cs : List (Str × Str)} {m : Ev → Hm → R D} {env : Ev} {h h1 : Hm} {x : Ex} {t : Str} (a : m env h = .exn x h1) (e : tellL cs x.cls = some t) : mTold cs m env h = .ok (.str t) h1 := by
  unfold mTold
  rw [a]
  simp only [e]
theorem rgc_run {n : Nat} {env : Ev} {h : Hm} (hn : n ≤ 1000) : mRg1 (mCons (mC (.int (n : Int))) mNil) env h = .ok ((List.range n).map (fun k : Nat => D.int (0 + (k : Int))), []) h := rg1_run rfl hn
/-- equal data -/
theorem fNe_py {h : Hm} {x y : D} {q : PyData} (a : py h 60 x = some q) (b : py h 60 y = some q) (c : PyData.canLay0 q = true) (f : flat2 x y = false := by rfl) : fNe x y h = .ok (.bl false) h := by
  unfold fNe
  rw [if_neg (by rw [f]; simp), a, b]
  show R.ok (D.bl (!PyData.eqv q q)) h = _
  rw [SeqAt.eqv_refl _ c]
  rfl
theorem fEq_py {h : Hm} {x y : D} {q : PyData} (a : py h 60 x = some q) (b : py h 60 y = some q) (c : PyData.canLay0 q = true) (f : flat2 x y = false := by rfl) : fEq x y h = .ok (.bl true) h := by
  unfold fEq
  rw [if_neg (by rw [f]; simp), a, b]
  show R.ok (D.bl (PyData.eqv q q)) h = _
  rw [SeqAt.eqv_refl _ c]
theorem lay_ints : ∀ l : List Int, PyData.canLayAll0 (l.map PyData.int) = true
  | [] => rfl
  | a :: l => by
    rw [List.map_cons]
    simp only [PyData.canLayAll0, lay_ints l]
    rfl
theorem py_rints {h : Hm} {r : Nat} {l : List Int} (e : h[r]? = some (.lst (l.map D.int))) : py h 60 (.ref r) = some (.list (l.map PyData.int)) := by
  rw [py_ref e, py_ints]
  rfl
theorem py_tints {h : Hm} {l : List Int} : py h 60 (.tup (l.map D.int)) = some (.tuple (l.map PyData.int)) := by
  show (mapO (py h 59) (l.map D.int)).map PyData.tuple = _
  rw [py_ints]
  rfl
theorem fNe_rints {h : Hm} {r s : Nat} {l : List Int} (a : h[r]? = some (.lst (l.map D.int))) (b : h[s]? = some (.lst (l.map D.int))) : fNe (.ref r) (.ref s) h = .ok (.bl false) h :=
  fNe_py (py_rints a) (py_rints b) (by simp only [PyData.canLay0]; exact lay_ints l)
theorem fNe_tints {h : Hm} {l : List Int} : fNe (.tup (l.map D.int)) (.tup (l.map D.int)) h = .ok (.bl false) h :=
  fNe_py py_tints py_tints (by simp only [PyData.canLay0]; exact lay_ints l)
end MM

namespace MM
open PySem L2

def Pu (m : Ev → Hm → R D) (env : Ev) (h : Hm) (P : Hm → D → Prop) : Prop := ∃ d g, m env h = .ok d (h ++ g) ∧ P (h ++ g) d
def Pt (m : Ev → Hm → R Bool) (env : Ev) (h : Hm) (b : Bool) : Prop := ∃ g, m env h = .ok b (h ++ g)
def Ps (m : Ev → Hm → SR) (env : Ev) (h : Hm) (e2 : Ev) : Prop := ∃ g, m env h = .next e2 (h ++ g)
def Is (x : D) : Hm → D → Prop := fun _ d => d = x
def IsL (ds : List D) : Hm → D → Prop := fun h d => ∃ r, d = .ref r ∧ h[r]? = some (.lst ds)
def Mono (P : Hm → D → Prop) : Prop := ∀ h g d, P h d → P (h ++ g) d
theorem mono_is {x : D} : Mono (Is x) := fun _ _ _ h => h
theorem mono_l {ds : List D} : Mono (IsL ds) := fun h g d ⟨r, e, q⟩ => ⟨r, e, keep_app q⟩
section
variable {a b c : Ev → Hm → R D} {env : Ev} {h : Hm} {d x y z : D} {P Q S : Hm → D → Prop} {f : F2} {ds es : List D} {i : Nat}
theorem pu_c : Pu (mC d) env h (Is d) := ⟨d, [], by rw [List.append_nil]; rfl, rfl⟩
theorem pu_varP (e : env[i]? = some (some d)) (p : P h d) : Pu (mVar i) env h P := ⟨d, [], by rw [List.append_nil, run_var, e], by rw [List.append_nil]; exact p⟩
theorem pu_var (e : env[i]? = some (some d)) : Pu (mVar i) env h (Is d) := pu_varP e rfl
theorem pu_varL {r : Nat} (e : env[i]? = some (some (.ref r))) (q : h[r]? = some (.lst ds)) : Pu (mVar i) env h (IsL ds) := pu_varP e ⟨r, rfl, q⟩
theorem pu_2 (ha : Pu a env h P) (hb : ∀ g, Pu b env (h ++ g) Q) (mp : Mono P) (w : ∀ h x y, P h x → Q h y → ∃ z g, f x y h = .ok z (h ++ g) ∧ S (h ++ g) z) : Pu (m2 f a b) env h S := by
  obtain ⟨x, g1, e1, p1⟩ := ha
  obtain ⟨y, g2, e2, p2⟩ := hb g1
  obtain ⟨z, g3, e3, p3⟩ := w _ x y (mp _ g2 _ p1) p2
  refine ⟨z, g1 ++ g2 ++ g3, ?_, ?_⟩
  · rw [run_m2, e1, bind_ok, e2, bind_ok, e3]
    simp
  · rw [show h ++ (g1 ++ g2 ++ g3) = h ++ g1 ++ g2 ++ g3 by simp]
    exact p3
theorem pu_op (ha : Pu a env h (Is x)) (hb : ∀ g, Pu b env (h ++ g) (Is y)) (w : ∀ h, f x y h = .ok z h) : Pu (m2 f a b) env h (Is z) :=
  pu_2 ha hb mono_is fun h x' y' e1 e2 => ⟨z, [], by rw [show x' = x from e1, show y' = y from e2, w, List.append_nil], rfl⟩
theorem pu_add (ha : Pu a env h (IsL ds)) (hb : ∀ g, Pu b env (h ++ g) (IsL es)) (l1 : ds.length ≤ 1000) (l2 : es.length ≤ 1000) : Pu (m2 fAdd a b) env h (IsL (ds ++ es)) :=
  pu_2 ha hb mono_l fun h x y ⟨r, e1, q1⟩ ⟨s, e2, q2⟩ => ⟨.ref h.length, [.lst (ds ++ es)], by
    rw [e1, e2]
    unfold fAdd
    simp only [q1, q2]
    rw [if_pos (Nat.le_trans (Nat.add_le_add l1 l2) (by decide))], ⟨h.length, rfl, get_new⟩⟩
theorem pu_rep {k : Nat} (ha : Pu a env h (IsL ds)) (hb : ∀ g, Pu b env (h ++ g) (Is (.int (k : Int)))) (l1 : ds.length ≤ 1000) (l2 : k ≤ 1000) : Pu (m2 fMul a b) env h (IsL (List.replicate k ds).flatten) :=
  pu_2 ha hb mono_l fun h x y ⟨r, e1, q1⟩ e2 => ⟨.ref h.length, [.lst (List.replicate k ds).flatten], by
    rw [e1, show y = _ from e2]
    unfold fMul
    simp only [q1]
    rw [if_pos ⟨by omega, by omega, by rw [Int.toNat_natCast]; exact Nat.le_trans (Nat.mul_le_mul l1 l2) (by decide)⟩, Int.toNat_natCast], ⟨h.length, rfl, get_new⟩⟩
theorem pu_ix {j : Nat} (ha : Pu a env h (IsL ds)) (hb : ∀ g, Pu b env (h ++ g) (Is (.int (j : Int)))) (e : ds[j]? = some z) : Pu (m2 fIx a b) env h (Is z) :=
  pu_2 ha hb mono_l fun h x y ⟨r, e1, q1⟩ e2 => ⟨z, [], by
    rw [e1, show y = _ from e2, fIx_lst q1 e, List.append_nil], rfl⟩
theorem pu_lst1 (ha : Pu a env h (Is x)) : Pu (mLst (mCons a mNil)) env h (IsL [x]) := by
  obtain ⟨x', g, e, p⟩ := ha
  obtain rfl := (show x' = x from p)
  refine ⟨.ref (h ++ g).length, g ++ [.lst [x']], ?_, ⟨_, rfl, by rw [← List.append_assoc]; exact get_new⟩⟩
  rw [run_lst, run_lcons, e, bind_ok, run_lnil, bind_ok, bind_ok, List.append_assoc]
theorem pu_lst0 : Pu (mLst mNil) env h (IsL []) := ⟨.ref h.length, [.lst []], rfl, ⟨_, rfl, get_new⟩⟩
theorem pu_to {k : Nat} (ha : Pu a env h (IsL ds)) (hb : ∀ g, Pu b env (h ++ g) (Is (.int (k : Int)))) (hk : k ≤ ds.length) : Pu (mSl a mNo (mSome b)) env h (IsL (ds.take k)) := by
  obtain ⟨x, g1, e1, ⟨r, rfl, q1⟩⟩ := ha
  obtain ⟨y, g2, e2, p2⟩ := hb g1
  obtain rfl := (show y = _ from p2)
  refine ⟨.ref (h ++ g1 ++ g2).length, g1 ++ g2 ++ [.lst (ds.take k)], ?_, ⟨_, rfl, by rw [show h ++ (g1 ++ g2 ++ [O.lst (ds.take k)]) = h ++ g1 ++ g2 ++ [O.lst (ds.take k)] by simp]; exact get_new⟩⟩
  rw [run_sl, e1, bind_ok, run_no, bind_ok, run_some, e2, bind_ok]
  show fSl (.ref r) none (some (k : Int)) (h ++ g1 ++ g2) = _
  rw [fSl_lst (keep_app q1), cutD_to hk]
  simp
theorem cutD_from {ds : List D} {k : Nat} (hk : k ≤ ds.length) : cutD ds (some (k : Int)) none = ds.drop k := by
  unfold cutD
  rw [sIx_nat _ hk]
  show (ds.drop k).take (ds.length - k) = _
  rw [List.take_of_length_le (by rw [List.length_drop]; exact Nat.le_refl _)]
theorem pu_from {k : Nat} (ha : Pu a env h (IsL ds)) (hb : ∀ g, Pu b env (h ++ g) (Is (.int (k : Int)))) (hk : k ≤ ds.length) : Pu (mSl a (mSome b) mNo) env h (IsL (ds.drop k)) := by
  obtain ⟨x, g1, e1, ⟨r, rfl, q1⟩⟩ := ha
  obtain ⟨y, g2, e2, p2⟩ := hb g1
  obtain rfl := (show y = _ from p2)
  refine ⟨.ref (h ++ g1 ++ g2).length, g1 ++ g2 ++ [.lst (ds.drop k)], ?_, ⟨_, rfl, by rw [show h ++ (g1 ++ g2 ++ [O.lst (ds.drop k)]) = h ++ g1 ++ g2 ++ [O.lst (ds.drop k)] by simp]; exact get_new⟩⟩
  rw [run_sl, e1, bind_ok, run_some, e2, bind_ok]
  show (R.ok (some (k : Int)) (h ++ g1 ++ g2)).bind (fun lo h2 => (mNo env h2).bind fun hi h3 => fSl (.ref r) lo hi h3) = _
  rw [bind_ok, run_no, bind_ok, fSl_lst (keep_app q1), cutD_from hk]
  simp
theorem pu_listT (ha : Pu a env h (Is (.tup ds))) : Pu (mCall fList (mCons a mNil)) env h (IsL ds) := by
  obtain ⟨x', g, e, p⟩ := ha
  obtain rfl := (show x' = _ from p)
  refine ⟨.ref (h ++ g).length, g ++ [.lst ds], ?_, ⟨_, rfl, by rw [← List.append_assoc]; exact get_new⟩⟩
  rw [run_call, run_lcons, e, bind_ok, run_lnil, bind_ok, bind_ok, ← List.append_assoc]
  rfl
theorem pu_tupL (ha : Pu a env h (IsL ds)) : Pu (mCall fTuple (mCons a mNil)) env h (Is (.tup ds)) := by
  obtain ⟨x', g, e, ⟨r, rfl, q⟩⟩ := ha
  refine ⟨.tup ds, g, ?_, rfl⟩
  rw [run_call, run_lcons, e, bind_ok, run_lnil, bind_ok, bind_ok]
  exact fTuple_lst q
theorem pu_call1 {fn : Fc} (ha : Pu a env h P) (w : ∀ h x, P h x → ∃ z g, fn [x] h = .ok z (h ++ g) ∧ S (h ++ g) z) : Pu (mCallF 1 fn (mCons a mNil)) env h S := by
  obtain ⟨x, g1, e1, p1⟩ := ha
  obtain ⟨z, g2, e2, p2⟩ := w _ x p1
  refine ⟨z, g1 ++ g2, ?_, by rw [← List.append_assoc]; exact p2⟩
  rw [run_callF, run_lcons, e1, bind_ok, run_lnil, bind_ok, bind_ok, if_pos (show [x].length = 1 from rfl), e2, List.append_assoc]
theorem pu_call2 {fn : Fc} (ha : Pu a env h P) (hb : ∀ g, Pu b env (h ++ g) Q) (mp : Mono P) (w : ∀ h x y, P h x → Q h y → ∃ z g, fn [x, y] h = .ok z (h ++ g) ∧ S (h ++ g) z) : Pu (mCallF 2 fn (mCons a (mCons b mNil))) env h S := by
  obtain ⟨x, g1, e1, p1⟩ := ha
  obtain ⟨y, g2, e2, p2⟩ := hb g1
  obtain ⟨z, g3, e3, p3⟩ := w _ x y (mp _ g2 _ p1) p2
  refine ⟨z, g1 ++ g2 ++ g3, ?_, by rw [show h ++ (g1 ++ g2 ++ g3) = h ++ g1 ++ g2 ++ g3 by simp]; exact p3⟩
  rw [run_callF, run_lcons, e1, bind_ok, run_lcons, e2, bind_ok, run_lnil, bind_ok, bind_ok, bind_ok, if_pos (show [x, y].length = 2 from rfl), e3]
  simp
/-- a builtin of one value -/
theorem pu_fn1 {fn : Fc} (ha : Pu a env h P) (w : ∀ h x, P h x → ∃ z g, fn [x] h = .ok z (h ++ g) ∧ S (h ++ g) z) : Pu (mCall fn (mCons a mNil)) env h S := by
  obtain ⟨x, g1, e1, p1⟩ := ha
  obtain ⟨z, g2, e2, p2⟩ := w _ x p1
  refine ⟨z, g1 ++ g2, ?_, by rw [← List.append_assoc]; exact p2⟩
  rw [run_call, run_lcons, e1, bind_ok, run_lnil, bind_ok, bind_ok, e2, List.append_assoc]
theorem pu_len (ha : Pu a env h (IsL ds)) : Pu (mCall fLen (mCons a mNil)) env h (Is (.int (ds.length : Int))) :=
  pu_fn1 ha fun h x ⟨r, e, q⟩ => ⟨_, [], by rw [e, fLen_lst q, List.append_nil], rfl⟩
/-- comparisons -/
theorem pt_bool {k : Bool} (ha : Pu a env h (Is (.bl k))) : Pt (mBool a) env h k := by
  obtain ⟨x', g, e, p⟩ := ha
  obtain rfl := (show x' = _ from p)
  exact ⟨g, by rw [run_bool, e, bind_ok]⟩
theorem pt_neL {l : List Int} (ha : Pu a env h (IsL (l.map D.int))) (hb : ∀ g, Pu b env (h ++ g) (IsL (l.map D.int))) : Pt (mBool (m2 fNe a b)) env h false :=
  pt_bool (pu_2 ha hb mono_l fun h x y ⟨r, e1, q1⟩ ⟨s, e2, q2⟩ => ⟨.bl false, [], by rw [e1, e2, fNe_rints q1 q2, List.append_nil], rfl⟩)
theorem pt_neT {l : List Int} (ha : Pu a env h (Is (.tup (l.map D.int)))) (hb : ∀ g, Pu b env (h ++ g) (Is (.tup (l.map D.int)))) : Pt (mBool (m2 fNe a b)) env h false :=
  pt_bool (pu_op ha hb fun h => fNe_tints)
theorem pt_neI {k : Int} (ha : Pu a env h (Is (.int k))) (hb : ∀ g, Pu b env (h ++ g) (Is (.int k))) : Pt (mBool (m2 fNe a b)) env h false :=
  pt_bool (pu_op ha hb fun h => by rw [fNe_i]; simp)
theorem pt_or {s t : Ev → Hm → R Bool} (hs : Pt s env h false) (ht : ∀ g, Pt t env (h ++ g) false) : Pt (mOr s t) env h false := by
  obtain ⟨g1, e1⟩ := hs
  obtain ⟨g2, e2⟩ := ht g1
  exact ⟨g1 ++ g2, by rw [run_or, e1, bind_ok, if_neg (by simp), e2, List.append_assoc]⟩
theorem ps_no {t : Ev → Hm → R Bool} {s : Ev → Hm → SR} (ht : Pt t env h false) : Ps (sIf t s sNil) env h env := by
  obtain ⟨g1, e1⟩ := ht
  exact ⟨g1, by rw [run_if, e1, bindS_ok, if_neg (by simp)]; rfl⟩
theorem ps_seq {s t : Ev → Hm → SR} {e1 e2 : Ev} (hs : Ps s env h e1) (ht : ∀ g, Ps t e1 (h ++ g) e2) : Ps (sSeq s t) env h e2 := by
  obtain ⟨g1, q1⟩ := hs
  obtain ⟨g2, q2⟩ := ht g1
  exact ⟨g1 ++ g2, seq_next q1 (by rw [q2, List.append_assoc])⟩
/-- a pure comprehension -/
theorem pu_lc {vs : List Nat} {m : Ev → Hm → R Itr} {g : Gt} {t : Ev → Hm → R Bool} {α : Type} {gs : List (Nat × O)} (fk : α → D) (yk : α → Option D) (xs : List α) (hx : xs.length ≤ 1000) (hm : ∃ g, m env h = .ok (xs.map fk, gs) (h ++ g) ∧ gdOk gs (h ++ g) = true)
    (w : ∀ g0 (k : α), k ∈ xs → lcTurn g t a (wipeE env vs) (fk k) (h ++ g0) = .ok (yk k) (h ++ g0)) : Pu (mLc vs m g t a) env h (IsL (xs.filterMap yk)) := by
  obtain ⟨g1, e1, ok⟩ := hm
  have R := lcL_pure (g := g) (t := t) (e := a) (env := wipeE env vs) ok fk yk xs (w g1)
  refine ⟨.ref (h ++ g1).length, g1 ++ [.lst (xs.filterMap yk)], ?_, ⟨_, rfl, by rw [← List.append_assoc]; exact get_new⟩⟩
  rw [← List.append_assoc]
  exact lc_run (vs := vs) (ds := xs.map fk) (gs := gs) (it := (xs.map fk, gs)) e1 (by rw [List.length_map]; exact hx) R
end
end MM

namespace MM
open PySem L2

def kD : Key → D
  | .inl i => .int i
  | .inr s => .str s
theorem kD_V {K : PySem.W.Frag} {π : List Addr} {H : Hp} (k : Key) : DV K π H (kD k) (kV k) := by
  cases k <;> rfl
/-- the locked dict at slot i -/
def mKeysL (i : Nat) : Ev → Hm → R Itr := fun env h => match env[i]? with
  | some (some (.ref r)) => match h[r]? with
    | some (.dicL kvs) => .ok (kvs.map fun p => kD p.1, [(r, .dicL kvs)]) h
    | _ => .bad
  | _ => .bad
theorem DPs.key {κ : Type} {K : PySem.W.Frag} {π : List Addr} {H : Hp} : ∀ {ps : List (κ × D)} {xs : List (κ × V)} {i : Nat} {k : κ} {v : V}, DPs K π H ps xs → xs[i]? = some (k, v) → ∃ d, ps[i]? = some (k, d)
  | [], _, i, k, v, h, e => by
    rw [show _ = [] from h] at e
    cases e
  | p :: ps, _, 0, k, v, ⟨w, vs, ev, h, q⟩, e => by
    rw [ev] at e
    cases e
    exact ⟨p.2, rfl⟩
  | p :: ps, _, i + 1, k, v, ⟨w, vs, ev, h, q⟩, e => by
    rw [ev] at e
    exact DPs.key (i := i) q e
theorem im_keysL (i : Nat) {X : Cx} {T : List (Addr × Str)} {W : WX} {tg : Expr} {x : Str} {pos : Pos} (he : Em X T W (.Name x pos) (mVar i)) : Im X T W tg (.Name x pos) (mKeysL i) := PI.of (pi_keys he) fun σ H Q ⟨π, env, h, s, p⟩ => by
  unfold mKeysL at p
  cases e0 : env[i]? with
  | none => rw [e0] at p; exact p.elim
  | some od =>
    cases od with
    | none => rw [e0] at p; exact p.elim
    | some d =>
      rw [e0] at p
      cases d with
      | ref r =>
        simp only at p
        cases e1 : h[r]? with
        | none => rw [e1] at p; exact p.elim
        | some o =>
          rw [e1] at p
          cases o with
          | dicL kvs =>
            simp only at p
            refine ⟨π, env, h, s, ?_⟩
            have mv : mVar i env h = .ok (.ref r) h := by
              rw [run_var, e0]
            rw [mv]
            intro π1 H1 s1 g1 v dv
            obtain ⟨a, qa, rfl⟩ := dv
            obtain ⟨oo, xs, ha, q⟩ := g1.obj e1 qa
            refine ⟨a, oo, rfl, .inl ⟨xs, ha, p π1 H1 s1 g1 _ ⟨fun j π h2 H2 s2 g2 e hi => ?_, fun j π h2 H2 s2 g2 e hi => ?_, fun j π h2 H2 x H' s2 g2 e hi y => ?_⟩⟩⟩
            · exact ⟨s2.frz _ _ _ ha, by rw [q.len]; simpa using hi⟩
            · exact ⟨s2.frz _ _ _ ha, by rw [q.len, hi]; simp⟩
            · obtain ⟨rfl, k, v, hk, rfl⟩ := y
              obtain ⟨d, hd⟩ := q.key hk
              exact ⟨Step.refl, g2, kD k, by rw [List.getElem?_map, hd] <;> rfl, kD_V k⟩
          | _ => exact p.elim
      | _ => exact p.elim
def unlS (r : Nat) (kvs : List (Key × D)) : SR → SR
  | .next e h => if h[r]? = some (.dicL kvs) then .next e (h.set r (.dic kvs)) else .bad
  | .ret d h => if h[r]? = some (.dicL kvs) then .ret d (h.set r (.dic kvs)) else .bad
  | _ => .bad
/-- a statement that walks the dict at slot i -/
def sLock (i : Nat) (m : Ev → Hm → SR) : Ev → Hm → SR := fun env h => match env[i]? with
  | some (some (.ref r)) => match h[r]? with
    | some (.dic kvs) => unlS r kvs (m env (h.set r (.dicL kvs)))
    | _ => .bad
  | _ => .bad
def unlE (r : Nat) (kvs : List (Key × D)) : R D → R D
  | .ok d h => if h[r]? = some (.dicL kvs) then .ok d (h.set r (.dic kvs)) else .bad
  | _ => .bad
def mLock (i : Nat) (m : Ev → Hm → R D) : Ev → Hm → R D := fun env h => match env[i]? with
  | some (some (.ref r)) => match h[r]? with
    | some (.dic kvs) => unlE r kvs (m env (h.set r (.dicL kvs)))
    | _ => .bad
  | _ => .bad
section
variable {G : Gx} {π π' : List Addr} {h h' : Hm} {H H' : Hp} {a : Addr} {r : Nat} {kvs : List (Key × D)} {xs : List (Key × V)} {od : Obj}
theorem lock_good (g : Good G π h H) (qa : π[r]? = some a) (ha : H a = some (.dK xs)) (q : DPs G.K π H kvs xs) : Step π H π (upd H a (.frz od (.dK xs))) ∧ Good G π (h.set r (.dicL kvs)) (upd H a (.frz od (.dK xs))) := by
  have nf := nfz ha fun _ _ z => (by cases z)
  have s : Step π H π (upd H a (.frz od (.dK xs))) := Step.put qa nf
  exact ⟨s, g.put qa nf ⟨od, xs, upd_same, q.step s _ _⟩⟩
/-- from before the lock to behind it -/
theorem unlock_step (ha : H a = some (.dK xs)) (qa : π[r]? = some a) (s : Step π (upd H a (.frz od (.dK xs))) π' H') : Step π H π' (upd H' a (.dK xs)) := by
  have ma := List.mem_of_getElem? qa
  refine ⟨s.ext, fun b o e n t => s.out b o (by rw [upd_ne (show b ≠ a from fun z => n (by rw [z]; exact ma))]; exact e) n t, fun b o e n t => ?_, fun b o u e => ?_⟩
  · have ne : b ≠ a := fun z => n (by rw [z]; exact ma)
    rw [upd_ne ne]
    exact s.keep b o (by rw [upd_ne ne]; exact e) n t
  · have ne : b ≠ a := fun z => by rw [z, ha] at e; cases e
    rw [upd_ne ne]
    exact s.frz b o u (by rw [upd_ne ne]; exact e)
theorem unlock_dv (n : π'[r]? = some a) (e : H' a = some (.frz od (.dK xs))) : ∀ {K : PySem.W.Frag}, StepV π' H' π' (upd H' a (.dK xs)) := fun {K} => by
  have ma := List.mem_of_getElem? n
  exact ⟨⟨[], by simp⟩, fun b ys h1 h2 => ⟨by rw [upd_ne (show b ≠ a from fun z => h2 (by rw [z]; exact ma))]; exact h1, h2⟩, fun b o ys h1 h2 => ⟨by rw [upd_ne (show b ≠ a from fun z => h2 (by rw [z]; exact ma))]; exact h1, h2⟩⟩
theorem unlock_good (g : Good G π' h' H') (qa : π'[r]? = some a) (e : h'[r]? = some (.dicL kvs)) (ha : H' a = some (.frz od (.dK xs))) : Good G π' (h'.set r (.dic kvs)) (upd H' a (.dK xs)) := by
  have s : StepV π' H' π' (upd H' a (.dK xs)) := unlock_dv (K := G.K) qa ha
  have hi : r < h'.length := (List.getElem?_eq_some_iff.mp e).1
  refine ⟨by rw [List.length_set]; exact g.len, g.nd, fun j b v e1 e2 => ?_, g.tabs_upd (.inr ⟨_, ha, fun ⟨ps, z⟩ => (by cases z), fun c q z => (by unfold LamX.CodeO at z; cases z)⟩), g.tout⟩
  by_cases hj : j = r
  · subst hj
    rw [qa] at e1
    cases e1
    rw [List.getElem?_set_self hi] at e2
    cases e2
    obtain ⟨oo, ys, hb, q⟩ := g.obj e qa
    rw [ha] at hb
    cases hb
    exact ⟨xs, upd_same, q.stepV s _ _⟩
  · rw [List.getElem?_set_ne (Ne.symm hj)] at e2
    have ne : b ≠ a := fun z => hj (nodup_ix' g.nd e1 (by rw [z]; exact qa))
    exact (g.ob j b v e1 e2).stepV s (upd_ne ne)
end
theorem sm_lock (i : Nat) {X : Cx} {T : List (Addr × Str)} {W : WX} {st : Stmt} {m : Ev → Hm → SR} (hm : Sm X T W st m) : Sm X T W st (sLock i m) := PS.of (ps_lock hm) fun D σ H ⟨π, env, h, s, p⟩ => by
  unfold sLock at p
  cases e0 : env[i]? with
  | none => rw [e0] at p; exact p.elim
  | some o1 =>
    cases o1 with
    | none => rw [e0] at p; exact p.elim
    | some d =>
      rw [e0] at p
      cases d with
      | ref r =>
        simp only at p
        cases e1 : h[r]? with
        | none => rw [e1] at p; exact p.elim
        | some o =>
          rw [e1] at p
          cases o with
          | dic kvs =>
            simp only at p
            obtain ⟨v, hv, a, qa, rfl⟩ := s.env.get i _ e0
            obtain ⟨xs, ha, q⟩ := s.good.obj e1 qa
            refine ⟨a, _, ha, trivial, fun od => ?_⟩
            obtain ⟨s1, g1⟩ := lock_good (od := od) s.good qa ha q
            refine ⟨π, env, _, ⟨g1, s.env.step s1⟩, ?_⟩
            generalize m env (h.set r (.dicL kvs)) = z at p ⊢
            cases z with
            | next e2 h2 =>
              intro π2 σ2 H2 s2 x2
              rw [show unlS r kvs (.next e2 h2) = (if h2[r]? = some (.dicL kvs) then .next e2 (h2.set r (.dic kvs)) else .bad) from rfl] at p
              by_cases hr : h2[r]? = some (.dicL kvs)
              · rw [if_pos hr] at p
                have qa2 := s2.get qa
                have f2 := s2.frz a od _ upd_same
                have sv := unlock_dv (K := X.K) qa2 f2
                refine ⟨f2, p π2 σ2 _ (unlock_step ha qa s2) ⟨unlock_good x2.good qa2 hr f2, ⟨x2.env.len, fun j d e => ?_⟩⟩⟩
                obtain ⟨v, h1, h2⟩ := x2.env.get j d e
                exact ⟨v, h1, h2.stepV sv _ _⟩
              · rw [if_neg hr] at p
                exact (show False from p).elim
            | ret d h2 =>
              intro π2 H2 v s2 g2 dv
              rw [show unlS r kvs (.ret d h2) = (if h2[r]? = some (.dicL kvs) then .ret d (h2.set r (.dic kvs)) else .bad) from rfl] at p
              by_cases hr : h2[r]? = some (.dicL kvs)
              · rw [if_pos hr] at p
                have qa2 := s2.get qa
                have f2 := s2.frz a od _ upd_same
                have sv := unlock_dv (K := X.K) qa2 f2
                exact ⟨f2, p π2 _ v (unlock_step ha qa s2) (unlock_good g2 qa2 hr f2) (dv.stepV sv _ _)⟩
              · rw [if_neg hr] at p
                exact (show False from p).elim
            | brk e2 h2 => exact (show False from p).elim
            | cont e2 h2 => exact (show False from p).elim
            | exn y e2 h2 => exact (show False from p).elim
            | bad => exact (show False from p).elim
          | _ => exact p.elim
      | _ => exact p.elim
theorem em_lock (i : Nat) {X : Cx} {T : List (Addr × Str)} {W : WX} {ex : Expr} {m : Ev → Hm → R D} (hm : Em X T W ex m) : Em X T W ex (mLock i m) := PE.of (pe_lock hm) fun σ H Q ⟨π, env, h, s, p⟩ => by
  unfold mLock at p
  cases e0 : env[i]? with
  | none => rw [e0] at p; exact p.elim
  | some o1 =>
    cases o1 with
    | none => rw [e0] at p; exact p.elim
    | some d =>
      rw [e0] at p
      cases d with
      | ref r =>
        simp only at p
        cases e1 : h[r]? with
        | none => rw [e1] at p; exact p.elim
        | some o =>
          rw [e1] at p
          cases o with
          | dic kvs =>
            simp only at p
            obtain ⟨v, hv, a, qa, rfl⟩ := s.env.get i _ e0
            obtain ⟨xs, ha, q⟩ := s.good.obj e1 qa
            refine ⟨a, _, ha, trivial, fun od => ?_⟩
            obtain ⟨s1, g1⟩ := lock_good (od := od) s.good qa ha q
            refine ⟨π, env, _, ⟨g1, s.env.step s1⟩, ?_⟩
            generalize m env (h.set r (.dicL kvs)) = z at p ⊢
            cases z with
            | ok d h2 =>
              intro π2 H2 s2 g2 v dv
              rw [show unlE r kvs (.ok d h2) = (if h2[r]? = some (.dicL kvs) then .ok d (h2.set r (.dic kvs)) else .bad) from rfl] at p
              by_cases hr : h2[r]? = some (.dicL kvs)
              · rw [if_pos hr] at p
                have qa2 := s2.get qa
                have f2 := s2.frz a od _ upd_same
                have sv := unlock_dv (K := X.K) qa2 f2
                exact ⟨f2, p π2 _ (unlock_step ha qa s2) (unlock_good g2 qa2 hr f2) v (dv.stepV sv _ _)⟩
              · rw [if_neg hr] at p
                exact (show False from p).elim
            | exn y h2 => exact (show False from p).elim
            | bad => exact (show False from p).elim
          | _ => exact p.elim
      | _ => exact p.elim

def lookB : List (Str × Bool) → Str → Option Bool
  | [], _ => none
  | (c, b) :: r, x => if x = c then some b else lookB r x
def noExn : SR → SR
  | .exn _ _ _ => .bad
  | r => r
def sTry (cs : List (Str × Bool)) (m hm : Ev → Hm → SR) : Ev → Hm → SR := fun env h => match m env h with
  | .exn x e h1 => match lookB cs x.cls with
    | some true => noExn (hm e h1)
    | some false => .exn x e h1
    | none => .bad
  | r => r
theorem sm_try {X : Cx} {T : List (Addr × Str)} {W : WX} {cs : List (Str × Bool)} {x : Str} {CS : Addr} {body suite : List Stmt} {b₀ : Stmt} {np pos pos' : Pos} {mb mh : Ev → Hm → SR} (hs : X.stack = X.env :: X.outer) (hf : X.env.frame = some X.env.locals) (hg : Gl X x) (hm : X.mg x = some (.ref CS)) (hdb : (x == ("__debug__" : Str)) = false) (tk : Takes X W)
    (hcs : ∀ c b, lookB cs c = some b → ∀ C, X.mg c = some (.ref C) → PySem.W.exmOne X.K (.ref C) (.ref CS) = some b)
    (hb : ∀ (W : WX) (pn : List (Addr × Obj)) (xe : Value → Shared → Prop), Takes (X.tr pn xe) W → PassesOwn (model X.prog X.w) X.A X.env xe → Ssm (X.tr pn xe) T W body mb)
    (hsu : ∀ (a : Addr) (pn : List (Addr × Obj)), Takes (X.suite a pn) WF → Ssm (X.suite a pn) T WF (b₀ :: suite) mh) :
    Sm X T W (.Try body [.ExceptHandler (some (.Name x np)) none (b₀ :: suite) pos'] [] [] pos) (sTry cs mb mh) :=
  PS.of (ps_try_only (c := .ref CS) (tb := fun W => tS (gx X T) W mb) (ts := fun _ _ _ => tS (gx X T) WF mh) hs hf ⟨hg, hdb, .inl hm⟩ tk (fun W pn xe tk hp => hb W pn xe tk hp) (fun a oe cls d pn _ _ => hsu a _ takes0)) fun D σ H ⟨π, env, h, s, p⟩ => by
    refine ⟨π, env, h, s, ?_⟩
    unfold sTry at p
    generalize mb env h = z at p ⊢
    cases z with
    | exn y e h1 =>
      intro π' σ' H' cls d s' x' ev
      simp only at p
      obtain ⟨C, hC, rfl, w⟩ := id ev
      cases q : lookB cs y.cls with
      | none => rw [q] at p; exact p.elim
      | some b =>
        rw [q] at p
        refine ⟨b, hcs _ _ q C hC, fun hb a _ => ?_, fun hb => ?_⟩
        · subst hb
          refine ⟨π', e, h1, x', ?_⟩
          have p' : PostS (gx X T) W D π H (noExn (mh e h1)) := p
          generalize mh e h1 = u at p' ⊢
          cases u with
          | exn _ _ _ => exact (show False from p').elim
          | next e2 h2 => exact fun π2 σ2 H2 s2 x2 => p' π2 σ2 H2 (s'.trans s2) x2
          | ret d h2 => exact fun π2 H2 v s2 x2 e => p' π2 H2 v (s'.trans s2) x2 e
          | brk e2 h2 => exact fun π2 σ2 H2 s2 x2 => p' π2 σ2 H2 (s'.trans s2) x2
          | cont e2 h2 => exact fun π2 σ2 H2 s2 x2 => p' π2 σ2 H2 (s'.trans s2) x2
          | bad => exact p'
        · subst hb
          exact p π' σ' H' _ d s' x' ev
    | _ => exact p

def pairD : D → Option (Key × D)
  | .tup [k, v] => (keyD k).map fun k => (k, v)
  | _ => none
def fDict : Fc := fun ds h => match ds with
  | [.ref r] => match h[r]? with
    | some (.lst xs) => match mapO pairD xs with
      | some kvs => .ok (.ref h.length) (h ++ [.dic (kvs.foldl (fun c p => putDK c p.1 p.2) [])])
      | none => .bad
    | _ => .bad
  | _ => .bad
theorem pairs_V {K : PySem.W.Frag} {π : List Addr} {H : Hp} : ∀ {ds : List D} {xs : List V} {kvs : List (Key × D)}, DVs K π H ds xs → mapO pairD ds = some kvs → ∃ (ps : List Addr) (vs : List (Key × V)), xs = ps.map V.ref ∧ Paired (fun p kv => SqT K H p [kV kv.1, kv.2]) ps vs ∧ DPs K π H kvs vs
  | [], _, _, h, e => by
    cases e
    exact ⟨[], [], h, .nil, rfl⟩
  | d :: ds, _, kvs, ⟨v, ws, ev, dv, q⟩, e => by
    unfold mapO at e
    cases e1 : pairD d with
    | none => rw [e1] at e; cases e
    | some kv =>
      cases e2 : mapO pairD ds with
      | none => rw [e1, e2] at e; cases e
      | some r =>
        rw [e1, e2] at e
        cases e
        obtain ⟨ps, vs, rfl, pr, dp⟩ := pairs_V q e2
        unfold pairD at e1
        split at e1
        · rename_i k x
          obtain ⟨a, ys, rfl, t, w1, ws1, rfl, d1, w2, ws2, rfl, d2, e5⟩ := dv
          obtain rfl := (show ws2 = [] from e5)
          cases ek : keyD k with
          | none => rw [ek] at e1; cases e1
          | some κ =>
            rw [ek] at e1
            cases e1
            obtain rfl := keyD_V ek d1
            exact ⟨a :: ps, (κ, w2) :: vs, ev, .cons t.sq pr, w2, vs, rfl, d2, dp⟩
        · cases e1
theorem merge_V {K : PySem.W.Frag} {π : List Addr} {H : Hp} : ∀ {kvs : List (Key × D)} {vs : List (Key × V)} {c : List (Key × D)} {w : List (Key × V)}, DPs K π H kvs vs → DPs K π H c w → DPs K π H (kvs.foldl (fun c p => putDK c p.1 p.2) c) (mergeK w vs)
  | [], _, _, _, h, q => by rw [show _ = [] from h]; exact q
  | p :: ps, _, c, w, ⟨v, vs, e, d, q⟩, r => by
    rw [e]
    show DPs K π H (ps.foldl (fun c p => putDK c p.1 p.2) (putDK c p.1 p.2)) (mergeK (putK w p.1 v) vs)
    exact merge_V q (r.putK d)
theorem oc_dict {G : Gx} : OpC G (fun xs H Q => ∃ (a : Addr) (ps : List Addr) (kvs : List (Key × V)), xs = [.ref a] ∧ SqL G.K H a (ps.map V.ref) ∧ Paired (fun p kv => SqT G.K H p [kV kv.1, kv.2]) ps kvs ∧ ∀ p, H p = none → Q (.ref p) (upd H p (.dK (mergeK [] kvs)))) fDict := by
  intro W π σ h H ds xs Q g dx p
  unfold fDict at p
  split at p
  · obtain ⟨v, vs, rfl, ⟨a, qa, rfl⟩, e⟩ := dx
    obtain rfl := (show vs = [] from e)
    split at p
    · rename_i ys e0
      obtain ⟨zs, ha, q⟩ := g.lst e0 qa
      split at p
      · rename_i kvs e1
        obtain ⟨ps, ws, rfl, pr, dp⟩ := pairs_V q e1
        refine ⟨a, ps, ws, rfl, SqL.of ha, pr, fun b n => ?_⟩
        have st := Step.new (a := b) (u := .dK (mergeK [] ws)) g n
        refine p (π ++ [b]) _ st (g.new (o := .dic _) n ⟨_, upd_same, (merge_V (c := []) (w := []) dp rfl).step st _ _⟩) _ ⟨b, ?_, rfl⟩
        rw [List.getElem?_append_right (by rw [g.len]; exact Nat.le_refl _), g.len, Nat.sub_self] <;> rfl
      · exact p.elim
    · exact p.elim
  · exact p.elim
theorem em_dict {X : Cx} {T : List (Addr × Str)} {W : WX} {e : Expr} {mr : Ev → Hm → R (List D)} {p pos : Pos} (hc : X.calm = true) (hg : Gl X "dict") (hm : X.mg "dict" = none) (ha : Am X T W [e] mr) (he : starEach [e] X.env = (false, eval e X.env) :: starEach [] X.env := by rfl) (hpl : (backTo pos (starEach [] X.env)).any (·.1) = false := by rfl) : Em X T W (.Call (.Name "dict" p) [e] [] pos) (mCall fDict mr) :=
  em_callTy (call_dictP hc) oc_dict hg hm ha rfl (by decide) (by decide) he hpl
end MM

namespace MM
open PySem L2
section
variable {cs : List Str} {s c cn m : Str} {a mo : Ev → Hm → R D} {mr : Ev → Hm → R (List D)} {env : Ev} {h h1 h2 h3 : Hm} {P p : Nat} {fs fs' : List (Str × D)} {d x y z v : D} {ds : List D} {fn : Fc} {fo : F2}
theorem fld_run (e : a env h = .ok (.ref P) h1) (eP : h1[P]? = some (.ins c fs)) (hc : c ∈ cs) (l : fs.lookup s = some d) : mFld cs s a env h = .ok d h1 := by
  rw [run_fld, e, bind_ok]
  simp only [eP, if_pos hc, l]
theorem meth_run (e : mo env h = .ok (.ref P) h1) (eP : h1[P]? = some (.ins cn fs)) (l : fs.lookup m = none) (er : mr env h1 = .ok ds h2) (hl : ds.length + 1 = p) : mMethF cn m p fn mo mr env h = fn (.ref P :: ds) h2 := by
  rw [run_methF, e, bind_ok]
  simp only [eP]
  rw [if_pos ⟨trivial, l⟩, er, bind_ok, if_pos hl]
theorem fldA_run (e : mo env h = .ok (.ref P) h1) (eP : h1[P]? = some (.ins c fs)) (hc : c ∈ cs) (l : fs.lookup s = some v) (ea : a env h1 = .ok y h2) (ef : fo v y h2 = .ok z h3) (eP' : h3[P]? = some (.ins c fs')) (hl : fs'.length < 1000) :
    sFldA cs s fo mo a env h = .next env (h3.set P (.ins c (putD s z fs'))) := by
  rw [run_fldA, e, bindS_ok]
  simp only [eP, if_pos hc, l, ea, bindS_ok, ef, eP']
  rw [if_pos ⟨trivial, hl⟩]
theorem setF_run (eP : h[P]? = some (.ins c fs)) (hc : c ∈ cs) (hl : fs.length < 1000) : setF cs s (.ref P) y h = some (h.set P (.ins c (putD s y fs))) := by
  unfold setF
  simp only [eP]
  rw [if_pos ⟨hc, hl⟩]
theorem fldM_run (ea : a env h = .ok y h1) (e : mo env h1 = .ok (.ref P) h2) (eP : h2[P]? = some (.ins c fs)) (hc : c ∈ cs) (hl : fs.length < 1000) : sFldM cs s mo a env h = .next env (h2.set P (.ins c (putD s y fs))) := by
  rw [run_fldM, ea, bindS_ok, e, bindS_ok, setF_run eP hc hl]
theorem var_run {i : Nat} (e : env[i]? = some (some d)) : mVar i env h = .ok d h := by rw [run_var, e]
end
theorem forL_cont {gs : List (Nat × O)} {g : Gt} {b : Ev → Hm → SR} {d : D} {ds : List D} {env e1 e2 : Ev} {h h1 h2 : Hm} {r : SR} (hg : gdOk gs h = true) (a : g d env h = .next e1 h1) (w : b e1 h1 = .cont e2 h2) (k : forL gs g b ds e2 h2 = r) : forL gs g b (d :: ds) env h = r := by
  rw [forL, if_pos hg, a]
  simp only [only_next, w]
  exact k
end MM

namespace MM
namespace K15
open PySem L2
noncomputable section
def told_cs : List (Str × Str) := [("BadOrder", "order"), ("BadProgram", "program"), ("NoWay", "no way"), ("TooLarge", "large")]
def cx_NoWay : List (Str × Bool) := [("NoWay", true), ("TooLarge", false), ("BadOrder", false), ("BadProgram", false), ("CoreFault", false)]
def cs_words : List Str := ["Pages"]
def cs_root : List Str := ["Pages"]
def cs_room : List Str := ["Pages"]
def cs_held : List Str := ["Pages"]
def cs_asked : List Str := ["Pages"]
def cs_missed : List Str := ["Pages"]
/-- _law_dice: 0 cell -/
def b__law_dice : Ev → Hm → SR := (sSeq (sIf (mBool (mChain fLt fLt (m2 fSub (mC (.int 0)) (mC (.int 10))) (mVar 0) (mC (.int 10))))
  (sRet (mLst (mCons (mCall fAbs (mCons (mVar 0) mNil)) (mCons (mC (.int 0)) (mCons (mC (.int 2)) mNil)))))
  sNil)
  (sRet (mLst (mCons (mVar 0) (mCons (m2 fAdd (mC (.int 1)) (m2 fMod (mCall fInt (mCons (mVar 0) mNil)) (mC (.int 1009)))) (mCons (mCall fInt (mCons (m2 fGe (mVar 0) (m2 fPow (mC (.int 10)) (mC (.int 18)))) mNil)) mNil))))))
def f__law_dice : Fc := callM 1 1 b__law_dice
/-- _law_rounds: 0 script, 1 most, 2 cells, 3 cell -/
def b__law_rounds : Ev → Hm → SR := (sSeq (sAsg (gN 2) (mSl (mVar 0) mNo (mSome (mVar 1))))
  (sSeq (sIf (mBool (m2 fEq (mVar 2) (mLst mNil)))
  (sAsg (gN 2) (mLst (mCons (mC (.int 0)) mNil)))
  sNil)
  (sRet (mLc [3] (mItA (mVar 2)) (gN 3) tYesM (mCallF 1 f__law_dice (mCons (mVar 3) mNil))))))
def f__law_rounds : Fc := callM 4 2 b__law_rounds
/-- _law_roll: 0 dice, 1 many, 2 found -/
def b__law_roll : Ev → Hm → SR := (sSeq (sIf (mOr (mBool (m2 fEq (m2 fIx (mVar 0) (mC (.int 2))) (mC (.int 2)))) (mAnd (mBool (m2 fEq (m2 fIx (mVar 0) (mC (.int 2))) (mC (.int 1)))) (mBool (m2 fGt (m2 fIx (mVar 0) (mC (.int 0))) (mC (.int 0))))))
  (sSeq (sAsg (gN 2) (m2 fMod (mCall fInt (mCons (m2 fIx (mVar 0) (mC (.int 0))) mNil)) (mVar 1)))
  (sSeq (sAsg (gSubM (mVar 0) (mC (.int 0))) (m2 fDiv (m2 fIx (mVar 0) (mC (.int 0))) (mVar 1)))
  (sRet (mVar 2))))
  sNil)
  (sSeq (sAsg (gSubM (mVar 0) (mC (.int 2))) (mC (.int 0)))
  (sSeq (sAsg (gSubM (mVar 0) (mC (.int 0))) (m2 fMod (mCall fInt (mCons (m2 fAdd (m2 fAdd (m2 fMul (m2 fIx (mVar 0) (mC (.int 0))) (mC (.int 48271))) (m2 fMul (m2 fIx (mVar 0) (mC (.int 1))) (mC (.int 69621)))) (mC (.int 11))) mNil)) (mC (.int 2147483647))))
  (sSeq (sAsg (gSubM (mVar 0) (mC (.int 1))) (m2 fAdd (m2 fIx (mVar 0) (mC (.int 1))) (mC (.int 1))))
  (sRet (m2 fMod (mCall fInt (mCons (m2 fAdd (m2 fDiv (m2 fIx (mVar 0) (mC (.int 0))) (mC (.int 7))) (m2 fIx (mVar 0) (mC (.int 0)))) mNil)) (mVar 1)))))))
def f__law_roll : Fc := callM 3 2 b__law_roll
/-- entry_of: 0 frame, 1 written -/
def b_entry_of : Ev → Hm → SR := (sSeq (sIf (mNot (mBool (mChain fLe fLt (mC (.int 0)) (mVar 0) (mC (.int 64)))))
  (sRaise "BadOrder")
  sNil)
  (sRet (m2 fAdd (m2 fAdd (m2 fMul (mVar 0) (mC (.int 4))) (m2 fMul (mC (.int 2)) (mCall fInt (mCons (mVar 1) mNil)))) (mC (.int 1)))))
theorem o_entry_of : ∃ f : Fc, f = callM 2 2 b_entry_of := ⟨_, rfl⟩
def f_entry_of : Fc := o_entry_of.choose
theorem f_entry_of_eq : f_entry_of = callM 2 2 b_entry_of := o_entry_of.choose_spec
/-- Pages___init__: 0 self, 1 words, 2 root, 3 room -/
def b_Pages___init__ : Ev → Hm → SR := (sSeq (sIf (mOr (mBool (m2 fNe (m2 fMod (mCall fLen (mCons (mVar 1) mNil)) (mC (.int 16))) (mC (.int 0)))) (mOr (mBool (m2 fNe (m2 fMod (mVar 2) (mC (.int 16))) (mC (.int 0)))) (mOr (mNot (mBool (mChain fLe fLt (mC (.int 0)) (mVar 2) (mCall fLen (mCons (mVar 1) mNil))))) (mBool (m2 fLt (mVar 3) (mC (.int 1)))))))
  (sRaise "BadOrder")
  sNil)
  (sSeq (sFldM cs_words "words" (mVar 0) (mCall fList (mCons (mVar 1) mNil)))
  (sSeq (sFldM cs_root "root" (mVar 0) (mVar 2))
  (sSeq (sFldM cs_room "room" (mVar 0) (mVar 3))
  (sSeq (sFldM cs_held "held" (mVar 0) (mLst mNil))
  (sSeq (sFldM cs_asked "asked" (mVar 0) (mC (.int 0)))
  (sFldM cs_missed "missed" (mVar 0) (mC (.int 0)))))))))
theorem o_Pages___init__ : ∃ f : Fc, f = callM 4 4 b_Pages___init__ := ⟨_, rfl⟩
def f_Pages___init__ : Fc := o_Pages___init__.choose
theorem f_Pages___init___eq : f_Pages___init__ = callM 4 4 b_Pages___init__ := o_Pages___init__.choose_spec
/-- empty: 0 frames, 1 room, 2 words -/
def b_empty : Ev → Hm → SR := (sSeq (sAsg (gN 2) (m2 fMul (mLst (mCons (mC (.int 0)) mNil)) (m2 fMul (mVar 0) (mC (.int 16)))))
  (sSeq (sAsg (gSubM (mVar 2) (mC (.int 0))) (mCallF 2 f_entry_of (mCons (mC (.int 1)) (mCons (mC (.bl true)) mNil))))
  (sRet (mMake "Pages" 4 f_Pages___init__ (mCons (mVar 2) (mCons (mC (.int 0)) (mCons (mVar 1) mNil)))))))
theorem o_empty : ∃ f : Fc, f = callM 3 2 b_empty := ⟨_, rfl⟩
def f_empty : Fc := o_empty.choose
theorem f_empty_eq : f_empty = callM 3 2 b_empty := o_empty.choose_spec
/-- Pages_check_page: 0 self, 1 page -/
def b_Pages_check_page : Ev → Hm → SR := (sIf (mNot (mBool (mChain fLe fLt (mC (.int 0)) (mVar 1) (m2 fMul (mC (.int 16)) (mC (.int 16))))))
  (sRaise "BadOrder")
  sNil)
theorem o_Pages_check_page : ∃ f : Fc, f = callM 2 2 b_Pages_check_page := ⟨_, rfl⟩
def f_Pages_check_page : Fc := o_Pages_check_page.choose
theorem f_Pages_check_page_eq : f_Pages_check_page = callM 2 2 b_Pages_check_page := o_Pages_check_page.choose_spec
/-- Pages_frame_of: 0 self, 1 entry, 2 place -/
def b_Pages_frame_of : Ev → Hm → SR := (sSeq (sIf (mBool (m2 fEq (m2 fMod (mVar 1) (mC (.int 2))) (mC (.int 0))))
  (sRaise "NoWay")
  sNil)
  (sSeq (sAsg (gN 2) (m2 fMul (m2 fMod (m2 fDiv (mVar 1) (mC (.int 4))) (mC (.int 64))) (mC (.int 16))))
  (sSeq (sIf (mBool (m2 fGt (m2 fAdd (mVar 2) (mC (.int 16))) (mCall fLen (mCons (mFld cs_words "words" (mVar 0)) mNil))))
  (sRaise "NoWay")
  sNil)
  (sRet (mVar 2)))))
theorem o_Pages_frame_of : ∃ f : Fc, f = callM 3 2 b_Pages_frame_of := ⟨_, rfl⟩
def f_Pages_frame_of : Fc := o_Pages_frame_of.choose
theorem f_Pages_frame_of_eq : f_Pages_frame_of = callM 3 2 b_Pages_frame_of := o_Pages_frame_of.choose_spec
/-- Pages_forget: 0 self, 1 address, 2 pair -/
def b_Pages_forget : Ev → Hm → SR := (sFldM cs_held "held" (mVar 0) (mIf (mBool (m2 (fIs false) (mVar 1) (mC .non))) (mLst mNil) (mLc [2] (mItA (mFld cs_held "held" (mVar 0))) (gN 2) (mBool (m2 fNe (m2 fIx (mVar 2) (mC (.int 0))) (m2 fDiv (mVar 1) (mC (.int 16))))) (mVar 2))))
theorem o_Pages_forget : ∃ f : Fc, f = callM 3 2 b_Pages_forget := ⟨_, rfl⟩
def f_Pages_forget : Fc := o_Pages_forget.choose
theorem f_Pages_forget_eq : f_Pages_forget = callM 3 2 b_Pages_forget := o_Pages_forget.choose_spec
/-- Pages_lay: 0 self, 1 page, 2 frame, 3 written, 4 first, 5 place -/
def b_Pages_lay : Ev → Hm → SR := (sSeq (sDrop (mMethF "Pages" "check_page" 2 f_Pages_check_page (mVar 0) (mCons (mVar 1) mNil)))
  (sSeq (sAsg (gN 4) (m2 fIx (mFld cs_words "words" (mVar 0)) (m2 fAdd (mFld cs_root "root" (mVar 0)) (m2 fDiv (mVar 1) (mC (.int 16))))))
  (sSeq (sAsg (gN 5) (m2 fAdd (mMethF "Pages" "frame_of" 2 f_Pages_frame_of (mVar 0) (mCons (mVar 4) mNil)) (m2 fMod (mVar 1) (mC (.int 16)))))
  (sSeq (sAsg (gSubM (mFld cs_words "words" (mVar 0)) (mVar 5)) (mCallF 2 f_entry_of (mCons (mVar 2) (mCons (mVar 3) mNil))))
  (sDrop (mMethF "Pages" "forget" 2 f_Pages_forget (mVar 0) (mCons (m2 fMul (mVar 1) (mC (.int 16))) mNil)))))))
theorem o_Pages_lay : ∃ f : Fc, f = callM 6 4 b_Pages_lay := ⟨_, rfl⟩
def f_Pages_lay : Fc := o_Pages_lay.choose
theorem f_Pages_lay_eq : f_Pages_lay = callM 6 4 b_Pages_lay := o_Pages_lay.choose_spec
/-- Pages_take: 0 self, 1 page, 2 first, 3 place -/
def b_Pages_take : Ev → Hm → SR := (sSeq (sDrop (mMethF "Pages" "check_page" 2 f_Pages_check_page (mVar 0) (mCons (mVar 1) mNil)))
  (sSeq (sAsg (gN 2) (m2 fIx (mFld cs_words "words" (mVar 0)) (m2 fAdd (mFld cs_root "root" (mVar 0)) (m2 fDiv (mVar 1) (mC (.int 16))))))
  (sSeq (sAsg (gN 3) (m2 fAdd (mMethF "Pages" "frame_of" 2 f_Pages_frame_of (mVar 0) (mCons (mVar 2) mNil)) (m2 fMod (mVar 1) (mC (.int 16)))))
  (sSeq (sAsg (gSubM (mFld cs_words "words" (mVar 0)) (mVar 3)) (mC (.int 0)))
  (sDrop (mMethF "Pages" "forget" 2 f_Pages_forget (mVar 0) (mCons (m2 fMul (mVar 1) (mC (.int 16))) mNil)))))))
theorem o_Pages_take : ∃ f : Fc, f = callM 4 2 b_Pages_take := ⟨_, rfl⟩
def f_Pages_take : Fc := o_Pages_take.choose
theorem f_Pages_take_eq : f_Pages_take = callM 4 2 b_Pages_take := o_Pages_take.choose_spec
/-- Pages_look: 0 self, 1 entry, 2 kind -/
def b_Pages_look : Ev → Hm → SR := (sSeq (sIf (mBool (m2 fEq (m2 fMod (mVar 1) (mC (.int 2))) (mC (.int 0))))
  (sRaise "NoWay")
  sNil)
  (sIf (mAnd (mBool (m2 fEq (mVar 2) (mC (.str "write")))) (mBool (m2 fEq (m2 fMod (m2 fDiv (mVar 1) (mC (.int 2))) (mC (.int 2))) (mC (.int 0)))))
  (sRaise "NoWay")
  sNil))
theorem o_Pages_look : ∃ f : Fc, f = callM 3 3 b_Pages_look := ⟨_, rfl⟩
def f_Pages_look : Fc := o_Pages_look.choose
theorem f_Pages_look_eq : f_Pages_look = callM 3 3 b_Pages_look := o_Pages_look.choose_spec
/-- Pages_walk: 0 self, 1 address, 2 kind, 3 first, 4 entry -/
def b_Pages_walk : Ev → Hm → SR := (sSeq (sIf (mNot (mBool (mChain fLe fLt (mC (.int 0)) (mVar 1) (m2 fMul (m2 fMul (mC (.int 16)) (mC (.int 16))) (mC (.int 16))))))
  (sRaise "NoWay")
  sNil)
  (sSeq (sAsg (gN 3) (m2 fIx (mFld cs_words "words" (mVar 0)) (m2 fAdd (mFld cs_root "root" (mVar 0)) (m2 fDiv (mVar 1) (m2 fMul (mC (.int 16)) (mC (.int 16)))))))
  (sSeq (sAsg (gN 4) (m2 fIx (mFld cs_words "words" (mVar 0)) (m2 fAdd (mMethF "Pages" "frame_of" 2 f_Pages_frame_of (mVar 0) (mCons (mVar 3) mNil)) (m2 fMod (m2 fDiv (mVar 1) (mC (.int 16))) (mC (.int 16))))))
  (sSeq (sDrop (mMethF "Pages" "look" 3 f_Pages_look (mVar 0) (mCons (mVar 4) (mCons (mVar 2) mNil))))
  (sRet (m2 fAdd (mMethF "Pages" "frame_of" 2 f_Pages_frame_of (mVar 0) (mCons (mVar 4) mNil)) (m2 fMod (mVar 1) (mC (.int 16)))))))))
theorem o_Pages_walk : ∃ f : Fc, f = callM 5 3 b_Pages_walk := ⟨_, rfl⟩
def f_Pages_walk : Fc := o_Pages_walk.choose
theorem f_Pages_walk_eq : f_Pages_walk = callM 5 3 b_Pages_walk := o_Pages_walk.choose_spec
/-- Pages_found_at: 0 self, 1 address, 2 kind, 3 page, 4 entry, 5 found, 6 first -/
def p_Pages_found_at_0 : Ev → Hm → SR := (sFldA cs_asked "asked" fIAdd (mVar 0) (mC (.int 1)))
def t_Pages_found_at_0 : Ev → Hm → SR := (sDrop (mMethF "Pages" "look" 3 f_Pages_look (mVar 0) (mCons (mVar 4) (mCons (mVar 2) mNil))))
def t_Pages_found_at_1 : Ev → Hm → SR := (sRet (m2 fAdd (mMethF "Pages" "frame_of" 2 f_Pages_frame_of (mVar 0) (mCons (mVar 4) mNil)) (m2 fMod (mVar 1) (mC (.int 16)))))
def t_Pages_found_at_2 : Ev → Hm → SR := (sIf (mBool (m2 fEq (mVar 3) (m2 fDiv (mVar 1) (mC (.int 16)))))
  (sSeq t_Pages_found_at_0
  t_Pages_found_at_1)
  sNil)
def l_Pages_found_at_0 : Ev → Hm → SR := t_Pages_found_at_2
def p_Pages_found_at_1 : Ev → Hm → SR := (sFor (mItA (mFld cs_held "held" (mVar 0))) (gU 2 (gsCons (gN 3) (gsCons (gN 4) gsNil)))
  l_Pages_found_at_0)
def p_Pages_found_at_2 : Ev → Hm → SR := (sFldA cs_missed "missed" fIAdd (mVar 0) (mC (.int 1)))
def p_Pages_found_at_3 : Ev → Hm → SR := (sAsg (gN 5) (mMethF "Pages" "walk" 3 f_Pages_walk (mVar 0) (mCons (mVar 1) (mCons (mVar 2) mNil))))
def p_Pages_found_at_4 : Ev → Hm → SR := (sAsg (gN 6) (m2 fIx (mFld cs_words "words" (mVar 0)) (m2 fAdd (mFld cs_root "root" (mVar 0)) (m2 fDiv (mVar 1) (m2 fMul (mC (.int 16)) (mC (.int 16)))))))
def p_Pages_found_at_5 : Ev → Hm → SR := (sAsg (gN 4) (m2 fIx (mFld cs_words "words" (mVar 0)) (m2 fAdd (mMethF "Pages" "frame_of" 2 f_Pages_frame_of (mVar 0) (mCons (mVar 6) mNil)) (m2 fMod (m2 fDiv (mVar 1) (mC (.int 16))) (mC (.int 16))))))
def t_Pages_found_at_3 : Ev → Hm → SR := (sDrop (mMeth isL fPop (mFld cs_held "held" (mVar 0)) (mCons (mC (.int 0)) mNil)))
def p_Pages_found_at_6 : Ev → Hm → SR := (sIf (mBool (m2 fEq (mCall fLen (mCons (mFld cs_held "held" (mVar 0)) mNil)) (mFld cs_room "room" (mVar 0))))
  t_Pages_found_at_3
  sNil)
def p_Pages_found_at_7 : Ev → Hm → SR := (sDrop (mMeth isL fAppend (mFld cs_held "held" (mVar 0)) (mCons (mTup (mCons (m2 fDiv (mVar 1) (mC (.int 16))) (mCons (mVar 4) mNil))) mNil)))
def p_Pages_found_at_8 : Ev → Hm → SR := (sRet (mVar 5))
def b_Pages_found_at : Ev → Hm → SR := (sSeq p_Pages_found_at_0 (sSeq p_Pages_found_at_1 (sSeq p_Pages_found_at_2 (sSeq p_Pages_found_at_3 (sSeq p_Pages_found_at_4 (sSeq p_Pages_found_at_5 (sSeq p_Pages_found_at_6 (sSeq p_Pages_found_at_7 p_Pages_found_at_8))))))))
theorem o_Pages_found_at : ∃ f : Fc, f = callM 7 3 b_Pages_found_at := ⟨_, rfl⟩
def f_Pages_found_at : Fc := o_Pages_found_at.choose
theorem f_Pages_found_at_eq : f_Pages_found_at = callM 7 3 b_Pages_found_at := o_Pages_found_at.choose_spec
/-- Pages_can: 0 self, 1 address, 2 kind -/
def b_Pages_can : Ev → Hm → SR := (sSeq (sTry cx_NoWay (sDrop (mMethF "Pages" "walk" 3 f_Pages_walk (mVar 0) (mCons (mVar 1) (mCons (mVar 2) mNil))))
  (sRet (mC (.bl false))))
  (sRet (mC (.bl true))))
theorem o_Pages_can : ∃ f : Fc, f = callM 3 3 b_Pages_can := ⟨_, rfl⟩
def f_Pages_can : Fc := o_Pages_can.choose
theorem f_Pages_can_eq : f_Pages_can = callM 3 3 b_Pages_can := o_Pages_can.choose_spec
/-- Pages_pages: 0 self, 1 found, 2 page, 3 place -/
def l_Pages_pages_0 : Ev → Hm → SR := (sSeq (sTry cx_NoWay (sAsg (gN 3) (mMethF "Pages" "walk" 3 f_Pages_walk (mVar 0) (mCons (m2 fMul (mVar 2) (mC (.int 16))) (mCons (mC (.str "read")) mNil))))
  sCont)
  (sDrop (mMeth isL fAppend (mVar 1) (mCons (mTup (mCons (mVar 2) (mCons (m2 fDiv (mVar 3) (mC (.int 16))) (mCons (mMethF "Pages" "can" 3 f_Pages_can (mVar 0) (mCons (m2 fMul (mVar 2) (mC (.int 16))) (mCons (mC (.str "write")) mNil))) mNil)))) mNil))))
def b_Pages_pages : Ev → Hm → SR := (sSeq (sAsg (gN 1) (mLst mNil))
  (sSeq (sFor (mRg1 (mCons (m2 fMul (mC (.int 16)) (mC (.int 16))) mNil)) (gN 2)
  l_Pages_pages_0)
  (sRet (mCall fTuple (mCons (mVar 1) mNil)))))
theorem o_Pages_pages : ∃ f : Fc, f = callM 4 1 b_Pages_pages := ⟨_, rfl⟩
def f_Pages_pages : Fc := o_Pages_pages.choose
theorem f_Pages_pages_eq : f_Pages_pages = callM 4 1 b_Pages_pages := o_Pages_pages.choose_spec
/-- Pages_put_at: 0 self, 1 address, 2 word, 3 place -/
def b_Pages_put_at : Ev → Hm → SR := (sSeq (sAsg (gN 3) (mMethF "Pages" "found_at" 3 f_Pages_found_at (mVar 0) (mCons (mVar 1) (mCons (mC (.str "write")) mNil))))
  (sAsg (gSubM (mFld cs_words "words" (mVar 0)) (mVar 3)) (mVar 2)))
theorem o_Pages_put_at : ∃ f : Fc, f = callM 4 3 b_Pages_put_at := ⟨_, rfl⟩
def f_Pages_put_at : Fc := o_Pages_put_at.choose
theorem f_Pages_put_at_eq : f_Pages_put_at = callM 4 3 b_Pages_put_at := o_Pages_put_at.choose_spec
/-- Pages_word_at: 0 self, 1 address -/
def b_Pages_word_at : Ev → Hm → SR := (sRet (m2 fIx (mFld cs_words "words" (mVar 0)) (mMethF "Pages" "found_at" 3 f_Pages_found_at (mVar 0) (mCons (mVar 1) (mCons (mC (.str "read")) mNil)))))
theorem o_Pages_word_at : ∃ f : Fc, f = callM 2 2 b_Pages_word_at := ⟨_, rfl⟩
def f_Pages_word_at : Fc := o_Pages_word_at.choose
theorem f_Pages_word_at_eq : f_Pages_word_at = callM 2 2 b_Pages_word_at := o_Pages_word_at.choose_spec
/-- _law_written: 0 pages, 1 table, 2 page -/
def t__law_written_0 : Ev → Hm → SR := (sDrop (mMethF "Pages" "put_at" 3 f_Pages_put_at (mVar 0) (mCons (m2 fAdd (m2 fMul (mC (.int 16)) (mVar 2)) (mC (.int 3))) (mCons (m2 fAdd (mC (.int 700)) (mVar 2)) mNil))))
def t__law_written_1 : Ev → Hm → SR := (sIf (mOr (mBool (m2 fNe (mMethF "Pages" "word_at" 2 f_Pages_word_at (mVar 0) (mCons (m2 fAdd (m2 fMul (mC (.int 16)) (mVar 2)) (mC (.int 3))) mNil)) (m2 fAdd (mC (.int 700)) (mVar 2)))) (mBool (m2 fNe (m2 fIx (mFld cs_words "words" (mVar 0)) (m2 fAdd (m2 fMul (mC (.int 16)) (m2 fIx (m2 fIx (mVar 1) (mVar 2)) (mC (.int 0)))) (mC (.int 3)))) (m2 fAdd (mC (.int 700)) (mVar 2)))))
  (sRet (mC (.bl false)))
  sNil)
def t__law_written_2 : Ev → Hm → SR := (sIf (mTru (m2 fIx (m2 fIx (mVar 1) (mVar 2)) (mC (.int 1))))
  (sSeq t__law_written_0
  t__law_written_1)
  sNil)
def l__law_written_0 : Ev → Hm → SR := t__law_written_2
def p__law_written_0 : Ev → Hm → SR := (sLock 1 (sFor (mKeysL 1) (gN 2)
  l__law_written_0))
def p__law_written_1 : Ev → Hm → SR := (sRet (mC (.bl true)))
def b__law_written : Ev → Hm → SR := (sSeq p__law_written_0 p__law_written_1)
theorem o__law_written : ∃ f : Fc, f = callM 3 2 b__law_written := ⟨_, rfl⟩
def f__law_written : Fc := o__law_written.choose
theorem f__law_written_eq : f__law_written = callM 3 2 b__law_written := o__law_written.choose_spec
/-- _law_refused: 0 pages, 1 page -/
def p__law_refused_0 : Ev → Hm → SR := (sDrop (mMethF "Pages" "forget" 2 f_Pages_forget (mVar 0) (mCons (mC .non) mNil)))
def p__law_refused_1 : Ev → Hm → SR := (sIf (mOr (mBool (m2 fNe (mFld cs_held "held" (mVar 0)) (mLst mNil))) (mBool (m2 fNe (mTold told_cs (mMethF "Pages" "found_at" 3 f_Pages_found_at (mVar 0) (mCons (mC (.int 4096)) (mCons (mC (.str "read")) mNil)))) (mC (.str "no way")))))
  (sRet (mC (.bl false)))
  sNil)
def p__law_refused_2 : Ev → Hm → SR := (sIf (mBool (m2 fNe (mTold told_cs (mMethF "Pages" "lay" 4 f_Pages_lay (mVar 0) (mCons (mC (.int 20)) (mCons (mC (.int 3)) (mCons (mC (.bl true)) mNil))))) (mC (.str "no way"))))
  (sRet (mC (.bl false)))
  sNil)
def t__law_refused_0 : Ev → Hm → SR := (sIf (mBool (m2 fNe (mTold told_cs (mMethF "Pages" "lay" 4 f_Pages_lay (mVar 0) (mCons (mVar 1) (mCons (mC (.int 3)) (mCons (mC (.bl true)) mNil))))) (mC (.str "order"))))
  (sRet (mC (.bl false)))
  sNil)
def l__law_refused_0 : Ev → Hm → SR := t__law_refused_0
def p__law_refused_3 : Ev → Hm → SR := (sFor (mItA (mLst (mCons (mC (.int 256)) (mCons (m2 fSub (mC (.int 0)) (mC (.int 1))) mNil)))) (gN 1)
  l__law_refused_0)
def p__law_refused_4 : Ev → Hm → SR := (sIf (mBool (m2 fNe (mTold told_cs (mCallF 2 f_entry_of (mCons (mC (.int 64)) (mCons (mC (.bl true)) mNil)))) (mC (.str "order"))))
  (sRet (mC (.bl false)))
  sNil)
def p__law_refused_5 : Ev → Hm → SR := (sIf (mBool (m2 fNe (mTold told_cs (mMake "Pages" 4 f_Pages___init__ (mCons (m2 fMul (mLst (mCons (mC (.int 0)) mNil)) (mC (.int 5))) (mCons (mC (.int 0)) (mCons (mC (.int 1)) mNil))))) (mC (.str "order"))))
  (sRet (mC (.bl false)))
  sNil)
def p__law_refused_6 : Ev → Hm → SR := (sRet (mC (.bl true)))
def b__law_refused : Ev → Hm → SR := (sSeq p__law_refused_0 (sSeq p__law_refused_1 (sSeq p__law_refused_2 (sSeq p__law_refused_3 (sSeq p__law_refused_4 (sSeq p__law_refused_5 p__law_refused_6))))))
theorem o__law_refused : ∃ f : Fc, f = callM 2 1 b__law_refused := ⟨_, rfl⟩
def f__law_refused : Fc := o__law_refused.choose
theorem f__law_refused_eq : f__law_refused = callM 2 1 b__law_refused := o__law_refused.choose_spec
/-- law: 0 script, 1 dice, 2 room, 3 pages, 4 table, 5 words, 6 asked, 7 held, 8 missed, 9 k, 10 page, 11 kind, 12 address, 13 frame, 14 written, 15 how, 16 good, 17 due, 18 one, 19 entry -/
def q_0 : Ev → Hm → SR := (sAsg (gN 2) (m2 fAdd (mC (.int 1)) (mCallF 2 f__law_roll (mCons (mVar 1) (mCons (mC (.int 4)) mNil)))))
def q_1 : Ev → Hm → SR := (sAsg (gU 6 (gsCons (gN 3) (gsCons (gN 4) (gsCons (gN 5) (gsCons (gN 6) (gsCons (gN 7) (gsCons (gN 8) gsNil))))))) (mTup (mCons (mCallF 2 f_empty (mCons (mC (.int 12)) (mCons (mVar 2) mNil))) (mCons mDic0 (mCons mDic0 (mCons (mC (.int 0)) (mCons (mLst mNil) (mCons (mC (.int 0)) mNil))))))))
def t_law_0 : Ev → Hm → SR := (sAsg (gU 2 (gsCons (gN 10) (gsCons (gN 11) gsNil))) (mTup (mCons (mCallF 2 f__law_roll (mCons (mVar 1) (mCons (mC (.int 5)) mNil))) (mCons (mCallF 2 f__law_roll (mCons (mVar 1) (mCons (mC (.int 6)) mNil))) mNil))))
def t_law_1 : Ev → Hm → SR := (sAsg (gN 12) (m2 fAdd (m2 fMul (mC (.int 16)) (mVar 10)) (mCallF 2 f__law_roll (mCons (mVar 1) (mCons (mC (.int 16)) mNil)))))
def t_law_2 : Ev → Hm → SR := (sPar 13 14 (mCons (m2 fAdd (mC (.int 2)) (mCallF 2 f__law_roll (mCons (mVar 1) (mCons (mC (.int 10)) mNil)))) (mCons (m2 fEq (mCallF 2 f__law_roll (mCons (mVar 1) (mCons (mC (.int 2)) mNil))) (mC (.int 0))) mNil)))
def t_law_3 : Ev → Hm → SR := (sDrop (mMethF "Pages" "lay" 4 f_Pages_lay (mVar 3) (mCons (mVar 10) (mCons (mVar 13) (mCons (mVar 14) mNil)))))
def t_law_4 : Ev → Hm → SR := (sAsg (gSubM (mVar 4) (mVar 10)) (mTup (mCons (mVar 13) (mCons (mVar 14) mNil))))
def t_law_5 : Ev → Hm → SR := (sAsg (gN 7) (mLc [18] (mItA (mVar 7)) (gN 18) (mBool (m2 fNe (mVar 18) (mVar 10))) (mVar 18)))
def t_law_6 : Ev → Hm → SR := (sDrop (mMethF "Pages" "take" 2 f_Pages_take (mVar 3) (mCons (mVar 10) mNil)))
def t_law_7 : Ev → Hm → SR := (sAsg (gN 4) (mCall fDict (mCons (mLock 4 (mLc [18] (mKeysL 4) (gN 18) (mBool (m2 fNe (mVar 18) (mVar 10))) (mTup (mCons (mVar 18) (mCons (m2 fIx (mVar 4) (mVar 18)) mNil))))) mNil)))
def t_law_8 : Ev → Hm → SR := (sAsg (gN 7) (mLc [18] (mItA (mVar 7)) (gN 18) (mBool (m2 fNe (mVar 18) (mVar 10))) (mVar 18)))
def t_law_9 : Ev → Hm → SR := (sAsg (gN 15) (m2 fIx (mLst (mCons (mC (.str "read")) (mCons (mC (.str "write")) mNil))) (m2 fMod (mVar 11) (mC (.int 2)))))
def t_law_10 : Ev → Hm → SR := (sAsg (gN 16) (mAndV (m2 (fIn false) (mVar 10) (mVar 4)) (mOrV (m2 fEq (mVar 15) (mC (.str "read"))) (m2 fIx (m2 fIx (mVar 4) (mVar 10)) (mC (.int 1))))))
def t_law_11 : Ev → Hm → SR := (sAsg (gN 17) (mIf (mTru (mVar 16)) (m2 fAdd (m2 fMul (m2 fIx (m2 fIx (mVar 4) (mVar 10)) (mC (.int 0))) (mC (.int 16))) (m2 fMod (mVar 12) (mC (.int 16)))) (mC (.str "no way"))))
def t_law_12 : Ev → Hm → SR := (sPar 6 8 (mCons (m2 fAdd (mVar 6) (mC (.int 1))) (mCons (m2 fAdd (mVar 8) (mCall fInt (mCons (m2 (fIn true) (mVar 10) (mVar 7)) mNil))) mNil)))
def t_law_13 : Ev → Hm → SR := (sAsg (gN 7) (m2 fAdd (mVar 7) (mLst (mCons (mVar 10) mNil))))
def t_law_14 : Ev → Hm → SR := (sAsg (gN 7) (mIf (mBool (m2 fGt (mCall fLen (mCons (mVar 7) mNil)) (mVar 2))) (mSl (mVar 7) (mSome (m2 fSub (mCall fLen (mCons (mVar 7) mNil)) (mVar 2))) mNo) (mVar 7)))
def t_law_15 : Ev → Hm → SR := (sIf (mAnd (mTru (mVar 16)) (mBool (m2 (fIn true) (mVar 10) (mVar 7))))
  (sSeq t_law_13
  t_law_14)
  sNil)
def t_law_16 : Ev → Hm → SR := (sIf (mBool (m2 fNe (mTold told_cs (mMethF "Pages" "found_at" 3 f_Pages_found_at (mVar 3) (mCons (mVar 12) (mCons (mVar 15) mNil)))) (mVar 17)))
  (sRet (mC (.bl false)))
  sNil)
def t_law_17 : Ev → Hm → SR := (sIf (mOr (mBool (m2 fNe (mTold told_cs (mMethF "Pages" "walk" 3 f_Pages_walk (mVar 3) (mCons (mVar 12) (mCons (mVar 15) mNil)))) (mVar 17))) (mBool (m2 fNe (mMethF "Pages" "can" 3 f_Pages_can (mVar 3) (mCons (mVar 12) (mCons (mVar 15) mNil))) (mVar 16))))
  (sRet (mC (.bl false)))
  sNil)
def t_law_18 : Ev → Hm → SR := (sIf (mBool (m2 fEq (mVar 11) (mC (.int 1))))
  (sSeq t_law_6
  (sSeq t_law_7
  t_law_8))
  (sSeq t_law_9
  (sSeq t_law_10
  (sSeq t_law_11
  (sSeq t_law_12
  (sSeq t_law_15
  (sSeq t_law_16
  t_law_17)))))))
def t_law_19 : Ev → Hm → SR := (sIf (mBool (m2 fEq (mVar 11) (mC (.int 0))))
  (sSeq t_law_2
  (sSeq t_law_3
  (sSeq t_law_4
  t_law_5)))
  t_law_18)
def l_law_0 : Ev → Hm → SR := (sSeq t_law_0
  (sSeq t_law_1
  t_law_19))
def q_2 : Ev → Hm → SR := (sFor (mRg1 (mCons (mCallF 2 f__law_roll (mCons (mVar 1) (mCons (mC (.int 31)) mNil))) mNil)) (gN 9)
  l_law_0)
def q_3 : Ev → Hm → SR := (sIf (mOr (mBool (m2 fNe (mFld cs_asked "asked" (mVar 3)) (mVar 6))) (mOr (mBool (m2 fNe (mFld cs_missed "missed" (mVar 3)) (mVar 8))) (mBool (m2 fNe (mLc [10, 19] (mItA (mFld cs_held "held" (mVar 3))) (gU 2 (gsCons (gN 10) (gsCons (gN 19) gsNil))) tYesM (mVar 10)) (mVar 7)))))
  (sRet (mC (.bl false)))
  sNil)
def q_4 : Ev → Hm → SR := (sIf (mBool (m2 fNe (mMethF "Pages" "pages" 1 f_Pages_pages (mVar 3) mNil) (mCall fTuple (mCons (mLc [10] (mRg1 (mCons (mC (.int 5)) mNil)) (gN 10) (mBool (m2 (fIn false) (mVar 10) (mVar 4))) (mTup (mCons (mVar 10) (mCons (m2 fIx (m2 fIx (mVar 4) (mVar 10)) (mC (.int 0))) (mCons (m2 fIx (m2 fIx (mVar 4) (mVar 10)) (mC (.int 1))) mNil))))) mNil))))
  (sRet (mC (.bl false)))
  sNil)
def q_5 : Ev → Hm → SR := (sIf (mNot (mTru (mCallF 2 f__law_written (mCons (mVar 3) (mCons (mVar 4) mNil)))))
  (sRet (mC (.bl false)))
  sNil)
def q_6 : Ev → Hm → SR := (sIf (mNot (mTru (mCallF 1 f__law_refused (mCons (mVar 3) mNil))))
  (sRet (mC (.bl false)))
  sNil)
def l_law_1 : Ev → Hm → SR := (sSeq q_0 (sSeq q_1 (sSeq q_2 (sSeq q_3 (sSeq q_4 (sSeq q_5 q_6))))))
def t_law_20 : Ev → Hm → SR := (sFor (mItA (mCallF 2 f__law_rounds (mCons (mVar 0) (mCons (mC (.int 3)) mNil)))) (gN 1)
  l_law_1)
def b_law : Ev → Hm → SR := (sSeq t_law_20
  (sRet (mC (.bl true))))
def f_law : Fc := callM 20 1 b_law
end
end K15
end MM

namespace MM
namespace K15
open PySem L2
def top (i : Nat) : Stmt := PySem.Challenge.pw_corehall_k15_pages_and_answers.main.body.getD i (.Pass ⟨0, 0, 0, 0⟩)
def clsB (s : Stmt) : List Stmt := match s with
  | .ClassDef _ _ _ b _ _ _ _ _ _ _ => b
  | _ => []
def inC (i j : Nat) : Stmt := (clsB (top i)).getD j (.Pass ⟨0, 0, 0, 0⟩)
abbrev s__law_dice : Stmt := top 12
def df__law_dice : He.DefD := ⟨("_law_dice", none), "_law_dice", "_law_dice", defArgs s__law_dice, defBody s__law_dice, defScope s__law_dice, [], []⟩
abbrev s__law_rounds : Stmt := top 14
def df__law_rounds : He.DefD := ⟨("_law_rounds", none), "_law_rounds", "_law_rounds", defArgs s__law_rounds, defBody s__law_rounds, defScope s__law_rounds, [], []⟩
abbrev s__law_roll : Stmt := top 13
def df__law_roll : He.DefD := ⟨("_law_roll", none), "_law_roll", "_law_roll", defArgs s__law_roll, defBody s__law_roll, defScope s__law_roll, [], []⟩
abbrev s_entry_of : Stmt := top 9
def df_entry_of : He.DefD := ⟨("entry_of", none), "entry_of", "entry_of", defArgs s_entry_of, defBody s_entry_of, defScope s_entry_of, [], []⟩
abbrev s_Pages___init__ : Stmt := inC 8 0
def df_Pages___init__ : He.DefD := ⟨("Pages", some "__init__"), "__init__", "Pages.__init__", defArgs s_Pages___init__, defBody s_Pages___init__, defScope s_Pages___init__, [], []⟩
abbrev s_empty : Stmt := top 10
def df_empty : He.DefD := ⟨("empty", none), "empty", "empty", defArgs s_empty, defBody s_empty, defScope s_empty, [], []⟩
abbrev s_Pages_check_page : Stmt := inC 8 10
def df_Pages_check_page : He.DefD := ⟨("Pages", some "check_page"), "check_page", "Pages.check_page", defArgs s_Pages_check_page, defBody s_Pages_check_page, defScope s_Pages_check_page, [], []⟩
abbrev s_Pages_frame_of : Stmt := inC 8 2
def df_Pages_frame_of : He.DefD := ⟨("Pages", some "frame_of"), "frame_of", "Pages.frame_of", defArgs s_Pages_frame_of, defBody s_Pages_frame_of, defScope s_Pages_frame_of, [], []⟩
abbrev s_Pages_forget : Stmt := inC 8 5
def df_Pages_forget : He.DefD := ⟨("Pages", some "forget"), "forget", "Pages.forget", defArgs s_Pages_forget, defBody s_Pages_forget, defScope s_Pages_forget, [], []⟩
abbrev s_Pages_lay : Stmt := inC 8 8
def df_Pages_lay : He.DefD := ⟨("Pages", some "lay"), "lay", "Pages.lay", defArgs s_Pages_lay, defBody s_Pages_lay, defScope s_Pages_lay, [], []⟩
abbrev s_Pages_take : Stmt := inC 8 9
def df_Pages_take : He.DefD := ⟨("Pages", some "take"), "take", "Pages.take", defArgs s_Pages_take, defBody s_Pages_take, defScope s_Pages_take, [], []⟩
abbrev s_Pages_look : Stmt := inC 8 3
def df_Pages_look : He.DefD := ⟨("Pages", some "look"), "look", "Pages.look", defArgs s_Pages_look, defBody s_Pages_look, defScope s_Pages_look, [], []⟩
abbrev s_Pages_walk : Stmt := inC 8 1
def df_Pages_walk : He.DefD := ⟨("Pages", some "walk"), "walk", "Pages.walk", defArgs s_Pages_walk, defBody s_Pages_walk, defScope s_Pages_walk, [], []⟩
abbrev s_Pages_found_at : Stmt := inC 8 4
def df_Pages_found_at : He.DefD := ⟨("Pages", some "found_at"), "found_at", "Pages.found_at", defArgs s_Pages_found_at, defBody s_Pages_found_at, defScope s_Pages_found_at, [], []⟩
abbrev s_Pages_can : Stmt := inC 8 12
def df_Pages_can : He.DefD := ⟨("Pages", some "can"), "can", "Pages.can", defArgs s_Pages_can, defBody s_Pages_can, defScope s_Pages_can, [], []⟩
abbrev s_Pages_pages : Stmt := inC 8 11
def df_Pages_pages : He.DefD := ⟨("Pages", some "pages"), "pages", "Pages.pages", defArgs s_Pages_pages, defBody s_Pages_pages, defScope s_Pages_pages, [], []⟩
abbrev s_Pages_put_at : Stmt := inC 8 7
def df_Pages_put_at : He.DefD := ⟨("Pages", some "put_at"), "put_at", "Pages.put_at", defArgs s_Pages_put_at, defBody s_Pages_put_at, defScope s_Pages_put_at, [], []⟩
abbrev s_Pages_word_at : Stmt := inC 8 6
def df_Pages_word_at : He.DefD := ⟨("Pages", some "word_at"), "word_at", "Pages.word_at", defArgs s_Pages_word_at, defBody s_Pages_word_at, defScope s_Pages_word_at, [], []⟩
abbrev s__law_written : Stmt := top 16
def df__law_written : He.DefD := ⟨("_law_written", none), "_law_written", "_law_written", defArgs s__law_written, defBody s__law_written, defScope s__law_written, [], []⟩
abbrev s__law_refused : Stmt := top 17
def df__law_refused : He.DefD := ⟨("_law_refused", none), "_law_refused", "_law_refused", defArgs s__law_refused, defBody s__law_refused, defScope s__law_refused, [], []⟩
abbrev s_law : Stmt := top 18
def df_law : He.DefD := ⟨("law", none), "law", "law", defArgs s_law, defBody s_law, defScope s_law, [], []⟩
abbrev s__law_told : Stmt := top 15
def df__law_told : He.DefD := ⟨("_law_told", none), "_law_told", "_law_told", defArgs s__law_told, defBody s__law_told, defScope s__law_told, [], []⟩
def fa : List He.Fa := [.free "abs", .free "int", .glo "_law_dice", .glo "_law_rounds", .glo "_law_roll", .int "PAGE" 16, .glo "BadOrder", .exc "BadOrder", .glo "entry_of", .free "len", .free "list", .cls "Pages", .noat "Pages" "words", .glo "Pages", .noat "Pages" "root", .noat "Pages" "room", .noat "Pages" "held", .noat "Pages" "asked", .noat "Pages" "missed", .mkr "Pages", .glo "empty", .free "range", .meth "Pages" "check_page", .glo "NoWay", .exc "NoWay", .meth "Pages" "frame_of", .meth "Pages" "forget", .meth "Pages" "lay", .meth "Pages" "take", .free "dict", .glo "_law_told", .exm "BadOrder" "BadOrder" true, .glo "BadProgram", .exm "BadProgram" "BadOrder" false, .exm "BadProgram" "BadProgram" true, .exm "NoWay" "BadOrder" false, .exm "NoWay" "BadProgram" false, .exm "NoWay" "NoWay" true, .glo "TooLarge", .exm "TooLarge" "BadOrder" false, .exm "TooLarge" "BadProgram" false, .exm "TooLarge" "NoWay" false, .exm "TooLarge" "TooLarge" true, .meth "Pages" "look", .meth "Pages" "walk", .meth "Pages" "found_at", .exm "BadOrder" "NoWay" false, .exm "BadProgram" "NoWay" false, .glo "CoreFault", .exm "CoreFault" "NoWay" false, .meth "Pages" "can", .free "tuple", .meth "Pages" "pages", .meth "Pages" "put_at", .meth "Pages" "word_at", .glo "_law_written", .glo "_law_refused", .glo "law"]
def fn : List He.DefD := [df__law_dice, df__law_rounds, df__law_roll, df_entry_of, df_Pages___init__, df_empty, df_Pages_check_page, df_Pages_frame_of, df_Pages_forget, df_Pages_lay, df_Pages_take, df_Pages_look, df_Pages_walk, df_Pages_found_at, df_Pages_can, df_Pages_pages, df_Pages_put_at, df_Pages_word_at, df__law_written, df__law_refused, df_law, df__law_told]
abbrev tfp_0 : He.Defn × Str := (("law", none), ("law" : Str) ++ ".<locals>." ++ "<lambda>")
abbrev tfp_1 : He.Defn × Str := (("_law_refused", none), ("_law_refused" : Str) ++ ".<locals>." ++ "<lambda>")
def tf : List (He.Defn × Str) := [tfp_0, tfp_1]
theorem tfm (i : Nat) {p : He.Defn × Str} (h : tf[i]? = some p := by rfl) : p ∈ tf := List.mem_of_getElem? h
def ex (K : PySem.W.Frag) : Bool := true && tabNd K tf
section
variable {P : Program} {w : World} {K : PySem.W.Frag} {mg : Str → Option Value} {base h : Heap} {T : List (Addr × Str)}
/-- what the head tells -/
structure Cf (K : PySem.W.Frag) : Prop where
  d : He.SaysD fa fn K
  e : ex K = true
section
variable (XI : K.In h) (G : h.Ns mainGlobals mg) (c : Cf K) (TB : ∀ p ∈ tf, LamX.TabB base mg (He.cT K p.1).1 (He.cT K p.1).2)
include c
theorem x_BadOrder : (He.Fa.exc "BadOrder").ok K = true := c.d.fact 7 (f := .exc "BadOrder") rfl
theorem c_Pages : (He.Fa.cls "Pages").ok K = true := c.d.fact 11 (f := .cls "Pages") rfl
theorem a_Pages_words : (He.Fa.noat "Pages" "words").ok K = true := c.d.fact 12 (f := .noat "Pages" "words") rfl
theorem a_Pages_root : (He.Fa.noat "Pages" "root").ok K = true := c.d.fact 14 (f := .noat "Pages" "root") rfl
theorem a_Pages_room : (He.Fa.noat "Pages" "room").ok K = true := c.d.fact 15 (f := .noat "Pages" "room") rfl
theorem a_Pages_held : (He.Fa.noat "Pages" "held").ok K = true := c.d.fact 16 (f := .noat "Pages" "held") rfl
theorem a_Pages_asked : (He.Fa.noat "Pages" "asked").ok K = true := c.d.fact 17 (f := .noat "Pages" "asked") rfl
theorem a_Pages_missed : (He.Fa.noat "Pages" "missed").ok K = true := c.d.fact 18 (f := .noat "Pages" "missed") rfl
theorem k_Pages : (He.Fa.mkr "Pages").ok K = true := c.d.fact 19 (f := .mkr "Pages") rfl
theorem m_Pages_check_page : (He.Fa.meth "Pages" "check_page").ok K = true := c.d.fact 22 (f := .meth "Pages" "check_page") rfl
theorem x_NoWay : (He.Fa.exc "NoWay").ok K = true := c.d.fact 24 (f := .exc "NoWay") rfl
theorem m_Pages_frame_of : (He.Fa.meth "Pages" "frame_of").ok K = true := c.d.fact 25 (f := .meth "Pages" "frame_of") rfl
theorem m_Pages_forget : (He.Fa.meth "Pages" "forget").ok K = true := c.d.fact 26 (f := .meth "Pages" "forget") rfl
theorem m_Pages_lay : (He.Fa.meth "Pages" "lay").ok K = true := c.d.fact 27 (f := .meth "Pages" "lay") rfl
theorem m_Pages_take : (He.Fa.meth "Pages" "take").ok K = true := c.d.fact 28 (f := .meth "Pages" "take") rfl
theorem e_BadOrder_BadOrder : (He.Fa.exm "BadOrder" "BadOrder" true).ok K = true := c.d.fact 31 (f := .exm "BadOrder" "BadOrder" true) rfl
theorem e_BadProgram_BadOrder : (He.Fa.exm "BadProgram" "BadOrder" false).ok K = true := c.d.fact 33 (f := .exm "BadProgram" "BadOrder" false) rfl
theorem e_BadProgram_BadProgram : (He.Fa.exm "BadProgram" "BadProgram" true).ok K = true := c.d.fact 34 (f := .exm "BadProgram" "BadProgram" true) rfl
theorem e_NoWay_BadOrder : (He.Fa.exm "NoWay" "BadOrder" false).ok K = true := c.d.fact 35 (f := .exm "NoWay" "BadOrder" false) rfl
theorem e_NoWay_BadProgram : (He.Fa.exm "NoWay" "BadProgram" false).ok K = true := c.d.fact 36 (f := .exm "NoWay" "BadProgram" false) rfl
theorem e_NoWay_NoWay : (He.Fa.exm "NoWay" "NoWay" true).ok K = true := c.d.fact 37 (f := .exm "NoWay" "NoWay" true) rfl
theorem e_TooLarge_BadOrder : (He.Fa.exm "TooLarge" "BadOrder" false).ok K = true := c.d.fact 39 (f := .exm "TooLarge" "BadOrder" false) rfl
theorem e_TooLarge_BadProgram : (He.Fa.exm "TooLarge" "BadProgram" false).ok K = true := c.d.fact 40 (f := .exm "TooLarge" "BadProgram" false) rfl
theorem e_TooLarge_NoWay : (He.Fa.exm "TooLarge" "NoWay" false).ok K = true := c.d.fact 41 (f := .exm "TooLarge" "NoWay" false) rfl
theorem e_TooLarge_TooLarge : (He.Fa.exm "TooLarge" "TooLarge" true).ok K = true := c.d.fact 42 (f := .exm "TooLarge" "TooLarge" true) rfl
theorem m_Pages_look : (He.Fa.meth "Pages" "look").ok K = true := c.d.fact 43 (f := .meth "Pages" "look") rfl
theorem m_Pages_walk : (He.Fa.meth "Pages" "walk").ok K = true := c.d.fact 44 (f := .meth "Pages" "walk") rfl
theorem m_Pages_found_at : (He.Fa.meth "Pages" "found_at").ok K = true := c.d.fact 45 (f := .meth "Pages" "found_at") rfl
theorem e_BadOrder_NoWay : (He.Fa.exm "BadOrder" "NoWay" false).ok K = true := c.d.fact 46 (f := .exm "BadOrder" "NoWay" false) rfl
theorem e_BadProgram_NoWay : (He.Fa.exm "BadProgram" "NoWay" false).ok K = true := c.d.fact 47 (f := .exm "BadProgram" "NoWay" false) rfl
theorem e_CoreFault_NoWay : (He.Fa.exm "CoreFault" "NoWay" false).ok K = true := c.d.fact 49 (f := .exm "CoreFault" "NoWay" false) rfl
theorem m_Pages_can : (He.Fa.meth "Pages" "can").ok K = true := c.d.fact 50 (f := .meth "Pages" "can") rfl
theorem m_Pages_pages : (He.Fa.meth "Pages" "pages").ok K = true := c.d.fact 52 (f := .meth "Pages" "pages") rfl
theorem m_Pages_put_at : (He.Fa.meth "Pages" "put_at").ok K = true := c.d.fact 53 (f := .meth "Pages" "put_at") rfl
theorem m_Pages_word_at : (He.Fa.meth "Pages" "word_at").ok K = true := c.d.fact 54 (f := .meth "Pages" "word_at") rfl
include XI G
theorem n_abs : mg "abs" = none := He.free_ok XI G (c.d.fact 0 (f := .free "abs") rfl)
theorem n_int : mg "int" = none := He.free_ok XI G (c.d.fact 1 (f := .free "int") rfl)
theorem g__law_dice : mg "_law_dice" = some (.ref (He.ga K "_law_dice")) := He.glo_ok XI G (c.d.fact 2 (f := .glo "_law_dice") rfl)
theorem g__law_rounds : mg "_law_rounds" = some (.ref (He.ga K "_law_rounds")) := He.glo_ok XI G (c.d.fact 3 (f := .glo "_law_rounds") rfl)
theorem g__law_roll : mg "_law_roll" = some (.ref (He.ga K "_law_roll")) := He.glo_ok XI G (c.d.fact 4 (f := .glo "_law_roll") rfl)
theorem i_PAGE : ∃ t, mg "PAGE" = some (.int 16 t) := He.int_ok XI G (c.d.fact 5 (f := .int "PAGE" 16) rfl)
theorem g_BadOrder : mg "BadOrder" = some (.ref (He.ga K "BadOrder")) := He.glo_ok XI G (c.d.fact 6 (f := .glo "BadOrder") rfl)
theorem g_entry_of : mg "entry_of" = some (.ref (He.ga K "entry_of")) := He.glo_ok XI G (c.d.fact 8 (f := .glo "entry_of") rfl)
theorem n_len : mg "len" = none := He.free_ok XI G (c.d.fact 9 (f := .free "len") rfl)
theorem n_list : mg "list" = none := He.free_ok XI G (c.d.fact 10 (f := .free "list") rfl)
theorem g_Pages : mg "Pages" = some (.ref (He.ga K "Pages")) := He.glo_ok XI G (c.d.fact 13 (f := .glo "Pages") rfl)
theorem g_empty : mg "empty" = some (.ref (He.ga K "empty")) := He.glo_ok XI G (c.d.fact 20 (f := .glo "empty") rfl)
theorem n_range : mg "range" = none := He.free_ok XI G (c.d.fact 21 (f := .free "range") rfl)
theorem g_NoWay : mg "NoWay" = some (.ref (He.ga K "NoWay")) := He.glo_ok XI G (c.d.fact 23 (f := .glo "NoWay") rfl)
theorem n_dict : mg "dict" = none := He.free_ok XI G (c.d.fact 29 (f := .free "dict") rfl)
theorem g__law_told : mg "_law_told" = some (.ref (He.ga K "_law_told")) := He.glo_ok XI G (c.d.fact 30 (f := .glo "_law_told") rfl)
theorem g_BadProgram : mg "BadProgram" = some (.ref (He.ga K "BadProgram")) := He.glo_ok XI G (c.d.fact 32 (f := .glo "BadProgram") rfl)
theorem g_TooLarge : mg "TooLarge" = some (.ref (He.ga K "TooLarge")) := He.glo_ok XI G (c.d.fact 38 (f := .glo "TooLarge") rfl)
theorem g_CoreFault : mg "CoreFault" = some (.ref (He.ga K "CoreFault")) := He.glo_ok XI G (c.d.fact 48 (f := .glo "CoreFault") rfl)
theorem n_tuple : mg "tuple" = none := He.free_ok XI G (c.d.fact 51 (f := .free "tuple") rfl)
theorem g__law_written : mg "_law_written" = some (.ref (He.ga K "_law_written")) := He.glo_ok XI G (c.d.fact 55 (f := .glo "_law_written") rfl)
theorem g__law_refused : mg "_law_refused" = some (.ref (He.ga K "_law_refused")) := He.glo_ok XI G (c.d.fact 56 (f := .glo "_law_refused") rfl)
theorem g_law : mg "law" = some (.ref (He.ga K "law")) := He.glo_ok XI G (c.d.fact 57 (f := .glo "law") rfl)
theorem fo_words : ∀ c ∈ cs_words, ∀ C, mg c = some (.ref C) → Cls K C ∧ NoAttr K C "words" := by
  intro x hx C e
  unfold cs_words at hx
  simp only [List.mem_cons, List.not_mem_nil, or_false] at hx
  rcases hx with rfl
  · rw [g_Pages XI G c] at e
    cases e
    exact ⟨He.cls_ok (c_Pages c), He.noat_ok (a_Pages_words c)⟩
theorem fo_root : ∀ c ∈ cs_root, ∀ C, mg c = some (.ref C) → Cls K C ∧ NoAttr K C "root" := by
  intro x hx C e
  unfold cs_root at hx
  simp only [List.mem_cons, List.not_mem_nil, or_false] at hx
  rcases hx with rfl
  · rw [g_Pages XI G c] at e
    cases e
    exact ⟨He.cls_ok (c_Pages c), He.noat_ok (a_Pages_root c)⟩
theorem fo_room : ∀ c ∈ cs_room, ∀ C, mg c = some (.ref C) → Cls K C ∧ NoAttr K C "room" := by
  intro x hx C e
  unfold cs_room at hx
  simp only [List.mem_cons, List.not_mem_nil, or_false] at hx
  rcases hx with rfl
  · rw [g_Pages XI G c] at e
    cases e
    exact ⟨He.cls_ok (c_Pages c), He.noat_ok (a_Pages_room c)⟩
theorem fo_held : ∀ c ∈ cs_held, ∀ C, mg c = some (.ref C) → Cls K C ∧ NoAttr K C "held" := by
  intro x hx C e
  unfold cs_held at hx
  simp only [List.mem_cons, List.not_mem_nil, or_false] at hx
  rcases hx with rfl
  · rw [g_Pages XI G c] at e
    cases e
    exact ⟨He.cls_ok (c_Pages c), He.noat_ok (a_Pages_held c)⟩
theorem fo_asked : ∀ c ∈ cs_asked, ∀ C, mg c = some (.ref C) → Cls K C ∧ NoAttr K C "asked" := by
  intro x hx C e
  unfold cs_asked at hx
  simp only [List.mem_cons, List.not_mem_nil, or_false] at hx
  rcases hx with rfl
  · rw [g_Pages XI G c] at e
    cases e
    exact ⟨He.cls_ok (c_Pages c), He.noat_ok (a_Pages_asked c)⟩
theorem fo_missed : ∀ c ∈ cs_missed, ∀ C, mg c = some (.ref C) → Cls K C ∧ NoAttr K C "missed" := by
  intro x hx C e
  unfold cs_missed at hx
  simp only [List.mem_cons, List.not_mem_nil, or_false] at hx
  rcases hx with rfl
  · rw [g_Pages XI G c] at e
    cases e
    exact ⟨He.cls_ok (c_Pages c), He.noat_ok (a_Pages_missed c)⟩
theorem tx_NoWay : ∀ x b, lookB cx_NoWay x = some b → ∀ C, mg x = some (.ref C) → PySem.W.exmOne K (.ref C) (.ref (He.ga K "NoWay")) = some b := by
  intro x b e C eC
  unfold cx_NoWay at e
  simp only [lookB] at e
  split at e
  · rename_i hx
    subst hx
    cases e
    rw [g_NoWay XI G c] at eC
    cases eC
    exact He.exm_ok (e_NoWay_NoWay c)
  split at e
  · rename_i hx
    subst hx
    cases e
    rw [g_TooLarge XI G c] at eC
    cases eC
    exact He.exm_ok (e_TooLarge_NoWay c)
  split at e
  · rename_i hx
    subst hx
    cases e
    rw [g_BadOrder XI G c] at eC
    cases eC
    exact He.exm_ok (e_BadOrder_NoWay c)
  split at e
  · rename_i hx
    subst hx
    cases e
    rw [g_BadProgram XI G c] at eC
    cases eC
    exact He.exm_ok (e_BadProgram_NoWay c)
  split at e
  · rename_i hx
    subst hx
    cases e
    rw [g_CoreFault XI G c] at eC
    cases eC
    exact He.exm_ok (e_CoreFault_NoWay c)
  cases e
omit XI G in
theorem tnd : tabNd K tf = true := (He.ba c.e).2
omit XI G c in
theorem sc__law_told : FnScope ["what"] ["what"] (defScope s__law_told) := ⟨rfl, rfl, rfl, by decide +kernel, rfl, by decide +kernel, by decide +kernel⟩
theorem td : ToldOk K mg "_law_told" (He.ga K "_law_told") told_cs := by
  obtain ⟨fd, F⟩ := c.d.def_ 21 (d := df__law_told) rfl
  refine ⟨"what", _, _, _, _, _, _, _, _, ["what"], _, fd, F, F.bindsN (fun _ _ _ _ _ _ us hl => match us, hl with | [_], _ => rfl), sc__law_told, rfl, Or.inl rfl, (Hds.cons rfl (g_BadOrder XI G c) rfl (Hds.cons rfl (g_BadProgram XI G c) rfl (Hds.cons rfl (g_NoWay XI G c) rfl (Hds.cons rfl (g_TooLarge XI G c) rfl .nil)))), fun f => rfl, ?_, rfl, rfl⟩
  intro x t e C eC Q H qq
  unfold told_cs at e
  simp only [tellL] at e
  split at e
  · rename_i hx
    subst hx
    cases e
    rw [g_BadOrder XI G c] at eC
    cases eC
    exact ⟨true, He.exm_ok (e_BadOrder_BadOrder c), fun _ => qq, fun z => by cases z⟩
  split at e
  · rename_i hx
    subst hx
    cases e
    rw [g_BadProgram XI G c] at eC
    cases eC
    exact ⟨false, He.exm_ok (e_BadProgram_BadOrder c), fun z => (by cases z), fun _ => ⟨true, He.exm_ok (e_BadProgram_BadProgram c), fun _ => qq, fun z => by cases z⟩⟩
  split at e
  · rename_i hx
    subst hx
    cases e
    rw [g_NoWay XI G c] at eC
    cases eC
    exact ⟨false, He.exm_ok (e_NoWay_BadOrder c), fun z => (by cases z), fun _ => ⟨false, He.exm_ok (e_NoWay_BadProgram c), fun z => (by cases z), fun _ => ⟨true, He.exm_ok (e_NoWay_NoWay c), fun _ => qq, fun z => by cases z⟩⟩⟩
  split at e
  · rename_i hx
    subst hx
    cases e
    rw [g_TooLarge XI G c] at eC
    cases eC
    exact ⟨false, He.exm_ok (e_TooLarge_BadOrder c), fun z => (by cases z), fun _ => ⟨false, He.exm_ok (e_TooLarge_BadProgram c), fun z => (by cases z), fun _ => ⟨false, He.exm_ok (e_TooLarge_NoWay c), fun z => (by cases z), fun _ => ⟨true, He.exm_ok (e_TooLarge_TooLarge c), fun _ => qq, fun z => by cases z⟩⟩⟩⟩
  cases e
include TB
def N__law_dice : List Str := ["cell"]
omit XI G c TB in
theorem sc__law_dice : FnScope N__law_dice ["cell"] (defScope s__law_dice) := ⟨rfl, rfl, rfl, by decide +kernel, rfl, by decide +kernel, by decide +kernel⟩
theorem w__law_dice : FunM P w K mg base (tabT K tf) 1 (He.ga K "_law_dice") 1 f__law_dice := by
  obtain ⟨fd, F⟩ := c.d.def_ 0 (d := df__law_dice) rfl
  refine def_m (k := 0) (N := N__law_dice) F sc__law_dice (fun _ _ _ _ _ _ us hl => match us, hl with | [_], _ => rfl) fun cdv  A outer s H E hr tk hp => ?_
  have hu1 := hu_of hr
  have hu4 := hr.units
  have hu5 := hu65 hr
  have nd := sc__law_dice.nd
  exact (ssm_cons (sm_if (tm_chain op_lt o2_B0 op_lt o2_B0 (em_sub em_int em_int) (em_var 0) em_int)
  (ssm_one (sm_ret (em_lst (am_cons (em_callB call_abs oc_abs rfl (n_abs XI G c) (am_cons (em_var 0) am_nil) rfl) (am_cons em_int (am_cons em_int am_nil))) (len_cons (len_cons (len_cons len_nil))))))
  ssm_nil)
  (ssm_one (sm_ret (em_lst (am_cons (em_var 0) (am_cons (em_add em_int (em_mod (em_callTy call_int1 oc_int rfl (n_int XI G c) (am_cons (em_var 0) am_nil) rfl) em_int)) (am_cons (em_callTy call_int1 oc_int rfl (n_int XI G c) (am_cons (em_ge (em_var 0) (em_pow em_int em_int)) am_nil) rfl) am_nil))) (len_cons (len_cons (len_cons len_nil)))))))
def N__law_rounds : List Str := ["script", "most", "cells", "cell"]
omit XI G c TB in
theorem sc__law_rounds : FnScope N__law_rounds ["script", "most"] (defScope s__law_rounds) := ⟨rfl, rfl, rfl, by decide +kernel, rfl, by decide +kernel, by decide +kernel⟩
theorem w__law_rounds : FunM P w K mg base (tabT K tf) 2 (He.ga K "_law_rounds") 2 f__law_rounds := by
  obtain ⟨fd, F⟩ := c.d.def_ 1 (d := df__law_rounds) rfl
  refine def_m (k := 1) (N := N__law_rounds) F sc__law_rounds (fun _ _ _ _ _ _ us hl => match us, hl with | [_, _], _ => rfl) fun cdv  A outer s H E hr tk hp => ?_
  have hu1 := hu_of hr
  have hu4 := hr.units
  have hu5 := hu65 hr
  have nd := sc__law_rounds.nd
  exact (ssm_cons (sm_set 2 nd (em_sl (em_var 0) om_none (om_some (em_var 1))))
  (ssm_cons (sm_if (tm_eq hu4 (em_var 2) (em_lst am_nil len_nil))
  (ssm_one (sm_set 2 nd (em_lst (am_cons em_int am_nil) (len_cons len_nil))))
  ssm_nil)
  (ssm_one (sm_ret (em_lc [("cell", 3)] rfl nd (im_any (em_var 2)) (blkOk_by rfl) (fun _ _ _ _ _ => (gw_name 3 nd)) (fun _ _ _ _ _ => tsm_nil) (fun _ _ _ _ _ => (em_call (w__law_dice XI G c TB) hr (by decide) rfl (g__law_dice XI G c) takesF (am_cons (em_var 3) am_nil))))))))
def N__law_roll : List Str := ["dice", "many", "found"]
omit XI G c TB in
theorem sc__law_roll : FnScope N__law_roll ["dice", "many"] (defScope s__law_roll) := ⟨rfl, rfl, rfl, by decide +kernel, rfl, by decide +kernel, by decide +kernel⟩
theorem w__law_roll : FunM P w K mg base (tabT K tf) 1 (He.ga K "_law_roll") 2 f__law_roll := by
  obtain ⟨fd, F⟩ := c.d.def_ 2 (d := df__law_roll) rfl
  refine def_m (k := 0) (N := N__law_roll) F sc__law_roll (fun _ _ _ _ _ _ us hl => match us, hl with | [_, _], _ => rfl) fun cdv  A outer s H E hr tk hp => ?_
  have hu1 := hu_of hr
  have hu4 := hr.units
  have hu5 := hu65 hr
  have nd := sc__law_roll.nd
  exact (ssm_cons (sm_if (tm_wm (wm_or (tm_eq hu4 (em_ix hu1 (em_var 0) em_int) em_int) (wm_or1 (tm_wm (wm_and (tm_eq hu4 (em_ix hu1 (em_var 0) em_int) em_int) (wm_and1 (tm_gt (em_ix hu1 (em_var 0) em_int) em_int)))))))
  (ssm_cons (sm_set 2 nd (em_mod (em_callTy call_int1 oc_int rfl (n_int XI G c) (am_cons (em_ix hu1 (em_var 0) em_int) am_nil) rfl) (em_var 1)))
  (ssm_cons (sm_asg (gm_sub hu1 (em_var 0) em_int) (em_div (em_ix hu1 (em_var 0) em_int) (em_var 1)))
  (ssm_one (sm_ret (em_var 2)))))
  ssm_nil)
  (ssm_cons (sm_asg (gm_sub hu1 (em_var 0) em_int) em_int)
  (ssm_cons (sm_asg (gm_sub hu1 (em_var 0) em_int) (em_mod (em_callTy call_int1 oc_int rfl (n_int XI G c) (am_cons (em_add (em_add (em_mul (em_ix hu1 (em_var 0) em_int) em_int) (em_mul (em_ix hu1 (em_var 0) em_int) em_int)) em_int) am_nil) rfl) em_int))
  (ssm_cons (sm_asg (gm_sub hu1 (em_var 0) em_int) (em_add (em_ix hu1 (em_var 0) em_int) em_int))
  (ssm_one (sm_ret (em_mod (em_callTy call_int1 oc_int rfl (n_int XI G c) (am_cons (em_add (em_div (em_ix hu1 (em_var 0) em_int) em_int) (em_ix hu1 (em_var 0) em_int)) am_nil) rfl) (em_var 1))))))))
def N_entry_of : List Str := ["frame", "written"]
omit XI G c TB in
theorem sc_entry_of : FnScope N_entry_of ["frame", "written"] (defScope s_entry_of) := ⟨rfl, rfl, rfl, by decide +kernel, rfl, by decide +kernel, by decide +kernel⟩
theorem w_entry_of : FunM P w K mg base (tabT K tf) 1 (He.ga K "entry_of") 2 f_entry_of := by
  obtain ⟨fd, F⟩ := c.d.def_ 3 (d := df_entry_of) rfl
  rw [f_entry_of_eq]
  refine def_m (k := 0) (N := N_entry_of) F sc_entry_of (fun _ _ _ _ _ _ us hl => match us, hl with | [_, _], _ => rfl) fun cdv  A outer s H E hr tk hp => ?_
  have hu1 := hu_of hr
  have hu4 := hr.units
  have hu5 := hu65 hr
  have nd := sc_entry_of.nd
  exact (ssm_cons (sm_if (tm_not (tm_chain op_le o2_B0 op_lt o2_B0 em_int (em_var 0) em_int))
  (ssm_one (sm_raise rfl tk PySem.F.excBase_ValueError (He.exc_ok (x_BadOrder c)).1 (g_BadOrder XI G c) (He.exc_ok (x_BadOrder c)).2.1 (raises_own (He.exc_ok (x_BadOrder c)).2.2.1 (He.exc_ok (x_BadOrder c)).2.2.2) rfl))
  ssm_nil)
  (ssm_one (sm_ret (em_add (em_add (em_mul (em_var 0) em_int) (em_mul em_int (em_callTy call_int1 oc_int rfl (n_int XI G c) (am_cons (em_var 1) am_nil) rfl))) em_int))))
def N_Pages___init__ : List Str := ["self", "words", "root", "room"]
omit XI G c TB in
theorem sc_Pages___init__ : FnScope N_Pages___init__ ["self", "words", "root", "room"] (defScope s_Pages___init__) := ⟨rfl, rfl, rfl, by decide +kernel, rfl, by decide +kernel, by decide +kernel⟩
theorem w_Pages___init__ : FunM P w K mg base (tabT K tf) 1 (He.ma K (He.ga K "Pages") "__init__") 4 f_Pages___init__ := by
  obtain ⟨fd, F⟩ := c.d.def_ 4 (d := df_Pages___init__) rfl
  rw [f_Pages___init___eq]
  refine def_m (k := 0) (N := N_Pages___init__) F sc_Pages___init__ (fun _ _ _ _ _ _ us hl => match us, hl with | [_, _, _, _], _ => rfl) fun cdv  A outer s H E hr tk hp => ?_
  have hu1 := hu_of hr
  have hu4 := hr.units
  have hu5 := hu65 hr
  have nd := sc_Pages___init__.nd
  exact (ssm_cons (sm_if (tm_wm (wm_or (tm_ne hu4 (em_mod (em_callB cr_len oc_len rfl (n_len XI G c) (am_cons (em_var 1) am_nil) rfl) (em_globI rfl (i_PAGE XI G c))) em_int) (wm_or (tm_ne hu4 (em_mod (em_var 2) (em_globI rfl (i_PAGE XI G c))) em_int) (wm_or (tm_not (tm_chain op_le o2_B0 op_lt o2_B0 em_int (em_var 2) (em_callB cr_len oc_len rfl (n_len XI G c) (am_cons (em_var 1) am_nil) rfl))) (wm_or1 (tm_lt (em_var 3) em_int))))))
  (ssm_one (sm_raise rfl tk PySem.F.excBase_ValueError (He.exc_ok (x_BadOrder c)).1 (g_BadOrder XI G c) (He.exc_ok (x_BadOrder c)).2.1 (raises_own (He.exc_ok (x_BadOrder c)).2.2.1 (He.exc_ok (x_BadOrder c)).2.2.2) rfl))
  ssm_nil)
  (ssm_cons (sm_fld (fo_words XI G c) (em_var 0) (em_callTy call_list_of oc_list rfl (n_list XI G c) (am_cons (em_var 1) am_nil) rfl))
  (ssm_cons (sm_fld (fo_root XI G c) (em_var 0) (em_var 2))
  (ssm_cons (sm_fld (fo_room XI G c) (em_var 0) (em_var 3))
  (ssm_cons (sm_fld (fo_held XI G c) (em_var 0) (em_lst am_nil len_nil))
  (ssm_cons (sm_fld (fo_asked XI G c) (em_var 0) em_int)
  (ssm_one (sm_fld (fo_missed XI G c) (em_var 0) em_int))))))))
def N_empty : List Str := ["frames", "room", "words"]
omit XI G c TB in
theorem sc_empty : FnScope N_empty ["frames", "room"] (defScope s_empty) := ⟨rfl, rfl, rfl, by decide +kernel, rfl, by decide +kernel, by decide +kernel⟩
theorem w_empty : FunM P w K mg base (tabT K tf) 3 (He.ga K "empty") 2 f_empty := by
  obtain ⟨fd, F⟩ := c.d.def_ 5 (d := df_empty) rfl
  rw [f_empty_eq]
  refine def_m (k := 2) (N := N_empty) F sc_empty (fun _ _ _ _ _ _ us hl => match us, hl with | [_, _], _ => rfl) fun cdv  A outer s H E hr tk hp => ?_
  have hu1 := hu_of hr
  have hu4 := hr.units
  have hu5 := hu65 hr
  have nd := sc_empty.nd
  exact (ssm_cons (sm_set 2 nd (em_mul (em_lst (am_cons em_int am_nil) (len_cons len_nil)) (em_mul (em_var 0) (em_globI rfl (i_PAGE XI G c)))))
  (ssm_cons (sm_asg (gm_sub hu1 (em_var 2) em_int) (em_call (w_entry_of XI G c TB) hr (by decide) rfl (g_entry_of XI G c) tk (am_cons em_int (am_cons em_bl am_nil))))
  (ssm_one (sm_ret (em_make (He.mkr_ok (k_Pages c)) (w_Pages___init__ XI G c TB) hr (by decide) rfl (g_Pages XI G c) tk (am_cons (em_var 2) (am_cons em_int (am_cons (em_var 1) am_nil))))))))
def N_Pages_check_page : List Str := ["self", "page"]
omit XI G c TB in
theorem sc_Pages_check_page : FnScope N_Pages_check_page ["self", "page"] (defScope s_Pages_check_page) := ⟨rfl, rfl, rfl, by decide +kernel, rfl, by decide +kernel, by decide +kernel⟩
theorem w_Pages_check_page : FunM P w K mg base (tabT K tf) 1 (He.ma K (He.ga K "Pages") "check_page") 2 f_Pages_check_page := by
  obtain ⟨fd, F⟩ := c.d.def_ 6 (d := df_Pages_check_page) rfl
  rw [f_Pages_check_page_eq]
  refine def_m (k := 0) (N := N_Pages_check_page) F sc_Pages_check_page (fun _ _ _ _ _ _ us hl => match us, hl with | [_, _], _ => rfl) fun cdv  A outer s H E hr tk hp => ?_
  have hu1 := hu_of hr
  have hu4 := hr.units
  have hu5 := hu65 hr
  have nd := sc_Pages_check_page.nd
  exact (ssm_one (sm_if (tm_not (tm_chain op_le o2_B0 op_lt o2_B0 em_int (em_var 1) (em_mul (em_globI rfl (i_PAGE XI G c)) (em_globI rfl (i_PAGE XI G c)))))
  (ssm_one (sm_raise rfl tk PySem.F.excBase_ValueError (He.exc_ok (x_BadOrder c)).1 (g_BadOrder XI G c) (He.exc_ok (x_BadOrder c)).2.1 (raises_own (He.exc_ok (x_BadOrder c)).2.2.1 (He.exc_ok (x_BadOrder c)).2.2.2) rfl))
  ssm_nil))
def N_Pages_frame_of : List Str := ["self", "entry", "place"]
omit XI G c TB in
theorem sc_Pages_frame_of : FnScope N_Pages_frame_of ["self", "entry"] (defScope s_Pages_frame_of) := ⟨rfl, rfl, rfl, by decide +kernel, rfl, by decide +kernel, by decide +kernel⟩
theorem w_Pages_frame_of : FunM P w K mg base (tabT K tf) 1 (He.ma K (He.ga K "Pages") "frame_of") 2 f_Pages_frame_of := by
  obtain ⟨fd, F⟩ := c.d.def_ 7 (d := df_Pages_frame_of) rfl
  rw [f_Pages_frame_of_eq]
  refine def_m (k := 0) (N := N_Pages_frame_of) F sc_Pages_frame_of (fun _ _ _ _ _ _ us hl => match us, hl with | [_, _], _ => rfl) fun cdv  A outer s H E hr tk hp => ?_
  have hu1 := hu_of hr
  have hu4 := hr.units
  have hu5 := hu65 hr
  have nd := sc_Pages_frame_of.nd
  exact (ssm_cons (sm_if (tm_eq hu4 (em_mod (em_var 1) em_int) em_int)
  (ssm_one (sm_raise rfl tk PySem.F.excBase_ValueError (He.exc_ok (x_NoWay c)).1 (g_NoWay XI G c) (He.exc_ok (x_NoWay c)).2.1 (raises_own (He.exc_ok (x_NoWay c)).2.2.1 (He.exc_ok (x_NoWay c)).2.2.2) rfl))
  ssm_nil)
  (ssm_cons (sm_set 2 nd (em_mul (em_mod (em_div (em_var 1) em_int) em_int) (em_globI rfl (i_PAGE XI G c))))
  (ssm_cons (sm_if (tm_gt (em_add (em_var 2) (em_globI rfl (i_PAGE XI G c))) (em_callB cr_len oc_len rfl (n_len XI G c) (am_cons (em_fld (fo_words XI G c) (em_var 0)) am_nil) rfl))
  (ssm_one (sm_raise rfl tk PySem.F.excBase_ValueError (He.exc_ok (x_NoWay c)).1 (g_NoWay XI G c) (He.exc_ok (x_NoWay c)).2.1 (raises_own (He.exc_ok (x_NoWay c)).2.2.1 (He.exc_ok (x_NoWay c)).2.2.2) rfl))
  ssm_nil)
  (ssm_one (sm_ret (em_var 2))))))
def N_Pages_forget : List Str := ["self", "address", "pair"]
omit XI G c TB in
theorem sc_Pages_forget : FnScope N_Pages_forget ["self", "address"] (defScope s_Pages_forget) := ⟨rfl, rfl, rfl, by decide +kernel, rfl, by decide +kernel, by decide +kernel⟩
theorem w_Pages_forget : FunM P w K mg base (tabT K tf) 1 (He.ma K (He.ga K "Pages") "forget") 2 f_Pages_forget := by
  obtain ⟨fd, F⟩ := c.d.def_ 8 (d := df_Pages_forget) rfl
  rw [f_Pages_forget_eq]
  refine def_m (k := 0) (N := N_Pages_forget) F sc_Pages_forget (fun _ _ _ _ _ _ us hl => match us, hl with | [_, _], _ => rfl) fun cdv  A outer s H E hr tk hp => ?_
  have hu1 := hu_of hr
  have hu4 := hr.units
  have hu5 := hu65 hr
  have nd := sc_Pages_forget.nd
  exact (ssm_one (sm_fld (fo_held XI G c) (em_var 0) (em_if (tm_is (em_var 1) em_non) (em_lst am_nil len_nil) (em_lc [("pair", 2)] rfl nd (im_any (em_fld (fo_held XI G c) (em_var 0))) (blkOk_by rfl) (fun _ _ _ _ _ => (gw_name 2 nd)) (fun _ _ _ _ _ => (tsm_one (tm_ne hu4 (em_ix hu1 (em_var 2) em_int) (em_div (em_var 1) (em_globI rfl (i_PAGE XI G c)))))) (fun _ _ _ _ _ => (em_var 2))))))
def N_Pages_lay : List Str := ["self", "page", "frame", "written", "first", "place"]
omit XI G c TB in
theorem sc_Pages_lay : FnScope N_Pages_lay ["self", "page", "frame", "written"] (defScope s_Pages_lay) := ⟨rfl, rfl, rfl, by decide +kernel, rfl, by decide +kernel, by decide +kernel⟩
theorem w_Pages_lay : FunM P w K mg base (tabT K tf) 2 (He.ma K (He.ga K "Pages") "lay") 4 f_Pages_lay := by
  obtain ⟨fd, F⟩ := c.d.def_ 9 (d := df_Pages_lay) rfl
  rw [f_Pages_lay_eq]
  refine def_m (k := 1) (N := N_Pages_lay) F sc_Pages_lay (fun _ _ _ _ _ _ us hl => match us, hl with | [_, _, _, _], _ => rfl) fun cdv  A outer s H E hr tk hp => ?_
  have hu1 := hu_of hr
  have hu4 := hr.units
  have hu5 := hu65 hr
  have nd := sc_Pages_lay.nd
  exact (ssm_cons (sm_expr (em_meth (He.cls_ok (c_Pages c)) (He.meth_ok (m_Pages_check_page c)) (w_Pages_check_page XI G c TB) hr (by decide) (g_Pages XI G c) tk (em_var 0) (am_cons (em_var 1) am_nil)))
  (ssm_cons (sm_set 4 nd (em_ix hu1 (em_fld (fo_words XI G c) (em_var 0)) (em_add (em_fld (fo_root XI G c) (em_var 0)) (em_div (em_var 1) (em_globI rfl (i_PAGE XI G c))))))
  (ssm_cons (sm_set 5 nd (em_add (em_meth (He.cls_ok (c_Pages c)) (He.meth_ok (m_Pages_frame_of c)) (w_Pages_frame_of XI G c TB) hr (by decide) (g_Pages XI G c) tk (em_var 0) (am_cons (em_var 4) am_nil)) (em_mod (em_var 1) (em_globI rfl (i_PAGE XI G c)))))
  (ssm_cons (sm_asg (gm_sub hu1 (em_fld (fo_words XI G c) (em_var 0)) (em_var 5)) (em_call (w_entry_of XI G c TB) hr (by decide) rfl (g_entry_of XI G c) tk (am_cons (em_var 2) (am_cons (em_var 3) am_nil))))
  (ssm_one (sm_expr (em_meth (He.cls_ok (c_Pages c)) (He.meth_ok (m_Pages_forget c)) (w_Pages_forget XI G c TB) hr (by decide) (g_Pages XI G c) tk (em_var 0) (am_cons (em_mul (em_var 1) (em_globI rfl (i_PAGE XI G c))) am_nil))))))))
def N_Pages_take : List Str := ["self", "page", "first", "place"]
omit XI G c TB in
theorem sc_Pages_take : FnScope N_Pages_take ["self", "page"] (defScope s_Pages_take) := ⟨rfl, rfl, rfl, by decide +kernel, rfl, by decide +kernel, by decide +kernel⟩
theorem w_Pages_take : FunM P w K mg base (tabT K tf) 2 (He.ma K (He.ga K "Pages") "take") 2 f_Pages_take := by
  obtain ⟨fd, F⟩ := c.d.def_ 10 (d := df_Pages_take) rfl
  rw [f_Pages_take_eq]
  refine def_m (k := 1) (N := N_Pages_take) F sc_Pages_take (fun _ _ _ _ _ _ us hl => match us, hl with | [_, _], _ => rfl) fun cdv  A outer s H E hr tk hp => ?_
  have hu1 := hu_of hr
  have hu4 := hr.units
  have hu5 := hu65 hr
  have nd := sc_Pages_take.nd
  exact (ssm_cons (sm_expr (em_meth (He.cls_ok (c_Pages c)) (He.meth_ok (m_Pages_check_page c)) (w_Pages_check_page XI G c TB) hr (by decide) (g_Pages XI G c) tk (em_var 0) (am_cons (em_var 1) am_nil)))
  (ssm_cons (sm_set 2 nd (em_ix hu1 (em_fld (fo_words XI G c) (em_var 0)) (em_add (em_fld (fo_root XI G c) (em_var 0)) (em_div (em_var 1) (em_globI rfl (i_PAGE XI G c))))))
  (ssm_cons (sm_set 3 nd (em_add (em_meth (He.cls_ok (c_Pages c)) (He.meth_ok (m_Pages_frame_of c)) (w_Pages_frame_of XI G c TB) hr (by decide) (g_Pages XI G c) tk (em_var 0) (am_cons (em_var 2) am_nil)) (em_mod (em_var 1) (em_globI rfl (i_PAGE XI G c)))))
  (ssm_cons (sm_asg (gm_sub hu1 (em_fld (fo_words XI G c) (em_var 0)) (em_var 3)) em_int)
  (ssm_one (sm_expr (em_meth (He.cls_ok (c_Pages c)) (He.meth_ok (m_Pages_forget c)) (w_Pages_forget XI G c TB) hr (by decide) (g_Pages XI G c) tk (em_var 0) (am_cons (em_mul (em_var 1) (em_globI rfl (i_PAGE XI G c))) am_nil))))))))
def N_Pages_look : List Str := ["self", "entry", "kind"]
omit XI G c TB in
theorem sc_Pages_look : FnScope N_Pages_look ["self", "entry", "kind"] (defScope s_Pages_look) := ⟨rfl, rfl, rfl, by decide +kernel, rfl, by decide +kernel, by decide +kernel⟩
theorem w_Pages_look : FunM P w K mg base (tabT K tf) 1 (He.ma K (He.ga K "Pages") "look") 3 f_Pages_look := by
  obtain ⟨fd, F⟩ := c.d.def_ 11 (d := df_Pages_look) rfl
  rw [f_Pages_look_eq]
  refine def_m (k := 0) (N := N_Pages_look) F sc_Pages_look (fun _ _ _ _ _ _ us hl => match us, hl with | [_, _, _], _ => rfl) fun cdv  A outer s H E hr tk hp => ?_
  have hu1 := hu_of hr
  have hu4 := hr.units
  have hu5 := hu65 hr
  have nd := sc_Pages_look.nd
  exact (ssm_cons (sm_if (tm_eq hu4 (em_mod (em_var 1) em_int) em_int)
  (ssm_one (sm_raise rfl tk PySem.F.excBase_ValueError (He.exc_ok (x_NoWay c)).1 (g_NoWay XI G c) (He.exc_ok (x_NoWay c)).2.1 (raises_own (He.exc_ok (x_NoWay c)).2.2.1 (He.exc_ok (x_NoWay c)).2.2.2) rfl))
  ssm_nil)
  (ssm_one (sm_if (tm_wm (wm_and (tm_eq hu4 (em_var 2) em_str) (wm_and1 (tm_eq hu4 (em_mod (em_div (em_var 1) em_int) em_int) em_int))))
  (ssm_one (sm_raise rfl tk PySem.F.excBase_ValueError (He.exc_ok (x_NoWay c)).1 (g_NoWay XI G c) (He.exc_ok (x_NoWay c)).2.1 (raises_own (He.exc_ok (x_NoWay c)).2.2.1 (He.exc_ok (x_NoWay c)).2.2.2) rfl))
  ssm_nil)))
def N_Pages_walk : List Str := ["self", "address", "kind", "first", "entry"]
omit XI G c TB in
theorem sc_Pages_walk : FnScope N_Pages_walk ["self", "address", "kind"] (defScope s_Pages_walk) := ⟨rfl, rfl, rfl, by decide +kernel, rfl, by decide +kernel, by decide +kernel⟩
theorem w_Pages_walk : FunM P w K mg base (tabT K tf) 2 (He.ma K (He.ga K "Pages") "walk") 3 f_Pages_walk := by
  obtain ⟨fd, F⟩ := c.d.def_ 12 (d := df_Pages_walk) rfl
  rw [f_Pages_walk_eq]
  refine def_m (k := 1) (N := N_Pages_walk) F sc_Pages_walk (fun _ _ _ _ _ _ us hl => match us, hl with | [_, _, _], _ => rfl) fun cdv  A outer s H E hr tk hp => ?_
  have hu1 := hu_of hr
  have hu4 := hr.units
  have hu5 := hu65 hr
  have nd := sc_Pages_walk.nd
  exact (ssm_cons (sm_if (tm_not (tm_chain op_le o2_B0 op_lt o2_B0 em_int (em_var 1) (em_mul (em_mul (em_globI rfl (i_PAGE XI G c)) (em_globI rfl (i_PAGE XI G c))) (em_globI rfl (i_PAGE XI G c)))))
  (ssm_one (sm_raise rfl tk PySem.F.excBase_ValueError (He.exc_ok (x_NoWay c)).1 (g_NoWay XI G c) (He.exc_ok (x_NoWay c)).2.1 (raises_own (He.exc_ok (x_NoWay c)).2.2.1 (He.exc_ok (x_NoWay c)).2.2.2) rfl))
  ssm_nil)
  (ssm_cons (sm_set 3 nd (em_ix hu1 (em_fld (fo_words XI G c) (em_var 0)) (em_add (em_fld (fo_root XI G c) (em_var 0)) (em_div (em_var 1) (em_mul (em_globI rfl (i_PAGE XI G c)) (em_globI rfl (i_PAGE XI G c)))))))
  (ssm_cons (sm_set 4 nd (em_ix hu1 (em_fld (fo_words XI G c) (em_var 0)) (em_add (em_meth (He.cls_ok (c_Pages c)) (He.meth_ok (m_Pages_frame_of c)) (w_Pages_frame_of XI G c TB) hr (by decide) (g_Pages XI G c) tk (em_var 0) (am_cons (em_var 3) am_nil)) (em_mod (em_div (em_var 1) (em_globI rfl (i_PAGE XI G c))) (em_globI rfl (i_PAGE XI G c))))))
  (ssm_cons (sm_expr (em_meth (He.cls_ok (c_Pages c)) (He.meth_ok (m_Pages_look c)) (w_Pages_look XI G c TB) hr (by decide) (g_Pages XI G c) tk (em_var 0) (am_cons (em_var 4) (am_cons (em_var 2) am_nil))))
  (ssm_one (sm_ret (em_add (em_meth (He.cls_ok (c_Pages c)) (He.meth_ok (m_Pages_frame_of c)) (w_Pages_frame_of XI G c TB) hr (by decide) (g_Pages XI G c) tk (em_var 0) (am_cons (em_var 4) am_nil)) (em_mod (em_var 1) (em_globI rfl (i_PAGE XI G c))))))))))
def N_Pages_found_at : List Str := ["self", "address", "kind", "page", "entry", "found", "first"]
omit XI G c TB in
theorem sc_Pages_found_at : FnScope N_Pages_found_at ["self", "address", "kind"] (defScope s_Pages_found_at) := ⟨rfl, rfl, rfl, by decide +kernel, rfl, by decide +kernel, by decide +kernel⟩
theorem w_Pages_found_at : FunM P w K mg base (tabT K tf) 3 (He.ma K (He.ga K "Pages") "found_at") 3 f_Pages_found_at := by
  obtain ⟨fd, F⟩ := c.d.def_ 13 (d := df_Pages_found_at) rfl
  rw [f_Pages_found_at_eq]
  refine def_m (k := 2) (N := N_Pages_found_at) F sc_Pages_found_at (fun _ _ _ _ _ _ us hl => match us, hl with | [_, _, _], _ => rfl) fun cdv  A outer s H E hr tk hp => ?_
  have hu1 := hu_of hr
  have hu4 := hr.units
  have hu5 := hu65 hr
  have nd := sc_Pages_found_at.nd
  exact (ssm_cons (sm_flda (fo_asked XI G c) iop_add o2_I0 (em_var 0) em_int)
  (ssm_cons (sm_for hp rfl (im_any (em_fld (fo_held XI G c) (em_var 0))) (gm_unp rfl (gsm_cons (gm_name 3 nd) (gsm_cons (gm_name 4 nd) gsm_nil)))
  (ssm_one (sm_if (tm_eq hu4 (em_var 3) (em_div (em_var 1) (em_globI rfl (i_PAGE XI G c))))
  (ssm_cons (sm_expr (em_meth (He.cls_ok (c_Pages c)) (He.meth_ok (m_Pages_look c)) (w_Pages_look XI G c TB) hr (by decide) (g_Pages XI G c) tk (em_var 0) (am_cons (em_var 4) (am_cons (em_var 2) am_nil))))
  (ssm_one (sm_ret (em_add (em_meth (He.cls_ok (c_Pages c)) (He.meth_ok (m_Pages_frame_of c)) (w_Pages_frame_of XI G c TB) hr (by decide) (g_Pages XI G c) tk (em_var 0) (am_cons (em_var 4) am_nil)) (em_mod (em_var 1) (em_globI rfl (i_PAGE XI G c)))))))
  ssm_nil)))
  (ssm_cons (sm_flda (fo_missed XI G c) iop_add o2_I0 (em_var 0) em_int)
  (ssm_cons (sm_set 5 nd (em_meth (He.cls_ok (c_Pages c)) (He.meth_ok (m_Pages_walk c)) (w_Pages_walk XI G c TB) hr (by decide) (g_Pages XI G c) tk (em_var 0) (am_cons (em_var 1) (am_cons (em_var 2) am_nil))))
  (ssm_cons (sm_set 6 nd (em_ix hu1 (em_fld (fo_words XI G c) (em_var 0)) (em_add (em_fld (fo_root XI G c) (em_var 0)) (em_div (em_var 1) (em_mul (em_globI rfl (i_PAGE XI G c)) (em_globI rfl (i_PAGE XI G c)))))))
  (ssm_cons (sm_set 4 nd (em_ix hu1 (em_fld (fo_words XI G c) (em_var 0)) (em_add (em_meth (He.cls_ok (c_Pages c)) (He.meth_ok (m_Pages_frame_of c)) (w_Pages_frame_of XI G c TB) hr (by decide) (g_Pages XI G c) tk (em_var 0) (am_cons (em_var 6) am_nil)) (em_mod (em_div (em_var 1) (em_globI rfl (i_PAGE XI G c))) (em_globI rfl (i_PAGE XI G c))))))
  (ssm_cons (sm_if (tm_eq hu4 (em_callB cr_len oc_len rfl (n_len XI G c) (am_cons (em_fld (fo_held XI G c) (em_var 0)) am_nil) rfl) (em_fld (fo_room XI G c) (em_var 0)))
  (ssm_one (sm_expr (em_bm PySem.F.plainAttrs_list PySem.F.slot_list_pop PySem.F.type_list_pop mt_popM tyL om_pop (em_fld (fo_held XI G c) (em_var 0)) (am_cons em_int am_nil))))
  ssm_nil)
  (ssm_cons (sm_expr (em_bm PySem.F.plainAttrs_list PySem.F.slot_list_append PySem.F.type_list_append mt_append tyL om_append (em_fld (fo_held XI G c) (em_var 0)) (am_cons (em_tup (am_cons (em_div (em_var 1) (em_globI rfl (i_PAGE XI G c))) (am_cons (em_var 4) am_nil)) (len_cons (len_cons len_nil))) am_nil)))
  (ssm_one (sm_ret (em_var 5)))))))))))
def N_Pages_can : List Str := ["self", "address", "kind"]
omit XI G c TB in
theorem sc_Pages_can : FnScope N_Pages_can ["self", "address", "kind"] (defScope s_Pages_can) := ⟨rfl, rfl, rfl, by decide +kernel, rfl, by decide +kernel, by decide +kernel⟩
theorem w_Pages_can : FunM P w K mg base (tabT K tf) 3 (He.ma K (He.ga K "Pages") "can") 3 f_Pages_can := by
  obtain ⟨fd, F⟩ := c.d.def_ 14 (d := df_Pages_can) rfl
  rw [f_Pages_can_eq]
  refine def_m (k := 2) (N := N_Pages_can) F sc_Pages_can (fun _ _ _ _ _ _ us hl => match us, hl with | [_, _, _], _ => rfl) fun cdv  A outer s H E hr tk hp => ?_
  have hu1 := hu_of hr
  have hu4 := hr.units
  have hu5 := hu65 hr
  have nd := sc_Pages_can.nd
  exact (ssm_cons (sm_try rfl rfl rfl (g_NoWay XI G c) rfl tk (tx_NoWay XI G c) (fun W pn xe tk hp => (ssm_one (sm_expr (em_meth (He.cls_ok (c_Pages c)) (He.meth_ok (m_Pages_walk c)) (w_Pages_walk XI G c TB) hr (by decide) (g_Pages XI G c) tk (em_var 0) (am_cons (em_var 1) (am_cons (em_var 2) am_nil))))))
  (fun _ _ _ => (ssm_one (sm_ret em_bl))))
  (ssm_one (sm_ret em_bl)))
def N_Pages_pages : List Str := ["self", "found", "page", "place"]
omit XI G c TB in
theorem sc_Pages_pages : FnScope N_Pages_pages ["self"] (defScope s_Pages_pages) := ⟨rfl, rfl, rfl, by decide +kernel, rfl, by decide +kernel, by decide +kernel⟩
theorem w_Pages_pages : FunM P w K mg base (tabT K tf) 4 (He.ma K (He.ga K "Pages") "pages") 1 f_Pages_pages := by
  obtain ⟨fd, F⟩ := c.d.def_ 15 (d := df_Pages_pages) rfl
  rw [f_Pages_pages_eq]
  refine def_m (k := 3) (N := N_Pages_pages) F sc_Pages_pages (fun _ _ _ _ _ _ us hl => match us, hl with | [_], _ => rfl) fun cdv  A outer s H E hr tk hp => ?_
  have hu1 := hu_of hr
  have hu4 := hr.units
  have hu5 := hu65 hr
  have nd := sc_Pages_pages.nd
  exact (ssm_cons (sm_set 1 nd (em_lst am_nil len_nil))
  (ssm_cons (sm_for hp rfl (im_range1 rfl (n_range XI G c) (am_cons (em_mul (em_globI rfl (i_PAGE XI G c)) (em_globI rfl (i_PAGE XI G c))) am_nil)) (gm_name 2 nd)
  (ssm_cons (sm_try rfl rfl rfl (g_NoWay XI G c) rfl tk (tx_NoWay XI G c) (fun W pn xe tk hp => (ssm_one (sm_set 3 nd (em_meth (He.cls_ok (c_Pages c)) (He.meth_ok (m_Pages_walk c)) (w_Pages_walk XI G c TB) hr (by decide) (g_Pages XI G c) tk (em_var 0) (am_cons (em_mul (em_var 2) (em_globI rfl (i_PAGE XI G c))) (am_cons em_str am_nil))))))
  (fun _ _ _ => (ssm_one sm_continue)))
  (ssm_one (sm_expr (em_bm PySem.F.plainAttrs_list PySem.F.slot_list_append PySem.F.type_list_append mt_append tyL om_append (em_var 1) (am_cons (em_tup (am_cons (em_var 2) (am_cons (em_div (em_var 3) (em_globI rfl (i_PAGE XI G c))) (am_cons (em_meth (He.cls_ok (c_Pages c)) (He.meth_ok (m_Pages_can c)) (w_Pages_can XI G c TB) hr (by decide) (g_Pages XI G c) tk (em_var 0) (am_cons (em_mul (em_var 2) (em_globI rfl (i_PAGE XI G c))) (am_cons em_str am_nil))) am_nil))) (len_cons (len_cons (len_cons len_nil)))) am_nil))))))
  (ssm_one (sm_ret (em_callTy call_tuple_of oc_tuple rfl (n_tuple XI G c) (am_cons (em_var 1) am_nil) rfl)))))
def N_Pages_put_at : List Str := ["self", "address", "word", "place"]
omit XI G c TB in
theorem sc_Pages_put_at : FnScope N_Pages_put_at ["self", "address", "word"] (defScope s_Pages_put_at) := ⟨rfl, rfl, rfl, by decide +kernel, rfl, by decide +kernel, by decide +kernel⟩
theorem w_Pages_put_at : FunM P w K mg base (tabT K tf) 4 (He.ma K (He.ga K "Pages") "put_at") 3 f_Pages_put_at := by
  obtain ⟨fd, F⟩ := c.d.def_ 16 (d := df_Pages_put_at) rfl
  rw [f_Pages_put_at_eq]
  refine def_m (k := 3) (N := N_Pages_put_at) F sc_Pages_put_at (fun _ _ _ _ _ _ us hl => match us, hl with | [_, _, _], _ => rfl) fun cdv  A outer s H E hr tk hp => ?_
  have hu1 := hu_of hr
  have hu4 := hr.units
  have hu5 := hu65 hr
  have nd := sc_Pages_put_at.nd
  exact (ssm_cons (sm_set 3 nd (em_meth (He.cls_ok (c_Pages c)) (He.meth_ok (m_Pages_found_at c)) (w_Pages_found_at XI G c TB) hr (by decide) (g_Pages XI G c) tk (em_var 0) (am_cons (em_var 1) (am_cons em_str am_nil))))
  (ssm_one (sm_asg (gm_sub hu1 (em_fld (fo_words XI G c) (em_var 0)) (em_var 3)) (em_var 2))))
def N_Pages_word_at : List Str := ["self", "address"]
omit XI G c TB in
theorem sc_Pages_word_at : FnScope N_Pages_word_at ["self", "address"] (defScope s_Pages_word_at) := ⟨rfl, rfl, rfl, by decide +kernel, rfl, by decide +kernel, by decide +kernel⟩
theorem w_Pages_word_at : FunM P w K mg base (tabT K tf) 4 (He.ma K (He.ga K "Pages") "word_at") 2 f_Pages_word_at := by
  obtain ⟨fd, F⟩ := c.d.def_ 17 (d := df_Pages_word_at) rfl
  rw [f_Pages_word_at_eq]
  refine def_m (k := 3) (N := N_Pages_word_at) F sc_Pages_word_at (fun _ _ _ _ _ _ us hl => match us, hl with | [_, _], _ => rfl) fun cdv  A outer s H E hr tk hp => ?_
  have hu1 := hu_of hr
  have hu4 := hr.units
  have hu5 := hu65 hr
  have nd := sc_Pages_word_at.nd
  exact (ssm_one (sm_ret (em_ix hu1 (em_fld (fo_words XI G c) (em_var 0)) (em_meth (He.cls_ok (c_Pages c)) (He.meth_ok (m_Pages_found_at c)) (w_Pages_found_at XI G c TB) hr (by decide) (g_Pages XI G c) tk (em_var 0) (am_cons (em_var 1) (am_cons em_str am_nil))))))
def N__law_written : List Str := ["pages", "table", "page"]
omit XI G c TB in
theorem sc__law_written : FnScope N__law_written ["pages", "table"] (defScope s__law_written) := ⟨rfl, rfl, rfl, by decide +kernel, rfl, by decide +kernel, by decide +kernel⟩
theorem w__law_written : FunM P w K mg base (tabT K tf) 5 (He.ga K "_law_written") 2 f__law_written := by
  obtain ⟨fd, F⟩ := c.d.def_ 18 (d := df__law_written) rfl
  rw [f__law_written_eq]
  refine def_m (k := 4) (N := N__law_written) F sc__law_written (fun _ _ _ _ _ _ us hl => match us, hl with | [_, _], _ => rfl) fun cdv  A outer s H E hr tk hp => ?_
  have hu1 := hu_of hr
  have hu4 := hr.units
  have hu5 := hu65 hr
  have nd := sc__law_written.nd
  exact (ssm_cons (sm_lock 1 (sm_for hp rfl (im_keysL 1 (em_var 1)) (gm_name 2 nd)
  (ssm_one (sm_if (tm_tru (em_ix hu1 (em_ix hu1 (em_var 1) (em_var 2)) em_int))
  (ssm_cons (sm_expr (em_meth (He.cls_ok (c_Pages c)) (He.meth_ok (m_Pages_put_at c)) (w_Pages_put_at XI G c TB) hr (by decide) (g_Pages XI G c) tk (em_var 0) (am_cons (em_add (em_mul em_int (em_var 2)) em_int) (am_cons (em_add em_int (em_var 2)) am_nil))))
  (ssm_one (sm_if (tm_wm (wm_or (tm_ne hu4 (em_meth (He.cls_ok (c_Pages c)) (He.meth_ok (m_Pages_word_at c)) (w_Pages_word_at XI G c TB) hr (by decide) (g_Pages XI G c) tk (em_var 0) (am_cons (em_add (em_mul em_int (em_var 2)) em_int) am_nil)) (em_add em_int (em_var 2))) (wm_or1 (tm_ne hu4 (em_ix hu1 (em_fld (fo_words XI G c) (em_var 0)) (em_add (em_mul em_int (em_ix hu1 (em_ix hu1 (em_var 1) (em_var 2)) em_int)) em_int)) (em_add em_int (em_var 2))))))
  (ssm_one (sm_ret em_bl))
  ssm_nil)))
  ssm_nil))))
  (ssm_one (sm_ret em_bl)))
def N__law_refused : List Str := ["pages", "page"]
omit XI G c TB in
theorem sc__law_refused : FnScope N__law_refused ["pages"] (defScope s__law_refused) := ⟨rfl, rfl, rfl, by decide +kernel, rfl, by decide +kernel, by decide +kernel⟩
theorem w__law_refused : FunM P w K mg base (tabT K tf) 6 (He.ga K "_law_refused") 1 f__law_refused := by
  obtain ⟨fd, F⟩ := c.d.def_ 19 (d := df__law_refused) rfl
  rw [f__law_refused_eq]
  refine def_mT (p := ("_law_refused", none)) (k := 5) (N := N__law_refused) F sc__law_refused (fun _ _ _ _ _ _ us hl => match us, hl with | [_], _ => rfl) fun cdv hcd A outer s H E hr tk hp => ?_
  have hu1 := hu_of hr
  have hu4 := hr.units
  have hu5 := hu65 hr
  have nd := sc__law_refused.nd
  exact (ssm_cons (sm_expr (em_meth (He.cls_ok (c_Pages c)) (He.meth_ok (m_Pages_forget c)) (w_Pages_forget XI G c TB) hr (by decide) (g_Pages XI G c) tk (em_var 0) (am_cons em_non am_nil)))
  (ssm_cons (sm_if (tm_wm (wm_or (tm_ne hu4 (em_fld (fo_held XI G c) (em_var 0)) (em_lst am_nil len_nil)) (wm_or1 (tm_ne hu4 (em_told (k := 3) (td XI G c) rfl (g__law_told XI G c) (TB (tfp_1) (tfm 1)) hcd (tab_mem (tfm 1)) (tab_uniq (tnd c) (tfm 1)) hr (by decide) (fun A outer s H E f c' hr tk => have hu1 := hu_of hr; have hu4 := hr.units; have hu5 := hu65 hr; (em_meth (He.cls_ok (c_Pages c)) (He.meth_ok (m_Pages_found_at c)) (w_Pages_found_at XI G c TB) hr (by decide) (g_Pages XI G c) tk (em_var 0) (am_cons em_int (am_cons em_str am_nil))))) em_str))))
  (ssm_one (sm_ret em_bl))
  ssm_nil)
  (ssm_cons (sm_if (tm_ne hu4 (em_told (k := 2) (td XI G c) rfl (g__law_told XI G c) (TB (tfp_1) (tfm 1)) hcd (tab_mem (tfm 1)) (tab_uniq (tnd c) (tfm 1)) hr (by decide) (fun A outer s H E f c' hr tk => have hu1 := hu_of hr; have hu4 := hr.units; have hu5 := hu65 hr; (em_meth (He.cls_ok (c_Pages c)) (He.meth_ok (m_Pages_lay c)) (w_Pages_lay XI G c TB) hr (by decide) (g_Pages XI G c) tk (em_var 0) (am_cons em_int (am_cons em_int (am_cons em_bl am_nil)))))) em_str)
  (ssm_one (sm_ret em_bl))
  ssm_nil)
  (ssm_cons (sm_for hp rfl (im_any (em_lst (am_cons em_int (am_cons (em_sub em_int em_int) am_nil)) (len_cons (len_cons len_nil)))) (gm_name 1 nd)
  (ssm_one (sm_if (tm_ne hu4 (em_told (k := 2) (td XI G c) rfl (g__law_told XI G c) (TB (tfp_1) (tfm 1)) hcd (tab_mem (tfm 1)) (tab_uniq (tnd c) (tfm 1)) hr (by decide) (fun A outer s H E f c' hr tk => have hu1 := hu_of hr; have hu4 := hr.units; have hu5 := hu65 hr; (em_meth (He.cls_ok (c_Pages c)) (He.meth_ok (m_Pages_lay c)) (w_Pages_lay XI G c TB) hr (by decide) (g_Pages XI G c) tk (em_var 0) (am_cons (em_var 1) (am_cons em_int (am_cons em_bl am_nil)))))) em_str)
  (ssm_one (sm_ret em_bl))
  ssm_nil)))
  (ssm_cons (sm_if (tm_ne hu4 (em_told (k := 1) (td XI G c) rfl (g__law_told XI G c) (TB (tfp_1) (tfm 1)) hcd (tab_mem (tfm 1)) (tab_uniq (tnd c) (tfm 1)) hr (by decide) (fun A outer s H E f c' hr tk => have hu1 := hu_of hr; have hu4 := hr.units; have hu5 := hu65 hr; (em_call (w_entry_of XI G c TB) hr (by decide) rfl (g_entry_of XI G c) tk (am_cons em_int (am_cons em_bl am_nil))))) em_str)
  (ssm_one (sm_ret em_bl))
  ssm_nil)
  (ssm_cons (sm_if (tm_ne hu4 (em_told (k := 2) (td XI G c) rfl (g__law_told XI G c) (TB (tfp_1) (tfm 1)) hcd (tab_mem (tfm 1)) (tab_uniq (tnd c) (tfm 1)) hr (by decide) (fun A outer s H E f c' hr tk => have hu1 := hu_of hr; have hu4 := hr.units; have hu5 := hu65 hr; (em_make (He.mkr_ok (k_Pages c)) (w_Pages___init__ XI G c TB) hr (by decide) rfl (g_Pages XI G c) tk (am_cons (em_mul (em_lst (am_cons em_int am_nil) (len_cons len_nil)) em_int) (am_cons em_int (am_cons em_int am_nil)))))) em_str)
  (ssm_one (sm_ret em_bl))
  ssm_nil)
  (ssm_one (sm_ret em_bl))))))))
def N_law : List Str := ["script", "dice", "room", "pages", "table", "words", "asked", "held", "missed", "k", "page", "kind", "address", "frame", "written", "how", "good", "due", "one", "entry"]
omit XI G c TB in
theorem sc_law : FnScope N_law ["script"] (defScope s_law) := ⟨rfl, rfl, rfl, by decide +kernel, rfl, by decide +kernel, by decide +kernel⟩
omit XI G c TB in
theorem F_law (c : Cf K) : ∃ fd, FunD K "law" "law" (defArgs s_law) (defBody s_law) (defScope s_law) [] [] (He.ga K "law") fd := c.d.def_ 20 (d := df_law) rfl
theorem ok_law {fd : FuncData} (F : FunD K "law" "law" (defArgs s_law) (defBody s_law) (defScope s_law) [] [] (He.ga K "law") fd) : FnOk P w K mg base (L2.CX P w) 7 (He.ga K "law") fd ["script"] (spM ⟨K, mg, (tabT K tf)⟩ f_law 1) := by
  refine def_okT (p := ("law", none)) (k := 6) (N := N_law) F sc_law fun cdv hcd A outer s H E hr tk hp => ?_
  have hu1 := hu_of hr
  have hu4 := hr.units
  have hu5 := hu65 hr
  have nd := sc_law.nd
  exact (ssm_cons (sm_for hp rfl (im_any (em_call (w__law_rounds XI G c TB) hr (by decide) rfl (g__law_rounds XI G c) tk (am_cons (em_var 0) (am_cons em_int am_nil)))) (gm_name 1 nd)
  (ssm_cons (sm_set 2 nd (em_add em_int (em_call (w__law_roll XI G c TB) hr (by decide) rfl (g__law_roll XI G c) tk (am_cons (em_var 1) (am_cons em_int am_nil)))))
  (ssm_cons (sm_asg (gm_unp rfl (gsm_cons (gm_name 3 nd) (gsm_cons (gm_name 4 nd) (gsm_cons (gm_name 5 nd) (gsm_cons (gm_name 6 nd) (gsm_cons (gm_name 7 nd) (gsm_cons (gm_name 8 nd) gsm_nil))))))) (em_tup (am_cons (em_call (w_empty XI G c TB) hr (by decide) rfl (g_empty XI G c) tk (am_cons em_int (am_cons (em_var 2) am_nil))) (am_cons em_dic0 (am_cons em_dic0 (am_cons em_int (am_cons (em_lst am_nil len_nil) (am_cons em_int am_nil)))))) (len_cons (len_cons (len_cons (len_cons (len_cons (len_cons len_nil))))))))
  (ssm_cons (sm_for hp rfl (im_range1 rfl (n_range XI G c) (am_cons (em_call (w__law_roll XI G c TB) hr (by decide) rfl (g__law_roll XI G c) tk (am_cons (em_var 1) (am_cons em_int am_nil))) am_nil)) (gm_name 9 nd)
  (ssm_cons (sm_asg (gm_unp rfl (gsm_cons (gm_name 10 nd) (gsm_cons (gm_name 11 nd) gsm_nil))) (em_tup (am_cons (em_call (w__law_roll XI G c TB) hr (by decide) rfl (g__law_roll XI G c) tk (am_cons (em_var 1) (am_cons em_int am_nil))) (am_cons (em_call (w__law_roll XI G c TB) hr (by decide) rfl (g__law_roll XI G c) tk (am_cons (em_var 1) (am_cons em_int am_nil))) am_nil)) (len_cons (len_cons len_nil))))
  (ssm_cons (sm_set 12 nd (em_add (em_mul em_int (em_var 10)) (em_call (w__law_roll XI G c TB) hr (by decide) rfl (g__law_roll XI G c) tk (am_cons (em_var 1) (am_cons em_int am_nil)))))
  (ssm_one (sm_if (tm_eq hu4 (em_var 11) em_int)
  (ssm_cons (sm_par 13 14 rfl nd (am_cons (em_add em_int (em_call (w__law_roll XI G c TB) hr (by decide) rfl (g__law_roll XI G c) tk (am_cons (em_var 1) (am_cons em_int am_nil)))) (am_cons (em_eq hu4 (em_call (w__law_roll XI G c TB) hr (by decide) rfl (g__law_roll XI G c) tk (am_cons (em_var 1) (am_cons em_int am_nil))) em_int) am_nil)))
  (ssm_cons (sm_expr (em_meth (He.cls_ok (c_Pages c)) (He.meth_ok (m_Pages_lay c)) (w_Pages_lay XI G c TB) hr (by decide) (g_Pages XI G c) tk (em_var 3) (am_cons (em_var 10) (am_cons (em_var 13) (am_cons (em_var 14) am_nil)))))
  (ssm_cons (sm_asg (gm_sub hu1 (em_var 4) (em_var 10)) (em_tup (am_cons (em_var 13) (am_cons (em_var 14) am_nil)) (len_cons (len_cons len_nil))))
  (ssm_one (sm_setLc 7 [("one", 18)] rfl nd (im_any (em_var 7)) (blkOk_by rfl) (fun _ _ _ _ _ => (gw_name 18 nd)) (fun _ _ _ _ _ => (tsm_one (tm_ne hu4 (em_var 18) (em_var 10)))) (fun _ _ _ _ _ => (em_var 18)) (sw_true rfl rfl rfl rfl))))))
  (ssm_one (sm_if (tm_eq hu4 (em_var 11) em_int)
  (ssm_cons (sm_expr (em_meth (He.cls_ok (c_Pages c)) (He.meth_ok (m_Pages_take c)) (w_Pages_take XI G c TB) hr (by decide) (g_Pages XI G c) tk (em_var 3) (am_cons (em_var 10) am_nil)))
  (ssm_cons (sm_set 4 nd (em_dict rfl rfl (n_dict XI G c) (am_cons (em_lock 4 (em_lc [("one", 18)] rfl nd (im_keysL 4 (em_var 4)) (blkOk_by rfl) (fun _ _ _ _ _ => (gw_name 18 nd)) (fun _ _ _ _ _ => (tsm_one (tm_ne hu4 (em_var 18) (em_var 10)))) (fun _ _ _ _ _ => (em_tup (am_cons (em_var 18) (am_cons (em_ix hu1 (em_var 4) (em_var 18)) am_nil)) (len_cons (len_cons len_nil)))))) am_nil)))
  (ssm_one (sm_setLc 7 [("one", 18)] rfl nd (im_any (em_var 7)) (blkOk_by rfl) (fun _ _ _ _ _ => (gw_name 18 nd)) (fun _ _ _ _ _ => (tsm_one (tm_ne hu4 (em_var 18) (em_var 10)))) (fun _ _ _ _ _ => (em_var 18)) (sw_true rfl rfl rfl rfl)))))
  (ssm_cons (sm_set 15 nd (em_ix hu1 (em_lst (am_cons em_str (am_cons em_str am_nil)) (len_cons (len_cons len_nil))) (em_mod (em_var 11) em_int)))
  (ssm_cons (sm_set 16 nd (em_and (em_in hu5 (em_var 10) (em_var 4)) (em_one (em_or (em_eq hu4 (em_var 15) em_str) (em_one (em_ix hu1 (em_ix hu1 (em_var 4) (em_var 10)) em_int))))))
  (ssm_cons (sm_set 17 nd (em_if (tm_tru (em_var 16)) (em_add (em_mul (em_ix hu1 (em_ix hu1 (em_var 4) (em_var 10)) em_int) em_int) (em_mod (em_var 12) em_int)) em_str))
  (ssm_cons (sm_par 6 8 rfl nd (am_cons (em_add (em_var 6) em_int) (am_cons (em_add (em_var 8) (em_callTy call_int1 oc_int rfl (n_int XI G c) (am_cons (em_nin hu5 (em_var 10) (em_var 7)) am_nil) rfl)) am_nil)))
  (ssm_cons (sm_if (tm_wm (wm_and (tm_tru (em_var 16)) (wm_and1 (tm_nin hu5 (em_var 10) (em_var 7)))))
  (ssm_cons (sm_set 7 nd (em_add (em_var 7) (em_lst (am_cons (em_var 10) am_nil) (len_cons len_nil))))
  (ssm_one (sm_set 7 nd (em_if (tm_gt (em_callB cr_len oc_len rfl (n_len XI G c) (am_cons (em_var 7) am_nil) rfl) (em_var 2)) (em_sl (em_var 7) (om_some (em_sub (em_callB cr_len oc_len rfl (n_len XI G c) (am_cons (em_var 7) am_nil) rfl) (em_var 2))) om_none) (em_var 7)))))
  ssm_nil)
  (ssm_cons (sm_if (tm_ne hu4 (em_told (k := 3) (td XI G c) rfl (g__law_told XI G c) (TB (tfp_0) (tfm 0)) hcd (tab_mem (tfm 0)) (tab_uniq (tnd c) (tfm 0)) hr (by decide) (fun A outer s H E f c' hr tk => have hu1 := hu_of hr; have hu4 := hr.units; have hu5 := hu65 hr; (em_meth (He.cls_ok (c_Pages c)) (He.meth_ok (m_Pages_found_at c)) (w_Pages_found_at XI G c TB) hr (by decide) (g_Pages XI G c) tk (em_var 3) (am_cons (em_var 12) (am_cons (em_var 15) am_nil))))) (em_var 17))
  (ssm_one (sm_ret em_bl))
  ssm_nil)
  (ssm_one (sm_if (tm_wm (wm_or (tm_ne hu4 (em_told (k := 2) (td XI G c) rfl (g__law_told XI G c) (TB (tfp_0) (tfm 0)) hcd (tab_mem (tfm 0)) (tab_uniq (tnd c) (tfm 0)) hr (by decide) (fun A outer s H E f c' hr tk => have hu1 := hu_of hr; have hu4 := hr.units; have hu5 := hu65 hr; (em_meth (He.cls_ok (c_Pages c)) (He.meth_ok (m_Pages_walk c)) (w_Pages_walk XI G c TB) hr (by decide) (g_Pages XI G c) tk (em_var 3) (am_cons (em_var 12) (am_cons (em_var 15) am_nil))))) (em_var 17)) (wm_or1 (tm_ne hu4 (em_meth (He.cls_ok (c_Pages c)) (He.meth_ok (m_Pages_can c)) (w_Pages_can XI G c TB) hr (by decide) (g_Pages XI G c) tk (em_var 3) (am_cons (em_var 12) (am_cons (em_var 15) am_nil))) (em_var 16)))))
  (ssm_one (sm_ret em_bl))
  ssm_nil)))))))))))))))
  (ssm_cons (sm_if (tm_wm (wm_or (tm_ne hu4 (em_fld (fo_asked XI G c) (em_var 3)) (em_var 6)) (wm_or (tm_ne hu4 (em_fld (fo_missed XI G c) (em_var 3)) (em_var 8)) (wm_or1 (tm_ne hu4 (em_lc [("page", 10), ("entry", 19)] rfl nd (im_any (em_fld (fo_held XI G c) (em_var 3))) (blkOk_by rfl) (fun _ _ _ _ _ => (gw_unp rfl (gsw_cons (gw_name 10 nd) (gsw_cons (gw_name 19 nd) gsw_nil)))) (fun _ _ _ _ _ => tsm_nil) (fun _ _ _ _ _ => (em_var 10))) (em_var 7))))))
  (ssm_one (sm_ret em_bl))
  ssm_nil)
  (ssm_cons (sm_if (tm_ne hu4 (em_meth0 (He.cls_ok (c_Pages c)) (He.meth_ok (m_Pages_pages c)) (w_Pages_pages XI G c TB) hr (by decide) (g_Pages XI G c) tk (em_var 3)) (em_callTy call_tuple_of oc_tuple rfl (n_tuple XI G c) (am_cons (em_lc [("page", 10)] rfl nd (im_range1 rfl (n_range XI G c) (am_cons em_int am_nil)) (blkOk_by rfl) (fun _ _ _ _ _ => (gw_name 10 nd)) (fun _ _ _ _ _ => (tsm_one (tm_in hu5 (em_var 10) (em_var 4)))) (fun _ _ _ _ _ => (em_tup (am_cons (em_var 10) (am_cons (em_ix hu1 (em_ix hu1 (em_var 4) (em_var 10)) em_int) (am_cons (em_ix hu1 (em_ix hu1 (em_var 4) (em_var 10)) em_int) am_nil))) (len_cons (len_cons (len_cons len_nil)))))) am_nil) rfl))
  (ssm_one (sm_ret em_bl))
  ssm_nil)
  (ssm_cons (sm_if (tm_not (tm_tru (em_call (w__law_written XI G c TB) hr (by decide) rfl (g__law_written XI G c) tk (am_cons (em_var 3) (am_cons (em_var 4) am_nil)))))
  (ssm_one (sm_ret em_bl))
  ssm_nil)
  (ssm_one (sm_if (tm_not (tm_tru (em_call (w__law_refused XI G c TB) hr (by decide) rfl (g__law_refused XI G c) tk (am_cons (em_var 3) am_nil))))
  (ssm_one (sm_ret em_bl))
  ssm_nil)))))))))
  (ssm_one (sm_ret em_bl)))
end
end
abbrev Rr : PySem.W.OpenRow := PySem.W.OpenLaw.row PySem.Challenge.rw_corehall_k15_pages_and_answers
def hk : PySem.W.Hook := He.hookX 6 fa fn [] (tf.map (·.1)) ex
def ob (s : PySem.W.SharedT) : He.AlX := He.obsX 6 fa fn [] (tf.map (·.1)) ex (HandSHeadRun.getT s)
theorem ob_eq (s : PySem.W.SharedT) : ob s = hk.obs s.abs := He.obsX_eq (HandSHeadRun.getT_eq s)
def loose : List PySem.Str := (([("CoreFault" : PySem.Str), ("BadOrder" : PySem.Str), ("BadProgram" : PySem.Str), ("NoWay" : PySem.Str), ("TooLarge" : PySem.Str), ("PAGE" : PySem.Str), ("Pages" : PySem.Str), ("entry_of" : PySem.Str), ("empty" : PySem.Str), ("_law_dice" : PySem.Str), ("_law_roll" : PySem.Str), ("_law_rounds" : PySem.Str), ("_law_told" : PySem.Str), ("_law_written" : PySem.Str), ("_law_refused" : PySem.Str)] : List PySem.Str))
theorem run (w : World) : HandSHeadRun.RunEq Rr (PySem.W.view Rr.prog [18]) hk ob 20000 loose w := by
  intro os
  kernel_rfl
theorem holds (hpl : ∀ n, PlainLaw f_law n) : PySem.Challenge.rw_corehall_k15_pages_and_answers.Holds := by
  w_on; o_law
  refine HandSHeadRun.head_any (r := PySem.W.OpenLaw.row PySem.Challenge.rw_corehall_k15_pages_and_answers) (q := PySem.W.view (PySem.W.OpenLaw.row PySem.Challenge.rw_corehall_k15_pages_and_answers).prog [18]) (H := hk) (ob := ob) (M := 20000) (loose := loose) (d := HandSHeadRun.topDef (PySem.W.OpenLaw.row PySem.Challenge.rw_corehall_k15_pages_and_answers).prog 18) (kwd := []) ob_eq
    (by kernel_rfl) (fun s => by kernel_rfl) run (by kernel_rfl) (by kernel_rfl) (by kernel_rfl) (by rfl) (by first | assumption | decide +kernel) (by decide +kernel) ⟨rfl, rfl, rfl, rfl, rfl, by decide +kernel⟩ ?hw ?hc
  case hw => w_witness2
  case hc =>
    refine LamX.walk_ofTsE (l := PySem.Challenge.rw_corehall_k15_pages_and_answers) (n := 63) (k := 7) (x := "script") (CX := fun w => L2.CX (PySem.Challenge.rw_corehall_k15_pages_and_answers).prog w) rfl (by decide) (by kernel_rfl) ⟨rfl, by decide, by decide⟩ ?F (fun _ => cx_none)
    intro w mg fa h Y G hmg0
    obtain ⟨K, KX, cx⟩ := Y
    have c : Cf K := ⟨cx.t.d, cx.more⟩
    have hmg : mg ("law" : PySem.Str) = some (.ref fa) := by
      have e : (HandSHeadRun.topDef (PySem.W.OpenLaw.row PySem.Challenge.rw_corehall_k15_pages_and_answers).prog 18).name = ("law" : PySem.Str) := by kernel_rfl
      rw [← e]
      exact hmg0
    have e := hmg.symm.trans (g_law KX G c)
    cases e
    obtain ⟨fd, F⟩ := F_law c
    exact ⟨K, KX, lawAtT (tf := tf) KX cx.hd cx.out cx.empty F (fun _ _ _ _ _ _ us hl => match us, hl with | [_], _ => rfl) (hpl 63) fun base hb hg TB => ok_law hb hg c TB F⟩
end K15
end MM

namespace MM
namespace K15
open PySem L2
theorem law_eq : f_law = callM 20 1 (lawOf 3 l_law_1) := rfl
def fl (W Hd : Nat) (room asked missed : Int) : List (Str × D) := [("words", .ref W), ("root", .int 0), ("room", .int room), ("held", .ref Hd), ("asked", .int asked), ("missed", .int missed)]
section
variable {W Hd : Nat} {room asked missed : Int}
theorem lk_words : (fl W Hd room asked missed).lookup ("words" : Str) = some (.ref W) := rfl
theorem lk_root : (fl W Hd room asked missed).lookup ("root" : Str) = some (.int 0) := rfl
theorem lk_room : (fl W Hd room asked missed).lookup ("room" : Str) = some (.int room) := rfl
theorem lk_held : (fl W Hd room asked missed).lookup ("held" : Str) = some (.ref Hd) := rfl
theorem lk_asked : (fl W Hd room asked missed).lookup ("asked" : Str) = some (.int asked) := rfl
theorem lk_missed : (fl W Hd room asked missed).lookup ("missed" : Str) = some (.int missed) := rfl
theorem pt_asked (z : Int) : putD "asked" (.int z) (fl W Hd room asked missed) = fl W Hd room z missed := rfl
theorem pt_missed (z : Int) : putD "missed" (.int z) (fl W Hd room asked missed) = fl W Hd room asked z := rfl
theorem pt_held (z : Nat) : putD "held" (.ref z) (fl W Hd room asked missed) = fl W z room asked missed := rfl
end
/-- what stands of the object: the words at W -/
structure Ob (h : Hm) (P W Hd : Nat) (room asked missed : Int) (ws : List Int) : Prop where
  p : h[P]? = some (.ins "Pages" (fl W Hd room asked missed))
  w : h[W]? = some (.lst (ws.map D.int))
theorem Ob.app {h g : Hm} {P W Hd : Nat} {room asked missed : Int} {ws : List Int} (o : Ob h P W Hd room asked missed ws) : Ob (h ++ g) P W Hd room asked missed ws := ⟨keep_app o.p, keep_app o.w⟩
def frP (e : Int) : Option Int := if e % 2 = 0 then none else if 192 < e / 4 % 64 * 16 + 16 then none else some (e / 4 % 64 * 16)
def exNo : Ex := ⟨"NoWay", []⟩
def exOr : Ex := ⟨"BadOrder", []⟩
def oI (o : Option Int) (h : Hm) : R D := match o with
  | some v => .ok (.int v) h
  | none => .exn exNo h
theorem fm {x y : Int} {h : Hm} (hy : 0 < y) : fMod (.int x) (.int y) h = .ok (.int (x % y)) h := by
  rw [fMod_ok (by omega), Int.fmod_eq_emod_of_nonneg _ (by omega)]
theorem fd {x y : Int} {h : Hm} (hy : 0 < y) (h2 : y < 1000000) : fDiv (.int x) (.int y) h = .ok (.int (x / y)) h := by
  rw [fDiv_ok ⟨by omega, by omega⟩, Int.fdiv_eq_ediv_of_nonneg _ (by omega)]
theorem mu {x y : Int} {h : Hm} (hy : -1000000 < y ∧ y < 1000000) : fMul (.int x) (.int y) h = .ok (.int (x * y)) h := fMul_ok (.inr ⟨by omega, by omega⟩)
theorem mu1 {x y : Int} {h : Hm} (hy : -1000000 < x ∧ x < 1000000) : fMul (.int x) (.int y) h = .ok (.int (x * y)) h := fMul_ok (.inl ⟨by omega, by omega⟩)
section
variable {h : Hm} {P W Hd : Nat} {room asked missed : Int} {ws : List Int} (o : Ob h P W Hd room asked missed ws)
include o
theorem w_run {env : Ev} (e : env[0]? = some (some (.ref P))) : mFld cs_words "words" (mVar 0) env h = .ok (.ref W) h := fld_run (var_run e) o.p (by simp [cs_words]) lk_words
theorem rt_run {env : Ev} (e : env[0]? = some (some (.ref P))) : mFld cs_root "root" (mVar 0) env h = .ok (.int 0) h := fld_run (var_run e) o.p (by simp [cs_root]) lk_root
theorem frame_run (hl : ws.length = 192) (e : Int) : f_Pages_frame_of [.ref P, .int e] h = oI (frP e) h := by
  have len : mCall fLen (mCons (mFld cs_words "words" (mVar 0)) mNil) [some (.ref P), some (.int e), some (.int (e / 4 % 64 * 16))] h = .ok (.int 192) h := by
    have := fLen_lst o.w
    rw [List.length_map, hl] at this
    rw [run_call, run_lcons, w_run o rfl, bind_ok, run_lnil, bind_ok, bind_ok]
    exact this
  unfold frP
  by_cases c : e % 2 = 0
  · rw [if_pos c]
    refine call_exn (e1 := [some (.ref P), some (.int e), none]) f_Pages_frame_of_eq rfl (seq_exn ?_)
    show sIf _ _ _ [some (.ref P), some (.int e), none] h = _
    simp only [bind_ok, bind_exn, bindS_ok, bindS_exn, then_next, then_ret, then_brk, then_cont, then_exn, only_next, only_exn, run_nil, run_ret, run_retN, run_drop, run_if, run_asg, run_brk, run_cont, run_raise, run_gN, run_C, run_var, run_m2, run_lnil, run_lcons, run_tup, run_bool, run_tru, run_and, run_or, run_not, run_andV, run_orV, run_notV, run_ifE, run_chain, run_neg, run_sl, run_no, run_some, run_call, run_callF, run_meth, run_subM, run_par, run_par3, run_aug, run_itA, run_fld, run_fldM, run_tyes, fAdd_i, fSub_i, fLt_i, fLe_i, fGt_i, fGe_i, fEq_i, fNe_i, fAbs_i, fInt_i, fInt_b, fEq_s, fNe_s, fEq_b, fMax2_i, fMin2_i, fIAdd_i, fTru_b, fTru_i, run_methF, List.getElem?_cons_succ, List.getElem?_cons_zero, List.length_cons, List.length_nil, List.set_cons_succ, List.set_cons_zero, if_true, if_false, Bool.false_eq_true, Bool.not_true, Bool.not_false, decide_true, decide_false, ite_true, ite_false, Nat.zero_add, Nat.reduceAdd, oR, fm (show (0 : Int) < 2 by decide), c]
    rfl
  · rw [if_neg c]
    have s1 : sSeq (sAsg (gN 2) (m2 fMul (m2 fMod (m2 fDiv (mVar 1) (mC (.int 4))) (mC (.int 64))) (mC (.int 16)))) sNil [some (.ref P), some (.int e), none] h = .next [some (.ref P), some (.int e), some (.int (e / 4 % 64 * 16))] h := by
      refine seq_next (e1 := [some (.ref P), some (.int e), some (.int (e / 4 % 64 * 16))]) (h1 := h) ?_ rfl
      simp only [bind_ok, bind_exn, bindS_ok, bindS_exn, then_next, then_ret, then_brk, then_cont, then_exn, only_next, only_exn, run_nil, run_ret, run_retN, run_drop, run_if, run_asg, run_brk, run_cont, run_raise, run_gN, run_C, run_var, run_m2, run_lnil, run_lcons, run_tup, run_bool, run_tru, run_and, run_or, run_not, run_andV, run_orV, run_notV, run_ifE, run_chain, run_neg, run_sl, run_no, run_some, run_call, run_callF, run_meth, run_subM, run_par, run_par3, run_aug, run_itA, run_fld, run_fldM, run_tyes, fAdd_i, fSub_i, fLt_i, fLe_i, fGt_i, fGe_i, fEq_i, fNe_i, fAbs_i, fInt_i, fInt_b, fEq_s, fNe_s, fEq_b, fMax2_i, fMin2_i, fIAdd_i, fTru_b, fTru_i, run_methF, List.getElem?_cons_succ, List.getElem?_cons_zero, List.length_cons, List.length_nil, List.set_cons_succ, List.set_cons_zero, if_true, if_false, Bool.false_eq_true, Bool.not_true, Bool.not_false, decide_true, decide_false, ite_true, ite_false, Nat.zero_add, Nat.reduceAdd, oR, fd (show (0 : Int) < 4 by decide) (by decide), fm (show (0 : Int) < 64 by decide), mu (show -1000000 < (16 : Int) ∧ (16 : Int) < 1000000 by decide)]
    by_cases c2 : 192 < e / 4 % 64 * 16 + 16
    · rw [if_pos c2]
      refine call_exn (e1 := [some (.ref P), some (.int e), some (.int (e / 4 % 64 * 16))]) f_Pages_frame_of_eq rfl (seq_next (e1 := [some (.ref P), some (.int e), none]) (h1 := h) ?_ (seq_next (e1 := [some (.ref P), some (.int e), some (.int (e / 4 % 64 * 16))]) (h1 := h) ?_ (seq_exn ?_)))
      · show sIf _ _ _ [some (.ref P), some (.int e), none] h = _
        simp only [bind_ok, bind_exn, bindS_ok, bindS_exn, then_next, then_ret, then_brk, then_cont, then_exn, only_next, only_exn, run_nil, run_ret, run_retN, run_drop, run_if, run_asg, run_brk, run_cont, run_raise, run_gN, run_C, run_var, run_m2, run_lnil, run_lcons, run_tup, run_bool, run_tru, run_and, run_or, run_not, run_andV, run_orV, run_notV, run_ifE, run_chain, run_neg, run_sl, run_no, run_some, run_call, run_callF, run_meth, run_subM, run_par, run_par3, run_aug, run_itA, run_fld, run_fldM, run_tyes, fAdd_i, fSub_i, fLt_i, fLe_i, fGt_i, fGe_i, fEq_i, fNe_i, fAbs_i, fInt_i, fInt_b, fEq_s, fNe_s, fEq_b, fMax2_i, fMin2_i, fIAdd_i, fTru_b, fTru_i, run_methF, List.getElem?_cons_succ, List.getElem?_cons_zero, List.length_cons, List.length_nil, List.set_cons_succ, List.set_cons_zero, if_true, if_false, Bool.false_eq_true, Bool.not_true, Bool.not_false, decide_true, decide_false, ite_true, ite_false, Nat.zero_add, Nat.reduceAdd, oR, fm (show (0 : Int) < 2 by decide), c]
      · simp only [bind_ok, bind_exn, bindS_ok, bindS_exn, then_next, then_ret, then_brk, then_cont, then_exn, only_next, only_exn, run_nil, run_ret, run_retN, run_drop, run_if, run_asg, run_brk, run_cont, run_raise, run_gN, run_C, run_var, run_m2, run_lnil, run_lcons, run_tup, run_bool, run_tru, run_and, run_or, run_not, run_andV, run_orV, run_notV, run_ifE, run_chain, run_neg, run_sl, run_no, run_some, run_call, run_callF, run_meth, run_subM, run_par, run_par3, run_aug, run_itA, run_fld, run_fldM, run_tyes, fAdd_i, fSub_i, fLt_i, fLe_i, fGt_i, fGe_i, fEq_i, fNe_i, fAbs_i, fInt_i, fInt_b, fEq_s, fNe_s, fEq_b, fMax2_i, fMin2_i, fIAdd_i, fTru_b, fTru_i, run_methF, List.getElem?_cons_succ, List.getElem?_cons_zero, List.length_cons, List.length_nil, List.set_cons_succ, List.set_cons_zero, if_true, if_false, Bool.false_eq_true, Bool.not_true, Bool.not_false, decide_true, decide_false, ite_true, ite_false, Nat.zero_add, Nat.reduceAdd, oR, fd (show (0 : Int) < 4 by decide) (by decide), fm (show (0 : Int) < 64 by decide), mu (show -1000000 < (16 : Int) ∧ (16 : Int) < 1000000 by decide)]
      · have c3 : (192 : Int) < e / 4 % 64 * 16 + 16 := c2
        rw [run_if, run_bool, run_m2, run_m2, var_run (d := .int (e / 4 % 64 * 16)) rfl, bind_ok, run_C, bind_ok, fAdd_i, bind_ok, len, bind_ok]
        simp only [bind_ok, bind_exn, bindS_ok, bindS_exn, then_next, then_ret, then_brk, then_cont, then_exn, only_next, only_exn, run_nil, run_ret, run_retN, run_drop, run_if, run_asg, run_brk, run_cont, run_raise, run_gN, run_C, run_var, run_m2, run_lnil, run_lcons, run_tup, run_bool, run_tru, run_and, run_or, run_not, run_andV, run_orV, run_notV, run_ifE, run_chain, run_neg, run_sl, run_no, run_some, run_call, run_callF, run_meth, run_subM, run_par, run_par3, run_aug, run_itA, run_fld, run_fldM, run_tyes, fAdd_i, fSub_i, fLt_i, fLe_i, fGt_i, fGe_i, fEq_i, fNe_i, fAbs_i, fInt_i, fInt_b, fEq_s, fNe_s, fEq_b, fMax2_i, fMin2_i, fIAdd_i, fTru_b, fTru_i, run_methF, List.getElem?_cons_succ, List.getElem?_cons_zero, List.length_cons, List.length_nil, List.set_cons_succ, List.set_cons_zero, if_true, if_false, Bool.false_eq_true, Bool.not_true, Bool.not_false, decide_true, decide_false, ite_true, ite_false, Nat.zero_add, Nat.reduceAdd, oR, c3]
        rfl
    · rw [if_neg c2]
      refine call_ret f_Pages_frame_of_eq rfl (seq_next (e1 := [some (.ref P), some (.int e), none]) (h1 := h) ?_ (seq_next (e1 := [some (.ref P), some (.int e), some (.int (e / 4 % 64 * 16))]) (h1 := h) ?_ (seq_next (e1 := [some (.ref P), some (.int e), some (.int (e / 4 % 64 * 16))]) (h1 := h) ?_ rfl)))
      · show sIf _ _ _ [some (.ref P), some (.int e), none] h = _
        simp only [bind_ok, bind_exn, bindS_ok, bindS_exn, then_next, then_ret, then_brk, then_cont, then_exn, only_next, only_exn, run_nil, run_ret, run_retN, run_drop, run_if, run_asg, run_brk, run_cont, run_raise, run_gN, run_C, run_var, run_m2, run_lnil, run_lcons, run_tup, run_bool, run_tru, run_and, run_or, run_not, run_andV, run_orV, run_notV, run_ifE, run_chain, run_neg, run_sl, run_no, run_some, run_call, run_callF, run_meth, run_subM, run_par, run_par3, run_aug, run_itA, run_fld, run_fldM, run_tyes, fAdd_i, fSub_i, fLt_i, fLe_i, fGt_i, fGe_i, fEq_i, fNe_i, fAbs_i, fInt_i, fInt_b, fEq_s, fNe_s, fEq_b, fMax2_i, fMin2_i, fIAdd_i, fTru_b, fTru_i, run_methF, List.getElem?_cons_succ, List.getElem?_cons_zero, List.length_cons, List.length_nil, List.set_cons_succ, List.set_cons_zero, if_true, if_false, Bool.false_eq_true, Bool.not_true, Bool.not_false, decide_true, decide_false, ite_true, ite_false, Nat.zero_add, Nat.reduceAdd, oR, fm (show (0 : Int) < 2 by decide), c]
      · simp only [bind_ok, bind_exn, bindS_ok, bindS_exn, then_next, then_ret, then_brk, then_cont, then_exn, only_next, only_exn, run_nil, run_ret, run_retN, run_drop, run_if, run_asg, run_brk, run_cont, run_raise, run_gN, run_C, run_var, run_m2, run_lnil, run_lcons, run_tup, run_bool, run_tru, run_and, run_or, run_not, run_andV, run_orV, run_notV, run_ifE, run_chain, run_neg, run_sl, run_no, run_some, run_call, run_callF, run_meth, run_subM, run_par, run_par3, run_aug, run_itA, run_fld, run_fldM, run_tyes, fAdd_i, fSub_i, fLt_i, fLe_i, fGt_i, fGe_i, fEq_i, fNe_i, fAbs_i, fInt_i, fInt_b, fEq_s, fNe_s, fEq_b, fMax2_i, fMin2_i, fIAdd_i, fTru_b, fTru_i, run_methF, List.getElem?_cons_succ, List.getElem?_cons_zero, List.length_cons, List.length_nil, List.set_cons_succ, List.set_cons_zero, if_true, if_false, Bool.false_eq_true, Bool.not_true, Bool.not_false, decide_true, decide_false, ite_true, ite_false, Nat.zero_add, Nat.reduceAdd, oR, fd (show (0 : Int) < 4 by decide) (by decide), fm (show (0 : Int) < 64 by decide), mu (show -1000000 < (16 : Int) ∧ (16 : Int) < 1000000 by decide)]
      · have c3 : ¬ (192 : Int) < e / 4 % 64 * 16 + 16 := c2
        rw [run_if, run_bool, run_m2, run_m2, var_run (d := .int (e / 4 % 64 * 16)) rfl, bind_ok, run_C, bind_ok, fAdd_i, bind_ok, len, bind_ok]
        simp only [bind_ok, bind_exn, bindS_ok, bindS_exn, then_next, then_ret, then_brk, then_cont, then_exn, only_next, only_exn, run_nil, run_ret, run_retN, run_drop, run_if, run_asg, run_brk, run_cont, run_raise, run_gN, run_C, run_var, run_m2, run_lnil, run_lcons, run_tup, run_bool, run_tru, run_and, run_or, run_not, run_andV, run_orV, run_notV, run_ifE, run_chain, run_neg, run_sl, run_no, run_some, run_call, run_callF, run_meth, run_subM, run_par, run_par3, run_aug, run_itA, run_fld, run_fldM, run_tyes, fAdd_i, fSub_i, fLt_i, fLe_i, fGt_i, fGe_i, fEq_i, fNe_i, fAbs_i, fInt_i, fInt_b, fEq_s, fNe_s, fEq_b, fMax2_i, fMin2_i, fIAdd_i, fTru_b, fTru_i, run_methF, List.getElem?_cons_succ, List.getElem?_cons_zero, List.length_cons, List.length_nil, List.set_cons_succ, List.set_cons_zero, if_true, if_false, Bool.false_eq_true, Bool.not_true, Bool.not_false, decide_true, decide_false, ite_true, ite_false, Nat.zero_add, Nat.reduceAdd, oR, c3]
end
def lookP (e : Int) (w : Bool) : Bool := !(e % 2 == 0) && !(w && e / 2 % 2 == 0)
def kS (w : Bool) : D := .str (if w then "write" else "read")
theorem look_run (P : Nat) (e : Int) (w : Bool) (h : Hm) : f_Pages_look [.ref P, .int e, kS w] h = if lookP e w = true then .ok .non h else .exn exNo h := by
  have m2' := fun g => fm (x := e) (h := g) (show (0 : Int) < 2 by decide)
  have d2 := fun g => fd (x := e) (h := g) (show (0 : Int) < 2 by decide) (by decide)
  have m3 := fun g => fm (x := e / 2) (h := g) (show (0 : Int) < 2 by decide)
  by_cases c : e % 2 = 0
  · rw [if_neg (by simp [lookP, c])]
    refine call_exn (e1 := [some (.ref P), some (.int e), some (kS w)]) f_Pages_look_eq rfl (seq_exn ?_)
    show sIf _ _ _ [some (.ref P), some (.int e), some (kS w)] h = _
    simp only [bind_ok, bind_exn, bindS_ok, bindS_exn, then_next, then_ret, then_brk, then_cont, then_exn, only_next, only_exn, run_nil, run_ret, run_retN, run_drop, run_if, run_asg, run_brk, run_cont, run_raise, run_gN, run_C, run_var, run_m2, run_lnil, run_lcons, run_tup, run_bool, run_tru, run_and, run_or, run_not, run_andV, run_orV, run_notV, run_ifE, run_chain, run_neg, run_sl, run_no, run_some, run_call, run_callF, run_meth, run_subM, run_par, run_par3, run_aug, run_itA, run_fld, run_fldM, run_tyes, fAdd_i, fSub_i, fLt_i, fLe_i, fGt_i, fGe_i, fEq_i, fNe_i, fAbs_i, fInt_i, fInt_b, fEq_s, fNe_s, fEq_b, fMax2_i, fMin2_i, fIAdd_i, fTru_b, fTru_i, run_methF, List.getElem?_cons_succ, List.getElem?_cons_zero, List.length_cons, List.length_nil, List.set_cons_succ, List.set_cons_zero, if_true, if_false, Bool.false_eq_true, Bool.not_true, Bool.not_false, decide_true, decide_false, ite_true, ite_false, Nat.zero_add, Nat.reduceAdd, oR, m2', c]
    rfl
  · have first : sIf (mBool (m2 fEq (m2 fMod (mVar 1) (mC (.int 2))) (mC (.int 0)))) (sRaise "NoWay") sNil [some (.ref P), some (.int e), some (kS w)] h = .next [some (.ref P), some (.int e), some (kS w)] h := by
      simp only [bind_ok, bind_exn, bindS_ok, bindS_exn, then_next, then_ret, then_brk, then_cont, then_exn, only_next, only_exn, run_nil, run_ret, run_retN, run_drop, run_if, run_asg, run_brk, run_cont, run_raise, run_gN, run_C, run_var, run_m2, run_lnil, run_lcons, run_tup, run_bool, run_tru, run_and, run_or, run_not, run_andV, run_orV, run_notV, run_ifE, run_chain, run_neg, run_sl, run_no, run_some, run_call, run_callF, run_meth, run_subM, run_par, run_par3, run_aug, run_itA, run_fld, run_fldM, run_tyes, fAdd_i, fSub_i, fLt_i, fLe_i, fGt_i, fGe_i, fEq_i, fNe_i, fAbs_i, fInt_i, fInt_b, fEq_s, fNe_s, fEq_b, fMax2_i, fMin2_i, fIAdd_i, fTru_b, fTru_i, run_methF, List.getElem?_cons_succ, List.getElem?_cons_zero, List.length_cons, List.length_nil, List.set_cons_succ, List.set_cons_zero, if_true, if_false, Bool.false_eq_true, Bool.not_true, Bool.not_false, decide_true, decide_false, ite_true, ite_false, Nat.zero_add, Nat.reduceAdd, oR, m2', c]
    cases w with
    | false =>
      rw [if_pos (by simp [lookP, c])]
      refine call_next (e1 := [some (.ref P), some (.int e), some (kS false)]) f_Pages_look_eq rfl (seq_next first ?_)
      have ne : ¬ ((Str.ofString "read") = (Str.ofString "write")) := by simp
      simp only [bind_ok, bind_exn, bindS_ok, bindS_exn, then_next, then_ret, then_brk, then_cont, then_exn, only_next, only_exn, run_nil, run_ret, run_retN, run_drop, run_if, run_asg, run_brk, run_cont, run_raise, run_gN, run_C, run_var, run_m2, run_lnil, run_lcons, run_tup, run_bool, run_tru, run_and, run_or, run_not, run_andV, run_orV, run_notV, run_ifE, run_chain, run_neg, run_sl, run_no, run_some, run_call, run_callF, run_meth, run_subM, run_par, run_par3, run_aug, run_itA, run_fld, run_fldM, run_tyes, fAdd_i, fSub_i, fLt_i, fLe_i, fGt_i, fGe_i, fEq_i, fNe_i, fAbs_i, fInt_i, fInt_b, fEq_s, fNe_s, fEq_b, fMax2_i, fMin2_i, fIAdd_i, fTru_b, fTru_i, run_methF, List.getElem?_cons_succ, List.getElem?_cons_zero, List.length_cons, List.length_nil, List.set_cons_succ, List.set_cons_zero, if_true, if_false, Bool.false_eq_true, Bool.not_true, Bool.not_false, decide_true, decide_false, ite_true, ite_false, Nat.zero_add, Nat.reduceAdd, oR, kS, ne]
    | true =>
      by_cases c2 : e / 2 % 2 = 0
      · rw [if_neg (by simp [lookP, c, c2])]
        refine call_exn (e1 := [some (.ref P), some (.int e), some (kS true)]) f_Pages_look_eq rfl (seq_next first ?_)
        simp only [bind_ok, bind_exn, bindS_ok, bindS_exn, then_next, then_ret, then_brk, then_cont, then_exn, only_next, only_exn, run_nil, run_ret, run_retN, run_drop, run_if, run_asg, run_brk, run_cont, run_raise, run_gN, run_C, run_var, run_m2, run_lnil, run_lcons, run_tup, run_bool, run_tru, run_and, run_or, run_not, run_andV, run_orV, run_notV, run_ifE, run_chain, run_neg, run_sl, run_no, run_some, run_call, run_callF, run_meth, run_subM, run_par, run_par3, run_aug, run_itA, run_fld, run_fldM, run_tyes, fAdd_i, fSub_i, fLt_i, fLe_i, fGt_i, fGe_i, fEq_i, fNe_i, fAbs_i, fInt_i, fInt_b, fEq_s, fNe_s, fEq_b, fMax2_i, fMin2_i, fIAdd_i, fTru_b, fTru_i, run_methF, List.getElem?_cons_succ, List.getElem?_cons_zero, List.length_cons, List.length_nil, List.set_cons_succ, List.set_cons_zero, if_true, if_false, Bool.false_eq_true, Bool.not_true, Bool.not_false, decide_true, decide_false, ite_true, ite_false, Nat.zero_add, Nat.reduceAdd, oR, kS, d2, m3, c2]
        rfl
      · rw [if_pos (by simp [lookP, c, c2])]
        refine call_next (e1 := [some (.ref P), some (.int e), some (kS true)]) f_Pages_look_eq rfl (seq_next first ?_)
        simp only [bind_ok, bind_exn, bindS_ok, bindS_exn, then_next, then_ret, then_brk, then_cont, then_exn, only_next, only_exn, run_nil, run_ret, run_retN, run_drop, run_if, run_asg, run_brk, run_cont, run_raise, run_gN, run_C, run_var, run_m2, run_lnil, run_lcons, run_tup, run_bool, run_tru, run_and, run_or, run_not, run_andV, run_orV, run_notV, run_ifE, run_chain, run_neg, run_sl, run_no, run_some, run_call, run_callF, run_meth, run_subM, run_par, run_par3, run_aug, run_itA, run_fld, run_fldM, run_tyes, fAdd_i, fSub_i, fLt_i, fLe_i, fGt_i, fGe_i, fEq_i, fNe_i, fAbs_i, fInt_i, fInt_b, fEq_s, fNe_s, fEq_b, fMax2_i, fMin2_i, fIAdd_i, fTru_b, fTru_i, run_methF, List.getElem?_cons_succ, List.getElem?_cons_zero, List.length_cons, List.length_nil, List.set_cons_succ, List.set_cons_zero, if_true, if_false, Bool.false_eq_true, Bool.not_true, Bool.not_false, decide_true, decide_false, ite_true, ite_false, Nat.zero_add, Nat.reduceAdd, oR, kS, d2, m3, c2]
def entP (ws : List Int) (b a : Int) : Int := ws.getD (b + a / 16 % 16).toNat 0
def walkP (ws : List Int) (a : Int) (w : Bool) : Option Int :=
  if 0 ≤ a ∧ a < 4096 then (match frP (ws.getD (a / 256).toNat 0) with
    | none => none
    | some b => if lookP (entP ws b a) w = true then (frP (entP ws b a)).map (· + a % 16) else none) else none
theorem frP_range {e b : Int} (h : frP e = some b) : 0 ≤ b ∧ b ≤ 176 := by
  unfold frP at h
  split at h
  · cases h
  · split at h
    · cases h
    · cases h
      omega
theorem ix_get {ws : List Int} {r : Nat} {h : Hm} {k : Int} (e : h[r]? = some (.lst (ws.map D.int))) (k0 : 0 ≤ k) (k1 : k < ws.length) : fIx (.ref r) (.int k) h = .ok (.int (ws.getD k.toNat 0)) h := by
  refine fIx_int e k0 ?_
  have : k.toNat < ws.length := by omega
  rw [List.getElem?_map, List.getElem?_eq_getElem this, List.getD_eq_getElem?_getD, List.getElem?_eq_getElem this]
  rfl
section
variable {h : Hm} {P W Hd : Nat} {room asked missed : Int} {ws : List Int} (o : Ob h P W Hd room asked missed ws)
include o
theorem frM (hl : ws.length = 192) {env : Ev} (e0 : env[0]? = some (some (.ref P))) {j : Nat} {e : Int} (ej : env[j]? = some (some (.int e))) : mMethF "Pages" "frame_of" 2 f_Pages_frame_of (mVar 0) (mCons (mVar j) mNil) env h = oI (frP e) h := by
  exact (meth_run (ds := [.int e]) (var_run e0) o.p rfl (by rw [run_lcons, var_run ej, bind_ok, run_lnil, bind_ok]) rfl).trans (frame_run o hl e)
theorem walk_run (hl : ws.length = 192) (a : Int) (w : Bool) : f_Pages_walk [.ref P, .int a, kS w] h = oI (walkP ws a w) h := by
  unfold walkP
  have big : mBool (mChain fLe fLt (mC (.int 0)) (mVar 1) (m2 fMul (m2 fMul (mC (.int 16)) (mC (.int 16))) (mC (.int 16)))) [some (.ref P), some (.int a), some (kS w), none, none] h = .ok (decide (0 ≤ a ∧ a < 4096)) h := by
    have k1 := fun g => mu (x := 16) (y := 16) (h := g) (by decide)
    have k2 := fun g => mu (x := 16 * 16) (y := 16) (h := g) (by decide)
    by_cases c : 0 ≤ a
    · simp only [bind_ok, bind_exn, bindS_ok, bindS_exn, then_next, then_ret, then_brk, then_cont, then_exn, only_next, only_exn, run_nil, run_ret, run_retN, run_drop, run_if, run_asg, run_brk, run_cont, run_raise, run_gN, run_C, run_var, run_m2, run_lnil, run_lcons, run_tup, run_bool, run_tru, run_and, run_or, run_not, run_andV, run_orV, run_notV, run_ifE, run_chain, run_neg, run_sl, run_no, run_some, run_call, run_callF, run_meth, run_subM, run_par, run_par3, run_aug, run_itA, run_fld, run_fldM, run_tyes, fAdd_i, fSub_i, fLt_i, fLe_i, fGt_i, fGe_i, fEq_i, fNe_i, fAbs_i, fInt_i, fInt_b, fEq_s, fNe_s, fEq_b, fMax2_i, fMin2_i, fIAdd_i, fTru_b, fTru_i, run_methF, List.getElem?_cons_succ, List.getElem?_cons_zero, List.length_cons, List.length_nil, List.set_cons_succ, List.set_cons_zero, if_true, if_false, Bool.false_eq_true, Bool.not_true, Bool.not_false, decide_true, decide_false, ite_true, ite_false, Nat.zero_add, Nat.reduceAdd, oR, k1, k2, c]
      simp
    · simp only [bind_ok, bind_exn, bindS_ok, bindS_exn, then_next, then_ret, then_brk, then_cont, then_exn, only_next, only_exn, run_nil, run_ret, run_retN, run_drop, run_if, run_asg, run_brk, run_cont, run_raise, run_gN, run_C, run_var, run_m2, run_lnil, run_lcons, run_tup, run_bool, run_tru, run_and, run_or, run_not, run_andV, run_orV, run_notV, run_ifE, run_chain, run_neg, run_sl, run_no, run_some, run_call, run_callF, run_meth, run_subM, run_par, run_par3, run_aug, run_itA, run_fld, run_fldM, run_tyes, fAdd_i, fSub_i, fLt_i, fLe_i, fGt_i, fGe_i, fEq_i, fNe_i, fAbs_i, fInt_i, fInt_b, fEq_s, fNe_s, fEq_b, fMax2_i, fMin2_i, fIAdd_i, fTru_b, fTru_i, run_methF, List.getElem?_cons_succ, List.getElem?_cons_zero, List.length_cons, List.length_nil, List.set_cons_succ, List.set_cons_zero, if_true, if_false, Bool.false_eq_true, Bool.not_true, Bool.not_false, decide_true, decide_false, ite_true, ite_false, Nat.zero_add, Nat.reduceAdd, oR, k1, k2, c]
      simp [c]
  by_cases c : 0 ≤ a ∧ a < 4096
  · rw [if_pos c]
    have s0 : sIf (mNot (mBool (mChain fLe fLt (mC (.int 0)) (mVar 1) (m2 fMul (m2 fMul (mC (.int 16)) (mC (.int 16))) (mC (.int 16)))))) (sRaise "NoWay") sNil [some (.ref P), some (.int a), some (kS w), none, none] h = .next [some (.ref P), some (.int a), some (kS w), none, none] h := by
      rw [run_if, run_not, big, decide_eq_true c]
      rfl
    have s1 : sAsg (gN 3) (m2 fIx (mFld cs_words "words" (mVar 0)) (m2 fAdd (mFld cs_root "root" (mVar 0)) (m2 fDiv (mVar 1) (m2 fMul (mC (.int 16)) (mC (.int 16)))))) [some (.ref P), some (.int a), some (kS w), none, none] h = .next [some (.ref P), some (.int a), some (kS w), some (.int (ws.getD (a / 256).toNat 0)), none] h := by
      refine asg_run ?_
      have k1 := fun g => mu (x := 16) (y := 16) (h := g) (by decide)
      have k2 := fun g => fd (x := a) (y := 16 * 16) (h := g) (by decide) (by decide)
      have k3 : (0 : Int) + a / (16 * 16) = a / 256 := by omega
      have k4 := ix_get o.w (k := a / 256) (by omega) (by rw [hl]; omega)
      rw [run_m2, w_run o rfl, bind_ok, run_m2, rt_run o rfl, bind_ok]
      simp only [bind_ok, bind_exn, bindS_ok, bindS_exn, then_next, then_ret, then_brk, then_cont, then_exn, only_next, only_exn, run_nil, run_ret, run_retN, run_drop, run_if, run_asg, run_brk, run_cont, run_raise, run_gN, run_C, run_var, run_m2, run_lnil, run_lcons, run_tup, run_bool, run_tru, run_and, run_or, run_not, run_andV, run_orV, run_notV, run_ifE, run_chain, run_neg, run_sl, run_no, run_some, run_call, run_callF, run_meth, run_subM, run_par, run_par3, run_aug, run_itA, run_fld, run_fldM, run_tyes, fAdd_i, fSub_i, fLt_i, fLe_i, fGt_i, fGe_i, fEq_i, fNe_i, fAbs_i, fInt_i, fInt_b, fEq_s, fNe_s, fEq_b, fMax2_i, fMin2_i, fIAdd_i, fTru_b, fTru_i, run_methF, List.getElem?_cons_succ, List.getElem?_cons_zero, List.length_cons, List.length_nil, List.set_cons_succ, List.set_cons_zero, if_true, if_false, Bool.false_eq_true, Bool.not_true, Bool.not_false, decide_true, decide_false, ite_true, ite_false, Nat.zero_add, Nat.reduceAdd, oR, k1, k2, k3, k4]
    generalize hf : ws.getD (a / 256).toNat 0 = first at s1 ⊢
    cases hb : frP first with
    | none =>
      refine call_exn (e1 := [some (.ref P), some (.int a), some (kS w), some (.int first), none]) f_Pages_walk_eq rfl (seq_next s0 (seq_next s1 (seq_exn ?_)))
      have f1 := frM (env := [some (.ref P), some (.int a), some (kS w), some (.int first), none]) o hl rfl (j := 3) (e := first) rfl
      rw [hb] at f1
      rw [run_asg, run_m2, w_run o rfl, bind_ok, run_m2, f1]
      rfl
    | some b =>
      obtain ⟨b0, b1⟩ := frP_range hb
      simp only
      have s2 : sAsg (gN 4) (m2 fIx (mFld cs_words "words" (mVar 0)) (m2 fAdd (mMethF "Pages" "frame_of" 2 f_Pages_frame_of (mVar 0) (mCons (mVar 3) mNil)) (m2 fMod (m2 fDiv (mVar 1) (mC (.int 16))) (mC (.int 16))))) [some (.ref P), some (.int a), some (kS w), some (.int first), none] h = .next [some (.ref P), some (.int a), some (kS w), some (.int first), some (.int (entP ws b a))] h := by
        refine asg_run ?_
        have f1 := frM (env := [some (.ref P), some (.int a), some (kS w), some (.int first), none]) o hl rfl (j := 3) (e := first) rfl
        rw [hb] at f1
        have k2 := fun g => fd (x := a) (y := 16) (h := g) (by decide) (by decide)
        have k3 := fun g => fm (x := a / 16) (y := 16) (h := g) (by decide)
        have k4 := ix_get o.w (k := b + a / 16 % 16) (by omega) (by rw [hl]; omega)
        rw [run_m2, w_run o rfl, bind_ok, run_m2, f1]
        simp only [bind_ok, bind_exn, bindS_ok, bindS_exn, then_next, then_ret, then_brk, then_cont, then_exn, only_next, only_exn, run_nil, run_ret, run_retN, run_drop, run_if, run_asg, run_brk, run_cont, run_raise, run_gN, run_C, run_var, run_m2, run_lnil, run_lcons, run_tup, run_bool, run_tru, run_and, run_or, run_not, run_andV, run_orV, run_notV, run_ifE, run_chain, run_neg, run_sl, run_no, run_some, run_call, run_callF, run_meth, run_subM, run_par, run_par3, run_aug, run_itA, run_fld, run_fldM, run_tyes, fAdd_i, fSub_i, fLt_i, fLe_i, fGt_i, fGe_i, fEq_i, fNe_i, fAbs_i, fInt_i, fInt_b, fEq_s, fNe_s, fEq_b, fMax2_i, fMin2_i, fIAdd_i, fTru_b, fTru_i, run_methF, List.getElem?_cons_succ, List.getElem?_cons_zero, List.length_cons, List.length_nil, List.set_cons_succ, List.set_cons_zero, if_true, if_false, Bool.false_eq_true, Bool.not_true, Bool.not_false, decide_true, decide_false, ite_true, ite_false, Nat.zero_add, Nat.reduceAdd, oR, oI, k2, k3, k4]
        rfl
      generalize entP ws b a = e at s2 ⊢
      have lk : mMethF "Pages" "look" 3 f_Pages_look (mVar 0) (mCons (mVar 4) (mCons (mVar 2) mNil)) [some (.ref P), some (.int a), some (kS w), some (.int first), some (.int e)] h = if lookP e w = true then .ok .non h else .exn exNo h := by
        exact (meth_run (ds := [.int e, kS w]) (var_run rfl) o.p rfl rfl rfl).trans (look_run P e w h)
      by_cases cl : lookP e w = true
      · rw [if_pos cl] at lk ⊢
        have f2 := frM (env := [some (.ref P), some (.int a), some (kS w), some (.int first), some (.int e)]) o hl rfl (j := 4) (e := e) rfl
        have s3 : sDrop (mMethF "Pages" "look" 3 f_Pages_look (mVar 0) (mCons (mVar 4) (mCons (mVar 2) mNil))) [some (.ref P), some (.int a), some (kS w), some (.int first), some (.int e)] h = .next [some (.ref P), some (.int a), some (kS w), some (.int first), some (.int e)] h := by
          rw [run_drop, lk]
          rfl
        cases hb2 : frP e with
        | none =>
          rw [hb2] at f2
          refine call_exn (e1 := [some (.ref P), some (.int a), some (kS w), some (.int first), some (.int e)]) f_Pages_walk_eq rfl (seq_next s0 (seq_next s1 (seq_next s2 (seq_next s3 ?_))))
          rw [run_ret, run_m2, f2]
          rfl
        | some f =>
          rw [hb2] at f2
          have k2 := fun g => fm (x := a) (y := 16) (h := g) (by decide)
          refine call_ret f_Pages_walk_eq rfl (seq_next s0 (seq_next s1 (seq_next s2 (seq_next s3 ?_))))
          rw [run_ret, run_m2, f2]
          simp only [bind_ok, bind_exn, bindS_ok, bindS_exn, then_next, then_ret, then_brk, then_cont, then_exn, only_next, only_exn, run_nil, run_ret, run_retN, run_drop, run_if, run_asg, run_brk, run_cont, run_raise, run_gN, run_C, run_var, run_m2, run_lnil, run_lcons, run_tup, run_bool, run_tru, run_and, run_or, run_not, run_andV, run_orV, run_notV, run_ifE, run_chain, run_neg, run_sl, run_no, run_some, run_call, run_callF, run_meth, run_subM, run_par, run_par3, run_aug, run_itA, run_fld, run_fldM, run_tyes, fAdd_i, fSub_i, fLt_i, fLe_i, fGt_i, fGe_i, fEq_i, fNe_i, fAbs_i, fInt_i, fInt_b, fEq_s, fNe_s, fEq_b, fMax2_i, fMin2_i, fIAdd_i, fTru_b, fTru_i, run_methF, List.getElem?_cons_succ, List.getElem?_cons_zero, List.length_cons, List.length_nil, List.set_cons_succ, List.set_cons_zero, if_true, if_false, Bool.false_eq_true, Bool.not_true, Bool.not_false, decide_true, decide_false, ite_true, ite_false, Nat.zero_add, Nat.reduceAdd, oR, oI, k2]
      · rw [if_neg cl] at lk ⊢
        refine call_exn (e1 := [some (.ref P), some (.int a), some (kS w), some (.int first), some (.int e)]) f_Pages_walk_eq rfl (seq_next s0 (seq_next s1 (seq_next s2 (seq_exn ?_))))
        rw [run_drop, lk]
        rfl
  · rw [if_neg c]
    refine call_exn (e1 := [some (.ref P), some (.int a), some (kS w), none, none]) f_Pages_walk_eq rfl (seq_exn ?_)
    show sIf _ _ _ [some (.ref P), some (.int a), some (kS w), none, none] h = _
    rw [run_if, run_not, big, decide_eq_false c]
    rfl
theorem can_run (hl : ws.length = 192) (a : Int) (w : Bool) : f_Pages_can [.ref P, .int a, kS w] h = .ok (.bl (walkP ws a w).isSome) h := by
  have wk : mMethF "Pages" "walk" 3 f_Pages_walk (mVar 0) (mCons (mVar 1) (mCons (mVar 2) mNil)) [some (.ref P), some (.int a), some (kS w)] h = oI (walkP ws a w) h := by
    exact (meth_run (ds := [.int a, kS w]) (var_run rfl) o.p rfl rfl rfl).trans (walk_run o hl a w)
  cases q : walkP ws a w with
  | none =>
    rw [q] at wk
    refine call_ret f_Pages_can_eq rfl (seq_ret ?_)
    have d : sDrop (mMethF "Pages" "walk" 3 f_Pages_walk (mVar 0) (mCons (mVar 1) (mCons (mVar 2) mNil))) [some (.ref P), some (.int a), some (kS w)] h = .exn exNo [some (.ref P), some (.int a), some (kS w)] h := by
      rw [run_drop, wk]
      rfl
    show sTry _ _ _ [some (.ref P), some (.int a), some (kS w)] h = _
    unfold sTry
    rw [d]
    rfl
  | some v =>
    rw [q] at wk
    refine call_ret f_Pages_can_eq rfl (seq_next (e1 := [some (.ref P), some (.int a), some (kS w)]) (h1 := h) ?_ rfl)
    have d : sDrop (mMethF "Pages" "walk" 3 f_Pages_walk (mVar 0) (mCons (mVar 1) (mCons (mVar 2) mNil))) [some (.ref P), some (.int a), some (kS w)] h = .next [some (.ref P), some (.int a), some (kS w)] h := by
      rw [run_drop, wk]
      rfl
    show sTry _ _ _ [some (.ref P), some (.int a), some (kS w)] h = _
    unfold sTry
    rw [d]
end
def hD (p : Int × Int) : D := .tup [.int p.1, .int p.2]
def hitP (e a : Int) (w : Bool) : Option Int := if lookP e w = true then (frP e).map (· + a % 16) else none
def findP (hs : List (Int × Int)) (pg : Int) : Option Int := (hs.find? fun p => decide (p.1 = pg)).map (·.2)
def entW (ws : List Int) (a : Int) : Int := match frP (ws.getD (a / 256).toNat 0) with
  | some b => entP ws b a
  | none => 0
/-- two objects may have changed, no more -/
def Kb (P Q : Nat) (h h' : Hm) : Prop := h'.length = h.length ∧ ∀ j, j ≠ P → j ≠ Q → h'[j]? = h[j]?
theorem Kb.refl {P Q : Nat} {h : Hm} : Kb P Q h h := ⟨rfl, fun _ _ _ => rfl⟩
theorem Kb.trans {P Q : Nat} {h h1 h2 : Hm} (a : Kb P Q h h1) (b : Kb P Q h1 h2) : Kb P Q h h2 := ⟨b.1.trans a.1, fun j x y => (b.2 j x y).trans (a.2 j x y)⟩
theorem Kb.setP {P Q : Nat} {h : Hm} {o : O} : Kb P Q h (h.set P o) := ⟨List.length_set .., fun j x _ => List.getElem?_set_ne (Ne.symm x)⟩
theorem Kb.setQ {P Q : Nat} {h : Hm} {o : O} : Kb P Q h (h.set Q o) := ⟨List.length_set .., fun j _ y => List.getElem?_set_ne (Ne.symm y)⟩
theorem Kb.get {P Q j : Nat} {h h' : Hm} {o : O} (k : Kb P Q h h') (e : h[j]? = some o) (x : j ≠ P) (y : j ≠ Q) : h'[j]? = some o := (k.2 j x y).trans e
section
variable {h : Hm} {P W Hd : Nat} {room asked missed : Int} {ws : List Int}
/-- the object's own fields change -/
theorem Ob.set (o : Ob h P W Hd room asked missed ws) (nw : P ≠ W) (k1 k2 : Int) : Ob (h.set P (.ins "Pages" (fl W Hd room k1 k2))) P W Hd room k1 k2 ws :=
  ⟨List.getElem?_set_self (List.getElem?_eq_some_iff.mp o.p).1, by rw [List.getElem?_set_ne nw]; exact o.w⟩
theorem Ob.setH (o : Ob h P W Hd room asked missed ws) (nP : P ≠ Hd) (nW : W ≠ Hd) (x : O) : Ob (h.set Hd x) P W Hd room asked missed ws :=
  ⟨by rw [List.getElem?_set_ne (Ne.symm nP)]; exact o.p, by rw [List.getElem?_set_ne (Ne.symm nW)]; exact o.w⟩
theorem found_loop (o : Ob h P W Hd room asked missed ws) (hl : ws.length = 192) {a : Int} {w : Bool} {gs : List (Nat × O)} (hg : gdOk gs h = true) : ∀ (hs : List (Int × Int)) (x3 x4 x5 x6 : Option D),
    match findP hs (a / 16) with
    | none => ∃ y3 y4, forL gs (gU 2 (gsCons (gN 3) (gsCons (gN 4) gsNil))) l_Pages_found_at_0 (hs.map hD) [some (.ref P), some (.int a), some (kS w), x3, x4, x5, x6] h = .next [some (.ref P), some (.int a), some (kS w), y3, y4, x5, x6] h
    | some e => ∃ e1, forL gs (gU 2 (gsCons (gN 3) (gsCons (gN 4) gsNil))) l_Pages_found_at_0 (hs.map hD) [some (.ref P), some (.int a), some (kS w), x3, x4, x5, x6] h = (match hitP e a w with
      | some v => .ret (.int v) h
      | none => .exn exNo e1 h)
  | [], x3, x4, x5, x6 => ⟨x3, x4, forL_nil hg⟩
  | (p, e) :: hs, x3, x4, x5, x6 => by
    have tg : gU 2 (gsCons (gN 3) (gsCons (gN 4) gsNil)) (hD (p, e)) [some (.ref P), some (.int a), some (kS w), x3, x4, x5, x6] h = .next [some (.ref P), some (.int a), some (kS w), some (.int p), some (.int e), x5, x6] h := rfl
    have dv := fun g => fd (x := a) (y := 16) (h := g) (by decide) (by decide)
    by_cases c : p = a / 16
    · have ef : findP ((p, e) :: hs) (a / 16) = some e := by simp [findP, c]
      rw [ef]
      simp only
      refine ⟨[some (.ref P), some (.int a), some (kS w), some (.int p), some (.int e), x5, x6], ?_⟩
      have body : l_Pages_found_at_0 [some (.ref P), some (.int a), some (kS w), some (.int p), some (.int e), x5, x6] h = (match hitP e a w with
        | some v => .ret (.int v) h
        | none => .exn exNo [some (.ref P), some (.int a), some (kS w), some (.int p), some (.int e), x5, x6] h) := by
        have lk : mMethF "Pages" "look" 3 f_Pages_look (mVar 0) (mCons (mVar 4) (mCons (mVar 2) mNil)) [some (.ref P), some (.int a), some (kS w), some (.int p), some (.int e), x5, x6] h = if lookP e w = true then .ok .non h else .exn exNo h :=
          (meth_run (ds := [.int e, kS w]) (var_run rfl) o.p rfl rfl rfl).trans (look_run P e w h)
        have f2 := frM (env := [some (.ref P), some (.int a), some (kS w), some (.int p), some (.int e), x5, x6]) o hl rfl (j := 4) (e := e) rfl
        have km := fun g => fm (x := a) (y := 16) (h := g) (by decide)
        unfold l_Pages_found_at_0 t_Pages_found_at_2 hitP
        have ct : mBool (m2 fEq (mVar 3) (m2 fDiv (mVar 1) (mC (.int 16)))) [some (.ref P), some (.int a), some (kS w), some (.int p), some (.int e), x5, x6] h = .ok true h := by
          simp only [bind_ok, bind_exn, bindS_ok, bindS_exn, then_next, then_ret, then_brk, then_cont, then_exn, only_next, only_exn, run_nil, run_ret, run_retN, run_drop, run_if, run_asg, run_brk, run_cont, run_raise, run_gN, run_C, run_var, run_m2, run_lnil, run_lcons, run_tup, run_bool, run_tru, run_and, run_or, run_not, run_andV, run_orV, run_notV, run_ifE, run_chain, run_neg, run_sl, run_no, run_some, run_call, run_callF, run_meth, run_subM, run_par, run_par3, run_aug, run_itA, run_fld, run_fldM, run_tyes, fAdd_i, fSub_i, fLt_i, fLe_i, fGt_i, fGe_i, fEq_i, fNe_i, fAbs_i, fInt_i, fInt_b, fEq_s, fNe_s, fEq_b, fMax2_i, fMin2_i, fIAdd_i, fTru_b, fTru_i, run_methF, List.getElem?_cons_succ, List.getElem?_cons_zero, List.length_cons, List.length_nil, List.set_cons_succ, List.set_cons_zero, if_true, if_false, Bool.false_eq_true, Bool.not_true, Bool.not_false, decide_true, decide_false, ite_true, ite_false, Nat.zero_add, Nat.reduceAdd, oR, dv, c]
        rw [run_if, ct, bindS_ok, if_pos rfl]
        by_cases cl : lookP e w = true
        · rw [if_pos cl] at lk ⊢
          have s3 : sDrop (mMethF "Pages" "look" 3 f_Pages_look (mVar 0) (mCons (mVar 4) (mCons (mVar 2) mNil))) [some (.ref P), some (.int a), some (kS w), some (.int p), some (.int e), x5, x6] h = .next [some (.ref P), some (.int a), some (kS w), some (.int p), some (.int e), x5, x6] h := by
            rw [run_drop, lk]
            rfl
          refine seq_next s3 ?_
          cases hb2 : frP e with
          | none =>
            rw [hb2] at f2
            show sRet _ _ _ = _
            rw [run_ret, run_m2, f2]
            rfl
          | some f =>
            rw [hb2] at f2
            show sRet _ _ _ = _
            rw [run_ret, run_m2, f2]
            simp only [bind_ok, bind_exn, bindS_ok, bindS_exn, then_next, then_ret, then_brk, then_cont, then_exn, only_next, only_exn, run_nil, run_ret, run_retN, run_drop, run_if, run_asg, run_brk, run_cont, run_raise, run_gN, run_C, run_var, run_m2, run_lnil, run_lcons, run_tup, run_bool, run_tru, run_and, run_or, run_not, run_andV, run_orV, run_notV, run_ifE, run_chain, run_neg, run_sl, run_no, run_some, run_call, run_callF, run_meth, run_subM, run_par, run_par3, run_aug, run_itA, run_fld, run_fldM, run_tyes, fAdd_i, fSub_i, fLt_i, fLe_i, fGt_i, fGe_i, fEq_i, fNe_i, fAbs_i, fInt_i, fInt_b, fEq_s, fNe_s, fEq_b, fMax2_i, fMin2_i, fIAdd_i, fTru_b, fTru_i, run_methF, List.getElem?_cons_succ, List.getElem?_cons_zero, List.length_cons, List.length_nil, List.set_cons_succ, List.set_cons_zero, if_true, if_false, Bool.false_eq_true, Bool.not_true, Bool.not_false, decide_true, decide_false, ite_true, ite_false, Nat.zero_add, Nat.reduceAdd, oR, oI, km, Option.map_some]
        · rw [if_neg cl] at lk ⊢
          refine seq_exn ?_
          show sDrop _ _ _ = _
          rw [run_drop, lk]
          rfl
      rw [List.map_cons]
      unfold forL
      rw [if_pos hg, tg]
      simp only [only_next, body]
      cases hitP e a w with
      | none => rfl
      | some v => rfl
    · have ef : findP ((p, e) :: hs) (a / 16) = findP hs (a / 16) := by simp [findP, c]
      rw [ef]
      have body : l_Pages_found_at_0 [some (.ref P), some (.int a), some (kS w), some (.int p), some (.int e), x5, x6] h = .next [some (.ref P), some (.int a), some (kS w), some (.int p), some (.int e), x5, x6] h := by
        unfold l_Pages_found_at_0 t_Pages_found_at_2
        simp only [bind_ok, bind_exn, bindS_ok, bindS_exn, then_next, then_ret, then_brk, then_cont, then_exn, only_next, only_exn, run_nil, run_ret, run_retN, run_drop, run_if, run_asg, run_brk, run_cont, run_raise, run_gN, run_C, run_var, run_m2, run_lnil, run_lcons, run_tup, run_bool, run_tru, run_and, run_or, run_not, run_andV, run_orV, run_notV, run_ifE, run_chain, run_neg, run_sl, run_no, run_some, run_call, run_callF, run_meth, run_subM, run_par, run_par3, run_aug, run_itA, run_fld, run_fldM, run_tyes, fAdd_i, fSub_i, fLt_i, fLe_i, fGt_i, fGe_i, fEq_i, fNe_i, fAbs_i, fInt_i, fInt_b, fEq_s, fNe_s, fEq_b, fMax2_i, fMin2_i, fIAdd_i, fTru_b, fTru_i, run_methF, List.getElem?_cons_succ, List.getElem?_cons_zero, List.length_cons, List.length_nil, List.set_cons_succ, List.set_cons_zero, if_true, if_false, Bool.false_eq_true, Bool.not_true, Bool.not_false, decide_true, decide_false, ite_true, ite_false, Nat.zero_add, Nat.reduceAdd, oR, dv, c]
      have ih := found_loop o hl (a := a) (w := w) hg hs (some (.int p)) (some (.int e)) x5 x6
      cases q : findP hs (a / 16) with
      | none =>
        rw [q] at ih
        obtain ⟨y3, y4, ih⟩ := ih
        exact ⟨y3, y4, forL_next hg tg body ih⟩
      | some v =>
        rw [q] at ih
        obtain ⟨e1, ih⟩ := ih
        exact ⟨e1, forL_next hg tg body ih⟩
def foundR (hs : List (Int × Int)) (ws : List Int) (a : Int) (w : Bool) : Option Int := match findP hs (a / 16) with
  | some e => hitP e a w
  | none => walkP ws a w
def missD (hs : List (Int × Int)) (a : Int) : Int := if (findP hs (a / 16)).isSome then 0 else 1
def newH (hs : List (Int × Int)) (ws : List Int) (room a : Int) (w : Bool) : List (Int × Int) := match findP hs (a / 16) with
  | some _ => hs
  | none => match walkP ws a w with
    | none => hs
    | some _ => (if (hs.length : Int) = room then hs.drop 1 else hs) ++ [(a / 16, entW ws a)]
theorem found_ok (o : Ob h P W Hd room asked missed ws) (hl : ws.length = 192) {hs : List (Int × Int)} (eH : h[Hd]? = some (.lst (hs.map hD))) (nw : P ≠ W) (nP : P ≠ Hd) (nW : W ≠ Hd) (h100 : hs.length ≤ 100) (a : Int) (w : Bool) (r1 : 1 ≤ room) :
    ∃ h', f_Pages_found_at [.ref P, .int a, kS w] h = oI (foundR hs ws a w) h' ∧ Ob h' P W Hd room (asked + 1) (missed + missD hs a) ws ∧ h'[Hd]? = some (.lst ((newH hs ws room a w).map hD)) ∧ Kb P Hd h h' := by
  obtain ⟨h1, hh1⟩ : ∃ h1 : Hm, h1 = h.set P (.ins "Pages" (fl W Hd room (asked + 1) missed)) := ⟨_, rfl⟩
  have o1 : Ob h1 P W Hd room (asked + 1) missed ws := by rw [hh1]; exact o.set nw _ _
  have eH1 : h1[Hd]? = some (.lst (hs.map hD)) := by rw [hh1, List.getElem?_set_ne nP]; exact eH
  have k1 : Kb P Hd h h1 := by rw [hh1]; exact Kb.setP
  have s0 : p_Pages_found_at_0 [some (.ref P), some (.int a), some (kS w), none, none, none, none] h = .next [some (.ref P), some (.int a), some (kS w), none, none, none, none] h1 := by
    rw [hh1]
    exact fldA_run (var_run rfl) o.p (by simp [cs_asked]) lk_asked rfl (fIAdd_i) o.p (by show 6 < 1000; decide)
  have it := itL_lst eH1
  have m1 : mItA (mFld cs_held "held" (mVar 0)) [some (.ref P), some (.int a), some (kS w), none, none, none, none] h1 = .ok (hs.map hD, [(Hd, .lst (hs.map hD))]) h1 := by
    rw [run_itA, fld_run (var_run rfl) o1.p (by simp [cs_held]) lk_held, bind_ok]
    simp only [it, oR]
  have L := found_loop o1 hl (a := a) (w := w) (gdOk_one eH1) hs none none none none
  unfold foundR missD newH
  cases q : findP hs (a / 16) with
  | some e =>
    rw [q] at L
    obtain ⟨e1, L⟩ := L
    have s1 : p_Pages_found_at_1 [some (.ref P), some (.int a), some (kS w), none, none, none, none] h1 = (match hitP e a w with
      | some v => .ret (.int v) h1
      | none => .exn exNo e1 h1) := for_run (it := (hs.map hD, [(Hd, .lst (hs.map hD))])) m1 L
    simp only [Option.isSome_some, if_true, Int.add_zero]
    refine ⟨h1, ?_, o1, eH1, k1⟩
    cases q2 : hitP e a w with
    | none =>
      rw [q2] at s1
      exact call_exn (e1 := e1) f_Pages_found_at_eq rfl (seq_next s0 (seq_exn s1))
    | some v =>
      rw [q2] at s1
      exact call_ret f_Pages_found_at_eq rfl (seq_next s0 (seq_ret s1))
  | none =>
    rw [q] at L
    obtain ⟨y3, y4, L⟩ := L
    have s1 : p_Pages_found_at_1 [some (.ref P), some (.int a), some (kS w), none, none, none, none] h1 = .next [some (.ref P), some (.int a), some (kS w), y3, y4, none, none] h1 := for_run (it := (hs.map hD, [(Hd, .lst (hs.map hD))])) m1 L
    simp only [Option.isSome_none, Bool.false_eq_true, if_false]
    obtain ⟨h2, hh2⟩ : ∃ h2 : Hm, h2 = h1.set P (.ins "Pages" (fl W Hd room (asked + 1) (missed + 1))) := ⟨_, rfl⟩
    have o2 : Ob h2 P W Hd room (asked + 1) (missed + 1) ws := by rw [hh2]; exact o1.set nw _ _
    have eH2 : h2[Hd]? = some (.lst (hs.map hD)) := by rw [hh2, List.getElem?_set_ne nP]; exact eH1
    have k2 : Kb P Hd h h2 := by rw [hh2]; exact k1.trans Kb.setP
    have s2 : p_Pages_found_at_2 [some (.ref P), some (.int a), some (kS w), y3, y4, none, none] h1 = .next [some (.ref P), some (.int a), some (kS w), y3, y4, none, none] h2 := by
      rw [hh2]
      exact fldA_run (var_run rfl) o1.p (by simp [cs_missed]) lk_missed rfl (fIAdd_i) o1.p (by show 6 < 1000; decide)
    have wk : mMethF "Pages" "walk" 3 f_Pages_walk (mVar 0) (mCons (mVar 1) (mCons (mVar 2) mNil)) [some (.ref P), some (.int a), some (kS w), y3, y4, none, none] h2 = oI (walkP ws a w) h2 :=
      (meth_run (ds := [.int a, kS w]) (var_run rfl) o2.p rfl rfl rfl).trans (walk_run o2 hl a w)
    cases q2 : walkP ws a w with
    | none =>
      rw [q2] at wk
      refine ⟨h2, call_exn (e1 := [some (.ref P), some (.int a), some (kS w), y3, y4, none, none]) f_Pages_found_at_eq rfl (seq_next s0 (seq_next s1 (seq_next s2 (seq_exn ?_)))), o2, eH2, k2⟩
      show sAsg _ _ _ _ = _
      rw [run_asg, wk]
      rfl
    | some v =>
      rw [q2] at wk
      have s3 : p_Pages_found_at_3 [some (.ref P), some (.int a), some (kS w), y3, y4, none, none] h2 = .next [some (.ref P), some (.int a), some (kS w), y3, y4, some (.int v), none] h2 := asg_run wk
      unfold walkP at q2
      split at q2
      · rename_i c
        generalize hf : ws.getD (a / 256).toNat 0 = first at q2
        cases hb : frP first with
        | none => rw [hb] at q2; cases q2
        | some b =>
          obtain ⟨b0, b1⟩ := frP_range hb
          have s4 : p_Pages_found_at_4 [some (.ref P), some (.int a), some (kS w), y3, y4, some (.int v), none] h2 = .next [some (.ref P), some (.int a), some (kS w), y3, y4, some (.int v), some (.int first)] h2 := by
            refine asg_run ?_
            have k1 := fun g => mu (x := 16) (y := 16) (h := g) (by decide)
            have k2 := fun g => fd (x := a) (y := 16 * 16) (h := g) (by decide) (by decide)
            have k3 : (0 : Int) + a / (16 * 16) = a / 256 := by omega
            have k4 := ix_get o2.w (k := a / 256) (by omega) (by rw [hl]; omega)
            rw [hf] at k4
            rw [run_m2, w_run o2 rfl, bind_ok, run_m2, rt_run o2 rfl, bind_ok]
            simp only [bind_ok, bind_exn, bindS_ok, bindS_exn, then_next, then_ret, then_brk, then_cont, then_exn, only_next, only_exn, run_nil, run_ret, run_retN, run_drop, run_if, run_asg, run_brk, run_cont, run_raise, run_gN, run_C, run_var, run_m2, run_lnil, run_lcons, run_tup, run_bool, run_tru, run_and, run_or, run_not, run_andV, run_orV, run_notV, run_ifE, run_chain, run_neg, run_sl, run_no, run_some, run_call, run_callF, run_meth, run_subM, run_par, run_par3, run_aug, run_itA, run_fld, run_fldM, run_tyes, fAdd_i, fSub_i, fLt_i, fLe_i, fGt_i, fGe_i, fEq_i, fNe_i, fAbs_i, fInt_i, fInt_b, fEq_s, fNe_s, fEq_b, fMax2_i, fMin2_i, fIAdd_i, fTru_b, fTru_i, run_methF, List.getElem?_cons_succ, List.getElem?_cons_zero, List.length_cons, List.length_nil, List.set_cons_succ, List.set_cons_zero, if_true, if_false, Bool.false_eq_true, Bool.not_true, Bool.not_false, decide_true, decide_false, ite_true, ite_false, Nat.zero_add, Nat.reduceAdd, oR, k1, k2, k3, k4]
          have ew : entW ws a = entP ws b a := by
            unfold entW
            rw [hf, hb]
          have s5 : p_Pages_found_at_5 [some (.ref P), some (.int a), some (kS w), y3, y4, some (.int v), some (.int first)] h2 = .next [some (.ref P), some (.int a), some (kS w), y3, some (.int (entW ws a)), some (.int v), some (.int first)] h2 := by
            rw [ew]
            refine asg_run ?_
            have f1 := frM (env := [some (.ref P), some (.int a), some (kS w), y3, y4, some (.int v), some (.int first)]) o2 hl rfl (j := 6) (e := first) rfl
            rw [hb] at f1
            have k2 := fun g => fd (x := a) (y := 16) (h := g) (by decide) (by decide)
            have k3 := fun g => fm (x := a / 16) (y := 16) (h := g) (by decide)
            have k4 := ix_get o2.w (k := b + a / 16 % 16) (by omega) (by rw [hl]; omega)
            rw [run_m2, w_run o2 rfl, bind_ok, run_m2, f1]
            simp only [bind_ok, bind_exn, bindS_ok, bindS_exn, then_next, then_ret, then_brk, then_cont, then_exn, only_next, only_exn, run_nil, run_ret, run_retN, run_drop, run_if, run_asg, run_brk, run_cont, run_raise, run_gN, run_C, run_var, run_m2, run_lnil, run_lcons, run_tup, run_bool, run_tru, run_and, run_or, run_not, run_andV, run_orV, run_notV, run_ifE, run_chain, run_neg, run_sl, run_no, run_some, run_call, run_callF, run_meth, run_subM, run_par, run_par3, run_aug, run_itA, run_fld, run_fldM, run_tyes, fAdd_i, fSub_i, fLt_i, fLe_i, fGt_i, fGe_i, fEq_i, fNe_i, fAbs_i, fInt_i, fInt_b, fEq_s, fNe_s, fEq_b, fMax2_i, fMin2_i, fIAdd_i, fTru_b, fTru_i, run_methF, List.getElem?_cons_succ, List.getElem?_cons_zero, List.length_cons, List.length_nil, List.set_cons_succ, List.set_cons_zero, if_true, if_false, Bool.false_eq_true, Bool.not_true, Bool.not_false, decide_true, decide_false, ite_true, ite_false, Nat.zero_add, Nat.reduceAdd, oR, oI, k2, k3, k4]
            rfl
          have hel : ∀ {hx : Hm} {xs : List (Int × Int)} {env : Ev}, env[0]? = some (some (.ref P)) → Ob hx P W Hd room (asked + 1) (missed + 1) ws → mFld cs_held "held" (mVar 0) env hx = .ok (.ref Hd) hx := fun e0 ox => fld_run (var_run e0) ox.p (by simp [cs_held]) lk_held
          obtain ⟨h3, hs', hs3, s6, o3, eH3, k3, l3⟩ : ∃ (h3 : Hm) (hs' : List (Int × Int)), hs' = (if (hs.length : Int) = room then hs.drop 1 else hs) ∧ p_Pages_found_at_6 [some (.ref P), some (.int a), some (kS w), y3, some (.int (entW ws a)), some (.int v), some (.int first)] h2 = .next [some (.ref P), some (.int a), some (kS w), y3, some (.int (entW ws a)), some (.int v), some (.int first)] h3 ∧
              Ob h3 P W Hd room (asked + 1) (missed + 1) ws ∧ h3[Hd]? = some (.lst (hs'.map hD)) ∧ Kb P Hd h h3 ∧ hs'.length ≤ 100 := by
            have ln := fLen_lst eH2
            rw [List.length_map] at ln
            have ct : mBool (m2 fEq (mCall fLen (mCons (mFld cs_held "held" (mVar 0)) mNil)) (mFld cs_room "room" (mVar 0))) [some (.ref P), some (.int a), some (kS w), y3, some (.int (entW ws a)), some (.int v), some (.int first)] h2 = .ok (decide ((hs.length : Int) = room)) h2 := by
              rw [run_bool, run_m2, run_call, run_lcons, hel (xs := hs) rfl o2, bind_ok, run_lnil, bind_ok, bind_ok, ln, bind_ok, fld_run (var_run rfl) o2.p (by simp [cs_room]) lk_room, bind_ok, fEq_i, bind_ok]
            by_cases cr : (hs.length : Int) = room
            · rw [if_pos cr]
              have pos : 0 < hs.length := by omega
              obtain ⟨x, xs, rfl⟩ : ∃ x xs, hs = x :: xs := by
                cases hs with
                | nil => exact absurd pos (by simp)
                | cons x xs => exact ⟨x, xs, rfl⟩
              refine ⟨h2.set Hd (.lst (xs.map hD)), xs, rfl, ?_, o2.setH nP nW _, List.getElem?_set_self (List.getElem?_eq_some_iff.mp eH2).1, k2.trans Kb.setQ, by rw [List.length_cons] at h100; omega⟩
              have pp : fPop (.ref Hd) [.int 0] h2 = .ok (hD x) (h2.set Hd (.lst (xs.map hD))) := fPop_at (j := 0) (x := hD x) eH2 rfl (by rw [List.length_map]; omega)
              unfold p_Pages_found_at_6
              rw [run_if, ct, bindS_ok, if_pos (decide_eq_true cr)]
              show sDrop _ _ _ = _
              rw [run_drop, run_meth, hel (xs := x :: xs) rfl o2, bind_ok, if_pos (isL_ok eH2)]
              simp only [bind_ok, bind_exn, bindS_ok, bindS_exn, then_next, then_ret, then_brk, then_cont, then_exn, only_next, only_exn, run_nil, run_ret, run_retN, run_drop, run_if, run_asg, run_brk, run_cont, run_raise, run_gN, run_C, run_var, run_m2, run_lnil, run_lcons, run_tup, run_bool, run_tru, run_and, run_or, run_not, run_andV, run_orV, run_notV, run_ifE, run_chain, run_neg, run_sl, run_no, run_some, run_call, run_callF, run_meth, run_subM, run_par, run_par3, run_aug, run_itA, run_fld, run_fldM, run_tyes, fAdd_i, fSub_i, fLt_i, fLe_i, fGt_i, fGe_i, fEq_i, fNe_i, fAbs_i, fInt_i, fInt_b, fEq_s, fNe_s, fEq_b, fMax2_i, fMin2_i, fIAdd_i, fTru_b, fTru_i, run_methF, List.getElem?_cons_succ, List.getElem?_cons_zero, List.length_cons, List.length_nil, List.set_cons_succ, List.set_cons_zero, if_true, if_false, Bool.false_eq_true, Bool.not_true, Bool.not_false, decide_true, decide_false, ite_true, ite_false, Nat.zero_add, Nat.reduceAdd, oR, pp]
            · rw [if_neg cr]
              refine ⟨h2, hs, rfl, ?_, o2, eH2, k2, h100⟩
              unfold p_Pages_found_at_6
              rw [run_if, ct, bindS_ok, if_neg (by simp [cr])]
              rfl
          have s7 : p_Pages_found_at_7 [some (.ref P), some (.int a), some (kS w), y3, some (.int (entW ws a)), some (.int v), some (.int first)] h3 = .next [some (.ref P), some (.int a), some (kS w), y3, some (.int (entW ws a)), some (.int v), some (.int first)] (h3.set Hd (.lst ((hs' ++ [(a / 16, entW ws a)]).map hD))) := by
            have ap := fAppend_ok (y := hD (a / 16, entW ws a)) eH3 (lim_lt (by rw [List.length_map]; omega))
            have dv := fun g => fd (x := a) (y := 16) (h := g) (by decide) (by decide)
            unfold p_Pages_found_at_7
            rw [run_drop, run_meth, hel (xs := hs') rfl o3, bind_ok, if_pos (isL_ok eH3)]
            unfold hD at ap
            simp only [bind_ok, bind_exn, bindS_ok, bindS_exn, then_next, then_ret, then_brk, then_cont, then_exn, only_next, only_exn, run_nil, run_ret, run_retN, run_drop, run_if, run_asg, run_brk, run_cont, run_raise, run_gN, run_C, run_var, run_m2, run_lnil, run_lcons, run_tup, run_bool, run_tru, run_and, run_or, run_not, run_andV, run_orV, run_notV, run_ifE, run_chain, run_neg, run_sl, run_no, run_some, run_call, run_callF, run_meth, run_subM, run_par, run_par3, run_aug, run_itA, run_fld, run_fldM, run_tyes, fAdd_i, fSub_i, fLt_i, fLe_i, fGt_i, fGe_i, fEq_i, fNe_i, fAbs_i, fInt_i, fInt_b, fEq_s, fNe_s, fEq_b, fMax2_i, fMin2_i, fIAdd_i, fTru_b, fTru_i, run_methF, List.getElem?_cons_succ, List.getElem?_cons_zero, List.length_cons, List.length_nil, List.set_cons_succ, List.set_cons_zero, if_true, if_false, Bool.false_eq_true, Bool.not_true, Bool.not_false, decide_true, decide_false, ite_true, ite_false, Nat.zero_add, Nat.reduceAdd, oR, dv, ap]
            rw [List.map_append]
            rfl
          rw [← hs3]
          refine ⟨h3.set Hd (.lst ((hs' ++ [(a / 16, entW ws a)]).map hD)), call_ret f_Pages_found_at_eq rfl (seq_next s0 (seq_next s1 (seq_next s2 (seq_next s3 (seq_next s4 (seq_next s5 (seq_next s6 (seq_next s7 rfl)))))))), o3.setH nP nW _, List.getElem?_set_self (List.getElem?_eq_some_iff.mp eH3).1, k3.trans Kb.setQ⟩
      · cases q2
end
/-- what stood stands, but at S -/
def KL (S : List Nat) (h h' : Hm) : Prop := h.length ≤ h'.length ∧ ∀ j, j < h.length → j ∉ S → h'[j]? = h[j]?
theorem KL.refl {S : List Nat} {h : Hm} : KL S h h := ⟨Nat.le_refl _, fun _ _ _ => rfl⟩
theorem KL.trans {S : List Nat} {h h1 h2 : Hm} (a : KL S h h1) (b : KL S h1 h2) : KL S h h2 := ⟨Nat.le_trans a.1 b.1, fun j x y => (b.2 j (Nat.lt_of_lt_of_le x a.1) y).trans (a.2 j x y)⟩
theorem KL.get {S : List Nat} {j : Nat} {h h' : Hm} {o : O} (k : KL S h h') (e : h[j]? = some o) (n : j ∉ S) : h'[j]? = some o := (k.2 j (List.getElem?_eq_some_iff.mp e).1 n).trans e
theorem KL.set {S : List Nat} {n : Nat} {h : Hm} {o : O} (m : n ∈ S) : KL S h (h.set n o) := ⟨by rw [List.length_set]; exact Nat.le_refl _, fun j _ q => List.getElem?_set_ne fun z => q (by rw [← z]; exact m)⟩
theorem KL.app {S : List Nat} {h g : Hm} : KL S h (h ++ g) := ⟨by rw [List.length_append]; omega, fun j x _ => List.getElem?_append_left x⟩
theorem KL.sub {S S' : List Nat} {h h' : Hm} (k : KL S h h') (w : ∀ x ∈ S, x ∈ S') : KL S' h h' := ⟨k.1, fun j x y => k.2 j x fun z => y (w j z)⟩
theorem Kb.kl {P Q : Nat} {h h' : Hm} (k : Kb P Q h h') : KL [P, Q] h h' := ⟨Nat.le_of_eq k.1.symm, fun j _ y => k.2 j (fun z => y (by simp [z])) fun z => y (by simp [z])⟩
def entB (f : Int) (w : Bool) : Int := f * 4 + 2 * (if w then 1 else 0) + 1
theorem entry_run (f : Int) (w : Bool) (h : Hm) : f_entry_of [.int f, .bl w] h = if 0 ≤ f ∧ f < 64 then .ok (.int (entB f w)) h else .exn exOr h := by
  have k1 := fun g => mu (x := f) (y := 4) (h := g) (by decide)
  have k2 := fun g => mu1 (x := 2) (y := if w = true then 1 else 0) (h := g) (by decide)
  by_cases c : 0 ≤ f ∧ f < 64
  · rw [if_pos c]
    refine call_ret f_entry_of_eq rfl (seq_next (e1 := [some (.int f), some (.bl w)]) (h1 := h) ?_ ?_)
    · show sIf _ _ _ [some (.int f), some (.bl w)] h = _
      simp only [bind_ok, bind_exn, bindS_ok, bindS_exn, then_next, then_ret, then_brk, then_cont, then_exn, only_next, only_exn, run_nil, run_ret, run_retN, run_drop, run_if, run_asg, run_brk, run_cont, run_raise, run_gN, run_C, run_var, run_m2, run_lnil, run_lcons, run_tup, run_bool, run_tru, run_and, run_or, run_not, run_andV, run_orV, run_notV, run_ifE, run_chain, run_neg, run_sl, run_no, run_some, run_call, run_callF, run_meth, run_subM, run_par, run_par3, run_aug, run_itA, run_fld, run_fldM, run_tyes, fAdd_i, fSub_i, fLt_i, fLe_i, fGt_i, fGe_i, fEq_i, fNe_i, fAbs_i, fInt_i, fInt_b, fEq_s, fNe_s, fEq_b, fMax2_i, fMin2_i, fIAdd_i, fTru_b, fTru_i, run_methF, List.getElem?_cons_succ, List.getElem?_cons_zero, List.length_cons, List.length_nil, List.set_cons_succ, List.set_cons_zero, if_true, if_false, Bool.false_eq_true, Bool.not_true, Bool.not_false, decide_true, decide_false, ite_true, ite_false, Nat.zero_add, Nat.reduceAdd, oR, c.1, c.2]
    · simp only [bind_ok, bind_exn, bindS_ok, bindS_exn, then_next, then_ret, then_brk, then_cont, then_exn, only_next, only_exn, run_nil, run_ret, run_retN, run_drop, run_if, run_asg, run_brk, run_cont, run_raise, run_gN, run_C, run_var, run_m2, run_lnil, run_lcons, run_tup, run_bool, run_tru, run_and, run_or, run_not, run_andV, run_orV, run_notV, run_ifE, run_chain, run_neg, run_sl, run_no, run_some, run_call, run_callF, run_meth, run_subM, run_par, run_par3, run_aug, run_itA, run_fld, run_fldM, run_tyes, fAdd_i, fSub_i, fLt_i, fLe_i, fGt_i, fGe_i, fEq_i, fNe_i, fAbs_i, fInt_i, fInt_b, fEq_s, fNe_s, fEq_b, fMax2_i, fMin2_i, fIAdd_i, fTru_b, fTru_i, run_methF, List.getElem?_cons_succ, List.getElem?_cons_zero, List.length_cons, List.length_nil, List.set_cons_succ, List.set_cons_zero, if_true, if_false, Bool.false_eq_true, Bool.not_true, Bool.not_false, decide_true, decide_false, ite_true, ite_false, Nat.zero_add, Nat.reduceAdd, oR, k1, k2]
      rfl
  · rw [if_neg c]
    refine call_exn (e1 := [some (.int f), some (.bl w)]) f_entry_of_eq rfl (seq_exn ?_)
    show sIf _ _ _ [some (.int f), some (.bl w)] h = _
    by_cases c1 : 0 ≤ f
    · have c2 : ¬ f < 64 := fun z => c ⟨c1, z⟩
      simp only [bind_ok, bind_exn, bindS_ok, bindS_exn, then_next, then_ret, then_brk, then_cont, then_exn, only_next, only_exn, run_nil, run_ret, run_retN, run_drop, run_if, run_asg, run_brk, run_cont, run_raise, run_gN, run_C, run_var, run_m2, run_lnil, run_lcons, run_tup, run_bool, run_tru, run_and, run_or, run_not, run_andV, run_orV, run_notV, run_ifE, run_chain, run_neg, run_sl, run_no, run_some, run_call, run_callF, run_meth, run_subM, run_par, run_par3, run_aug, run_itA, run_fld, run_fldM, run_tyes, fAdd_i, fSub_i, fLt_i, fLe_i, fGt_i, fGe_i, fEq_i, fNe_i, fAbs_i, fInt_i, fInt_b, fEq_s, fNe_s, fEq_b, fMax2_i, fMin2_i, fIAdd_i, fTru_b, fTru_i, run_methF, List.getElem?_cons_succ, List.getElem?_cons_zero, List.length_cons, List.length_nil, List.set_cons_succ, List.set_cons_zero, if_true, if_false, Bool.false_eq_true, Bool.not_true, Bool.not_false, decide_true, decide_false, ite_true, ite_false, Nat.zero_add, Nat.reduceAdd, oR, c1, c2]
      rfl
    · simp only [bind_ok, bind_exn, bindS_ok, bindS_exn, then_next, then_ret, then_brk, then_cont, then_exn, only_next, only_exn, run_nil, run_ret, run_retN, run_drop, run_if, run_asg, run_brk, run_cont, run_raise, run_gN, run_C, run_var, run_m2, run_lnil, run_lcons, run_tup, run_bool, run_tru, run_and, run_or, run_not, run_andV, run_orV, run_notV, run_ifE, run_chain, run_neg, run_sl, run_no, run_some, run_call, run_callF, run_meth, run_subM, run_par, run_par3, run_aug, run_itA, run_fld, run_fldM, run_tyes, fAdd_i, fSub_i, fLt_i, fLe_i, fGt_i, fGe_i, fEq_i, fNe_i, fAbs_i, fInt_i, fInt_b, fEq_s, fNe_s, fEq_b, fMax2_i, fMin2_i, fIAdd_i, fTru_b, fTru_i, run_methF, List.getElem?_cons_succ, List.getElem?_cons_zero, List.length_cons, List.length_nil, List.set_cons_succ, List.set_cons_zero, if_true, if_false, Bool.false_eq_true, Bool.not_true, Bool.not_false, decide_true, decide_false, ite_true, ite_false, Nat.zero_add, Nat.reduceAdd, oR, c1]
      rfl
theorem check_run (P : Nat) (p : Int) (h : Hm) : f_Pages_check_page [.ref P, .int p] h = if 0 ≤ p ∧ p < 256 then .ok .non h else .exn exOr h := by
  have k1 := fun g => mu (x := 16) (y := 16) (h := g) (by decide)
  by_cases c : 0 ≤ p ∧ p < 256
  · rw [if_pos c]
    have c2 : p < 16 * 16 := c.2
    refine call_next (e1 := [some (.ref P), some (.int p)]) f_Pages_check_page_eq rfl ?_
    show sIf _ _ _ [some (.ref P), some (.int p)] h = _
    simp only [bind_ok, bind_exn, bindS_ok, bindS_exn, then_next, then_ret, then_brk, then_cont, then_exn, only_next, only_exn, run_nil, run_ret, run_retN, run_drop, run_if, run_asg, run_brk, run_cont, run_raise, run_gN, run_C, run_var, run_m2, run_lnil, run_lcons, run_tup, run_bool, run_tru, run_and, run_or, run_not, run_andV, run_orV, run_notV, run_ifE, run_chain, run_neg, run_sl, run_no, run_some, run_call, run_callF, run_meth, run_subM, run_par, run_par3, run_aug, run_itA, run_fld, run_fldM, run_tyes, fAdd_i, fSub_i, fLt_i, fLe_i, fGt_i, fGe_i, fEq_i, fNe_i, fAbs_i, fInt_i, fInt_b, fEq_s, fNe_s, fEq_b, fMax2_i, fMin2_i, fIAdd_i, fTru_b, fTru_i, run_methF, List.getElem?_cons_succ, List.getElem?_cons_zero, List.length_cons, List.length_nil, List.set_cons_succ, List.set_cons_zero, if_true, if_false, Bool.false_eq_true, Bool.not_true, Bool.not_false, decide_true, decide_false, ite_true, ite_false, Nat.zero_add, Nat.reduceAdd, oR, c.1, c2, k1]
  · rw [if_neg c]
    refine call_exn (e1 := [some (.ref P), some (.int p)]) f_Pages_check_page_eq rfl ?_
    show sIf _ _ _ [some (.ref P), some (.int p)] h = _
    by_cases c1 : 0 ≤ p
    · have c2 : ¬ p < 16 * 16 := fun z => c ⟨c1, z⟩
      simp only [bind_ok, bind_exn, bindS_ok, bindS_exn, then_next, then_ret, then_brk, then_cont, then_exn, only_next, only_exn, run_nil, run_ret, run_retN, run_drop, run_if, run_asg, run_brk, run_cont, run_raise, run_gN, run_C, run_var, run_m2, run_lnil, run_lcons, run_tup, run_bool, run_tru, run_and, run_or, run_not, run_andV, run_orV, run_notV, run_ifE, run_chain, run_neg, run_sl, run_no, run_some, run_call, run_callF, run_meth, run_subM, run_par, run_par3, run_aug, run_itA, run_fld, run_fldM, run_tyes, fAdd_i, fSub_i, fLt_i, fLe_i, fGt_i, fGe_i, fEq_i, fNe_i, fAbs_i, fInt_i, fInt_b, fEq_s, fNe_s, fEq_b, fMax2_i, fMin2_i, fIAdd_i, fTru_b, fTru_i, run_methF, List.getElem?_cons_succ, List.getElem?_cons_zero, List.length_cons, List.length_nil, List.set_cons_succ, List.set_cons_zero, if_true, if_false, Bool.false_eq_true, Bool.not_true, Bool.not_false, decide_true, decide_false, ite_true, ite_false, Nat.zero_add, Nat.reduceAdd, oR, c1, c2, k1]
      rfl
    · simp only [bind_ok, bind_exn, bindS_ok, bindS_exn, then_next, then_ret, then_brk, then_cont, then_exn, only_next, only_exn, run_nil, run_ret, run_retN, run_drop, run_if, run_asg, run_brk, run_cont, run_raise, run_gN, run_C, run_var, run_m2, run_lnil, run_lcons, run_tup, run_bool, run_tru, run_and, run_or, run_not, run_andV, run_orV, run_notV, run_ifE, run_chain, run_neg, run_sl, run_no, run_some, run_call, run_callF, run_meth, run_subM, run_par, run_par3, run_aug, run_itA, run_fld, run_fldM, run_tyes, fAdd_i, fSub_i, fLt_i, fLe_i, fGt_i, fGe_i, fEq_i, fNe_i, fAbs_i, fInt_i, fInt_b, fEq_s, fNe_s, fEq_b, fMax2_i, fMin2_i, fIAdd_i, fTru_b, fTru_i, run_methF, List.getElem?_cons_succ, List.getElem?_cons_zero, List.length_cons, List.length_nil, List.set_cons_succ, List.set_cons_zero, if_true, if_false, Bool.false_eq_true, Bool.not_true, Bool.not_false, decide_true, decide_false, ite_true, ite_false, Nat.zero_add, Nat.reduceAdd, oR, c1, k1]
      rfl
section
variable {h : Hm} {P W Hd : Nat} {room asked missed : Int} {ws : List Int}
theorem held_run (o : Ob h P W Hd room asked missed ws) {env : Ev} (e : env[0]? = some (some (.ref P))) : mFld cs_held "held" (mVar 0) env h = .ok (.ref Hd) h := fld_run (var_run e) o.p (by simp [cs_held]) lk_held
/-- a fresh list of held ones -/
theorem forget_set {x : O} (o : Ob h P W Hd room asked missed ws) (nw : P ≠ W) : Ob ((h ++ [x]).set P (.ins "Pages" (fl W h.length room asked missed))) P W h.length room asked missed ws ∧ ((h ++ [x]).set P (.ins "Pages" (fl W h.length room asked missed)))[h.length]? = some x ∧ KL [P] h ((h ++ [x]).set P (.ins "Pages" (fl W h.length room asked missed))) := by
  have lp := (List.getElem?_eq_some_iff.mp o.p).1
  refine ⟨⟨List.getElem?_set_self (by rw [List.length_append]; omega), by rw [List.getElem?_set_ne nw]; exact keep_app o.w⟩, by rw [List.getElem?_set_ne (by omega)]; exact get_new, KL.app.trans (KL.set (by simp))⟩
theorem forget_run (o : Ob h P W Hd room asked missed ws) {hs : List (Int × Int)} (eH : h[Hd]? = some (.lst (hs.map hD))) (h100 : hs.length ≤ 100) (x : Int) :
    f_Pages_forget [.ref P, .int x] h = .ok .non ((h ++ [O.lst ((hs.filter fun p => !decide (p.1 = x / 16)).map hD)]).set P (.ins "Pages" (fl W h.length room asked missed))) := by
  have it := itL_lst eH
  have dv := fun g => fd (x := x) (y := 16) (h := g) (by decide) (by decide)
  have m1 : mItA (mFld cs_held "held" (mVar 0)) [some (.ref P), some (.int x), none] h = .ok (hs.map hD, [(Hd, .lst (hs.map hD))]) h := by
    rw [run_itA, held_run o rfl, bind_ok]
    simp only [it, oR]
  have R := lcL_pure (gs := [(Hd, .lst (hs.map hD))]) (g := gN 2) (t := mBool (m2 fNe (m2 fIx (mVar 2) (mC (.int 0))) (m2 fDiv (mVar 1) (mC (.int 16))))) (e := mVar 2) (env := [some (.ref P), some (.int x), none]) (h := h) (gdOk_one eH) hD (fun p => if p.1 = x / 16 then none else some (hD p)) hs fun p _ => by
    have ix : fIx (hD p) (.int 0) h = .ok (.int p.1) h := rfl
    by_cases c : p.1 = x / 16
    · unfold lcTurn
      simp only [bind_ok, bind_exn, bindS_ok, bindS_exn, then_next, then_ret, then_brk, then_cont, then_exn, only_next, only_exn, run_nil, run_ret, run_retN, run_drop, run_if, run_asg, run_brk, run_cont, run_raise, run_gN, run_C, run_var, run_m2, run_lnil, run_lcons, run_tup, run_bool, run_tru, run_and, run_or, run_not, run_andV, run_orV, run_notV, run_ifE, run_chain, run_neg, run_sl, run_no, run_some, run_call, run_callF, run_meth, run_subM, run_par, run_par3, run_aug, run_itA, run_fld, run_fldM, run_tyes, fAdd_i, fSub_i, fLt_i, fLe_i, fGt_i, fGe_i, fEq_i, fNe_i, fAbs_i, fInt_i, fInt_b, fEq_s, fNe_s, fEq_b, fMax2_i, fMin2_i, fIAdd_i, fTru_b, fTru_i, run_methF, List.getElem?_cons_succ, List.getElem?_cons_zero, List.length_cons, List.length_nil, List.set_cons_succ, List.set_cons_zero, if_true, if_false, Bool.false_eq_true, Bool.not_true, Bool.not_false, decide_true, decide_false, ite_true, ite_false, Nat.zero_add, Nat.reduceAdd, oR, ix, dv, c]
    · unfold lcTurn
      simp only [bind_ok, bind_exn, bindS_ok, bindS_exn, then_next, then_ret, then_brk, then_cont, then_exn, only_next, only_exn, run_nil, run_ret, run_retN, run_drop, run_if, run_asg, run_brk, run_cont, run_raise, run_gN, run_C, run_var, run_m2, run_lnil, run_lcons, run_tup, run_bool, run_tru, run_and, run_or, run_not, run_andV, run_orV, run_notV, run_ifE, run_chain, run_neg, run_sl, run_no, run_some, run_call, run_callF, run_meth, run_subM, run_par, run_par3, run_aug, run_itA, run_fld, run_fldM, run_tyes, fAdd_i, fSub_i, fLt_i, fLe_i, fGt_i, fGe_i, fEq_i, fNe_i, fAbs_i, fInt_i, fInt_b, fEq_s, fNe_s, fEq_b, fMax2_i, fMin2_i, fIAdd_i, fTru_b, fTru_i, run_methF, List.getElem?_cons_succ, List.getElem?_cons_zero, List.length_cons, List.length_nil, List.set_cons_succ, List.set_cons_zero, if_true, if_false, Bool.false_eq_true, Bool.not_true, Bool.not_false, decide_true, decide_false, ite_true, ite_false, Nat.zero_add, Nat.reduceAdd, oR, ix, dv, c]
  have fe : hs.filterMap (fun p => if p.1 = x / 16 then none else some (hD p)) = (hs.filter fun p => !decide (p.1 = x / 16)).map hD := by
    rw [← List.filterMap_eq_filter, List.map_filterMap]
    congr 1
    funext p
    by_cases c : p.1 = x / 16 <;> simp [c, Option.guard]
  rw [fe] at R
  have lc := lc_run (vs := [2]) (env := [some (.ref P), some (.int x), none]) (ds := hs.map hD) (gs := [(Hd, .lst (hs.map hD))]) m1 (by rw [List.length_map]; omega) R
  refine call_next (e1 := [some (.ref P), some (.int x), none]) f_Pages_forget_eq rfl ?_
  refine fldM_run (y := .ref h.length) (h1 := h ++ [O.lst ((hs.filter fun p => !decide (p.1 = x / 16)).map hD)]) ?_ (var_run rfl) (keep_app o.p) (by simp [cs_held]) (by show 6 < 1000; decide)
  rw [run_ifE, run_bool, run_m2, var_run (d := .int x) rfl, bind_ok, run_C, bind_ok, fIs_n, bind_ok, bind_ok, if_neg (by simp)]
  exact lc
theorem forget_all (o : Ob h P W Hd room asked missed ws) : f_Pages_forget [.ref P, .non] h = .ok .non ((h ++ [O.lst []]).set P (.ins "Pages" (fl W h.length room asked missed))) := by
  refine call_next (e1 := [some (.ref P), some .non, none]) f_Pages_forget_eq rfl ?_
  exact fldM_run (y := .ref h.length) (h1 := h ++ [O.lst []]) rfl (var_run rfl) (keep_app o.p) (by simp [cs_held]) (by show 6 < 1000; decide)
theorem set_w {k : Nat} {ki : Int} {v : Int} (hki : ki = (k : Int)) (hk : k < ws.length) (o : Ob h P W Hd room asked missed ws) (nw : P ≠ W) : fSet (.ref W) (.int ki) (.int v) h = some (h.set W (.lst ((ws.set k v).map D.int))) ∧ Ob (h.set W (.lst ((ws.set k v).map D.int))) P W Hd room asked missed (ws.set k v) := by
  refine ⟨?_, ?_, ?_⟩
  · rw [hki, fSet_lst o.w (by rw [List.length_map]; exact hk), List.map_set]
  · rw [List.getElem?_set_ne (Ne.symm nw)]; exact o.p
  · exact List.getElem?_set_self (List.getElem?_eq_some_iff.mp o.w).1
/-- a page laid, or taken -/
theorem lay_ok (o : Ob h P W Hd room asked missed ws) (hl : ws.length = 192) (w0 : ws.getD 0 0 = 7) {hs : List (Int × Int)} (eH : h[Hd]? = some (.lst (hs.map hD))) (nw : P ≠ W) (nW : W ≠ Hd) (h100 : hs.length ≤ 100) (p : Nat) (pi : Int) (hpi : pi = (p : Int)) (hp : p < 16) (f : Int) (f0 : 0 ≤ f) (f1 : f < 64) (w : Bool) :
    ∃ h', f_Pages_lay [.ref P, .int pi, .int f, .bl w] h = .ok .non h' ∧ Ob h' P W h.length room asked missed (ws.set (16 + p) (entB f w)) ∧ h'[h.length]? = some (.lst ((hs.filter fun q => !decide (q.1 = (p : Int))).map hD)) ∧ KL [P, W] h h' := by
  obtain ⟨pl, hpl⟩ : ∃ pl : Int, pl = ((16 + p : Nat) : Int) := ⟨_, rfl⟩
  obtain ⟨sw, o1⟩ := set_w (k := 16 + p) (hki := hpl) (v := entB f w) (by omega) o nw
  obtain ⟨h1, hh1⟩ : ∃ h1 : Hm, h1 = h.set W (.lst ((ws.set (16 + p) (entB f w)).map D.int)) := ⟨_, rfl⟩
  rw [← hh1] at sw o1
  have eH1 : h1[Hd]? = some (.lst (hs.map hD)) := by rw [hh1, List.getElem?_set_ne nW]; exact eH
  have l1 : h1.length = h.length := by rw [hh1, List.length_set]
  have k1 : KL [P, W] h h1 := by rw [hh1]; exact KL.set (by simp)
  have fg := forget_run o1 eH1 h100 (pi * 16)
  obtain ⟨o2, e2, k2⟩ := forget_set (x := .lst ((hs.filter fun q => !decide (q.1 = pi * 16 / 16)).map hD)) o1 nw
  rw [l1] at fg o2 e2 k2
  rw [show pi * 16 / 16 = (p : Int) by omega] at fg o2 e2 k2
  refine ⟨_, ?_, o2, e2, k1.trans (k2.sub (by simp))⟩
  have d1 := fun g => fd (x := pi) (y := 16) (h := g) (by decide) (by decide)
  have m1 := fun g => fm (x := pi) (y := 16) (h := g) (by decide)
  have p0 : pi / 16 = 0 := by omega
  have pm : pi % 16 = pi := by omega
  have pa : (16 : Int) + pi = pl := by omega
  rw [p0] at d1
  rw [pm] at m1
  have w0' : fIx (.ref W) (.int 0) h = .ok (.int 7) h := by
    have := ix_get o.w (k := 0) (by omega) (by omega)
    rw [show (0 : Int).toNat = 0 from rfl, w0] at this
    exact this
  refine call_next (e1 := [some (.ref P), some (.int pi), some (.int f), some (.bl w), some (.int 7), some (.int pl)]) f_Pages_lay_eq rfl
    (seq_next (e1 := [some (.ref P), some (.int pi), some (.int f), some (.bl w), none, none]) (h1 := h) ?_ (seq_next (e1 := [some (.ref P), some (.int pi), some (.int f), some (.bl w), some (.int 7), none]) (h1 := h) ?_ (seq_next (e1 := [some (.ref P), some (.int pi), some (.int f), some (.bl w), some (.int 7), some (.int pl)]) (h1 := h) ?_ (seq_next (e1 := [some (.ref P), some (.int pi), some (.int f), some (.bl w), some (.int 7), some (.int pl)]) (h1 := h1) ?_ ?_))))
  · have ck := check_run P pi h
    rw [if_pos ⟨by omega, by omega⟩] at ck
    have mm : mMethF "Pages" "check_page" 2 f_Pages_check_page (mVar 0) (mCons (mVar 1) mNil) [some (.ref P), some (.int pi), some (.int f), some (.bl w), none, none] h = .ok .non h := (meth_run (ds := [.int pi]) (var_run rfl) o.p rfl rfl rfl).trans ck
    show sDrop _ [some (.ref P), some (.int pi), some (.int f), some (.bl w), none, none] h = _
    rw [run_drop, mm]
    rfl
  · refine asg_run ?_
    rw [run_m2, w_run o rfl, bind_ok, run_m2, rt_run o rfl, bind_ok]
    simp only [bind_ok, bind_exn, bindS_ok, bindS_exn, then_next, then_ret, then_brk, then_cont, then_exn, only_next, only_exn, run_nil, run_ret, run_retN, run_drop, run_if, run_asg, run_brk, run_cont, run_raise, run_gN, run_C, run_var, run_m2, run_lnil, run_lcons, run_tup, run_bool, run_tru, run_and, run_or, run_not, run_andV, run_orV, run_notV, run_ifE, run_chain, run_neg, run_sl, run_no, run_some, run_call, run_callF, run_meth, run_subM, run_par, run_par3, run_aug, run_itA, run_fld, run_fldM, run_tyes, fAdd_i, fSub_i, fLt_i, fLe_i, fGt_i, fGe_i, fEq_i, fNe_i, fAbs_i, fInt_i, fInt_b, fEq_s, fNe_s, fEq_b, fMax2_i, fMin2_i, fIAdd_i, fTru_b, fTru_i, run_methF, List.getElem?_cons_succ, List.getElem?_cons_zero, List.length_cons, List.length_nil, List.set_cons_succ, List.set_cons_zero, if_true, if_false, Bool.false_eq_true, Bool.not_true, Bool.not_false, decide_true, decide_false, ite_true, ite_false, Nat.zero_add, Nat.reduceAdd, oR, d1, Int.add_zero, w0']
  · refine asg_run ?_
    have f1 := frM (env := [some (.ref P), some (.int pi), some (.int f), some (.bl w), some (.int 7), none]) o hl rfl (j := 4) (e := 7) rfl
    rw [show frP 7 = some 16 from by decide] at f1
    rw [run_m2, f1]
    simp only [bind_ok, bind_exn, bindS_ok, bindS_exn, then_next, then_ret, then_brk, then_cont, then_exn, only_next, only_exn, run_nil, run_ret, run_retN, run_drop, run_if, run_asg, run_brk, run_cont, run_raise, run_gN, run_C, run_var, run_m2, run_lnil, run_lcons, run_tup, run_bool, run_tru, run_and, run_or, run_not, run_andV, run_orV, run_notV, run_ifE, run_chain, run_neg, run_sl, run_no, run_some, run_call, run_callF, run_meth, run_subM, run_par, run_par3, run_aug, run_itA, run_fld, run_fldM, run_tyes, fAdd_i, fSub_i, fLt_i, fLe_i, fGt_i, fGe_i, fEq_i, fNe_i, fAbs_i, fInt_i, fInt_b, fEq_s, fNe_s, fEq_b, fMax2_i, fMin2_i, fIAdd_i, fTru_b, fTru_i, run_methF, List.getElem?_cons_succ, List.getElem?_cons_zero, List.length_cons, List.length_nil, List.set_cons_succ, List.set_cons_zero, if_true, if_false, Bool.false_eq_true, Bool.not_true, Bool.not_false, decide_true, decide_false, ite_true, ite_false, Nat.zero_add, Nat.reduceAdd, oR, oI, m1, pa]
  · have er := entry_run f w h
    rw [if_pos ⟨f0, f1⟩] at er
    have e5 : ([some (.ref P), some (.int pi), some (.int f), some (.bl w), some (.int 7), some (.int pl)] : Ev)[5]? = some (some (.int pl)) := rfl
    rw [run_asg, run_callF, run_lcons, var_run (d := .int f) rfl, bind_ok, run_lcons, var_run (d := .bl w) rfl, bind_ok, run_lnil, bind_ok, bind_ok, bind_ok, if_pos (show [D.int f, D.bl w].length = 2 from rfl), er, bindS_ok, run_subM, w_run o rfl, bindS_ok, var_run e5, bindS_ok]
    simp only [sw, only_next]
  · have mm : mMethF "Pages" "forget" 2 f_Pages_forget (mVar 0) (mCons (m2 fMul (mVar 1) (mC (.int 16))) mNil) [some (.ref P), some (.int pi), some (.int f), some (.bl w), some (.int 7), some (.int pl)] h1 = .ok .non _ := (meth_run (ds := [.int (pi * 16)]) (var_run rfl) o1.p rfl (by
      have := fun g => mu (x := pi) (y := 16) (h := g) (by decide)
      simp only [bind_ok, bind_exn, bindS_ok, bindS_exn, then_next, then_ret, then_brk, then_cont, then_exn, only_next, only_exn, run_nil, run_ret, run_retN, run_drop, run_if, run_asg, run_brk, run_cont, run_raise, run_gN, run_C, run_var, run_m2, run_lnil, run_lcons, run_tup, run_bool, run_tru, run_and, run_or, run_not, run_andV, run_orV, run_notV, run_ifE, run_chain, run_neg, run_sl, run_no, run_some, run_call, run_callF, run_meth, run_subM, run_par, run_par3, run_aug, run_itA, run_fld, run_fldM, run_tyes, fAdd_i, fSub_i, fLt_i, fLe_i, fGt_i, fGe_i, fEq_i, fNe_i, fAbs_i, fInt_i, fInt_b, fEq_s, fNe_s, fEq_b, fMax2_i, fMin2_i, fIAdd_i, fTru_b, fTru_i, run_methF, List.getElem?_cons_succ, List.getElem?_cons_zero, List.length_cons, List.length_nil, List.set_cons_succ, List.set_cons_zero, if_true, if_false, Bool.false_eq_true, Bool.not_true, Bool.not_false, decide_true, decide_false, ite_true, ite_false, Nat.zero_add, Nat.reduceAdd, oR, this]) rfl).trans fg
    show sDrop _ _ h1 = _
    rw [run_drop, mm]
    rfl
theorem take_ok (o : Ob h P W Hd room asked missed ws) (hl : ws.length = 192) (w0 : ws.getD 0 0 = 7) {hs : List (Int × Int)} (eH : h[Hd]? = some (.lst (hs.map hD))) (nw : P ≠ W) (nW : W ≠ Hd) (h100 : hs.length ≤ 100) (p : Nat) (pi : Int) (hpi : pi = (p : Int)) (hp : p < 16) :
    ∃ h', f_Pages_take [.ref P, .int pi] h = .ok .non h' ∧ Ob h' P W h.length room asked missed (ws.set (16 + p) 0) ∧ h'[h.length]? = some (.lst ((hs.filter fun q => !decide (q.1 = (p : Int))).map hD)) ∧ KL [P, W] h h' := by
  obtain ⟨pl, hpl⟩ : ∃ pl : Int, pl = ((16 + p : Nat) : Int) := ⟨_, rfl⟩
  obtain ⟨sw, o1⟩ := set_w (k := 16 + p) (hki := hpl) (v := 0) (by omega) o nw
  obtain ⟨h1, hh1⟩ : ∃ h1 : Hm, h1 = h.set W (.lst ((ws.set (16 + p) 0).map D.int)) := ⟨_, rfl⟩
  rw [← hh1] at sw o1
  have eH1 : h1[Hd]? = some (.lst (hs.map hD)) := by rw [hh1, List.getElem?_set_ne nW]; exact eH
  have l1 : h1.length = h.length := by rw [hh1, List.length_set]
  have k1 : KL [P, W] h h1 := by rw [hh1]; exact KL.set (by simp)
  have fg := forget_run o1 eH1 h100 (pi * 16)
  obtain ⟨o2, e2, k2⟩ := forget_set (x := .lst ((hs.filter fun q => !decide (q.1 = pi * 16 / 16)).map hD)) o1 nw
  rw [l1] at fg o2 e2 k2
  rw [show pi * 16 / 16 = (p : Int) by omega] at fg o2 e2 k2
  refine ⟨_, ?_, o2, e2, k1.trans (k2.sub (by simp))⟩
  have d1 := fun g => fd (x := pi) (y := 16) (h := g) (by decide) (by decide)
  have m1 := fun g => fm (x := pi) (y := 16) (h := g) (by decide)
  have p0 : pi / 16 = 0 := by omega
  have pm : pi % 16 = pi := by omega
  have pa : (16 : Int) + pi = pl := by omega
  rw [p0] at d1
  rw [pm] at m1
  have w0' : fIx (.ref W) (.int 0) h = .ok (.int 7) h := by
    have := ix_get o.w (k := 0) (by omega) (by omega)
    rw [show (0 : Int).toNat = 0 from rfl, w0] at this
    exact this
  refine call_next (e1 := [some (.ref P), some (.int pi), some (.int 7), some (.int pl)]) f_Pages_take_eq rfl
    (seq_next (e1 := [some (.ref P), some (.int pi), none, none]) (h1 := h) ?_ (seq_next (e1 := [some (.ref P), some (.int pi), some (.int 7), none]) (h1 := h) ?_ (seq_next (e1 := [some (.ref P), some (.int pi), some (.int 7), some (.int pl)]) (h1 := h) ?_ (seq_next (e1 := [some (.ref P), some (.int pi), some (.int 7), some (.int pl)]) (h1 := h1) ?_ ?_))))
  · have ck := check_run P pi h
    rw [if_pos ⟨by omega, by omega⟩] at ck
    have mm : mMethF "Pages" "check_page" 2 f_Pages_check_page (mVar 0) (mCons (mVar 1) mNil) [some (.ref P), some (.int pi), none, none] h = .ok .non h := (meth_run (ds := [.int pi]) (var_run rfl) o.p rfl rfl rfl).trans ck
    show sDrop _ [some (.ref P), some (.int pi), none, none] h = _
    rw [run_drop, mm]
    rfl
  · refine asg_run ?_
    rw [run_m2, w_run o rfl, bind_ok, run_m2, rt_run o rfl, bind_ok]
    simp only [bind_ok, bind_exn, bindS_ok, bindS_exn, then_next, then_ret, then_brk, then_cont, then_exn, only_next, only_exn, run_nil, run_ret, run_retN, run_drop, run_if, run_asg, run_brk, run_cont, run_raise, run_gN, run_C, run_var, run_m2, run_lnil, run_lcons, run_tup, run_bool, run_tru, run_and, run_or, run_not, run_andV, run_orV, run_notV, run_ifE, run_chain, run_neg, run_sl, run_no, run_some, run_call, run_callF, run_meth, run_subM, run_par, run_par3, run_aug, run_itA, run_fld, run_fldM, run_tyes, fAdd_i, fSub_i, fLt_i, fLe_i, fGt_i, fGe_i, fEq_i, fNe_i, fAbs_i, fInt_i, fInt_b, fEq_s, fNe_s, fEq_b, fMax2_i, fMin2_i, fIAdd_i, fTru_b, fTru_i, run_methF, List.getElem?_cons_succ, List.getElem?_cons_zero, List.length_cons, List.length_nil, List.set_cons_succ, List.set_cons_zero, if_true, if_false, Bool.false_eq_true, Bool.not_true, Bool.not_false, decide_true, decide_false, ite_true, ite_false, Nat.zero_add, Nat.reduceAdd, oR, d1, Int.add_zero, w0']
  · refine asg_run ?_
    have f1 := frM (env := [some (.ref P), some (.int pi), some (.int 7), none]) o hl rfl (j := 2) (e := 7) rfl
    rw [show frP 7 = some 16 from by decide] at f1
    rw [run_m2, f1]
    simp only [bind_ok, bind_exn, bindS_ok, bindS_exn, then_next, then_ret, then_brk, then_cont, then_exn, only_next, only_exn, run_nil, run_ret, run_retN, run_drop, run_if, run_asg, run_brk, run_cont, run_raise, run_gN, run_C, run_var, run_m2, run_lnil, run_lcons, run_tup, run_bool, run_tru, run_and, run_or, run_not, run_andV, run_orV, run_notV, run_ifE, run_chain, run_neg, run_sl, run_no, run_some, run_call, run_callF, run_meth, run_subM, run_par, run_par3, run_aug, run_itA, run_fld, run_fldM, run_tyes, fAdd_i, fSub_i, fLt_i, fLe_i, fGt_i, fGe_i, fEq_i, fNe_i, fAbs_i, fInt_i, fInt_b, fEq_s, fNe_s, fEq_b, fMax2_i, fMin2_i, fIAdd_i, fTru_b, fTru_i, run_methF, List.getElem?_cons_succ, List.getElem?_cons_zero, List.length_cons, List.length_nil, List.set_cons_succ, List.set_cons_zero, if_true, if_false, Bool.false_eq_true, Bool.not_true, Bool.not_false, decide_true, decide_false, ite_true, ite_false, Nat.zero_add, Nat.reduceAdd, oR, oI, m1, pa]
  · have e5 : ([some (.ref P), some (.int pi), some (.int 7), some (.int pl)] : Ev)[3]? = some (some (.int pl)) := rfl
    rw [run_asg, run_C, bindS_ok, run_subM, w_run o rfl, bindS_ok, var_run e5, bindS_ok]
    simp only [sw, only_next]
  · have mm : mMethF "Pages" "forget" 2 f_Pages_forget (mVar 0) (mCons (m2 fMul (mVar 1) (mC (.int 16))) mNil) [some (.ref P), some (.int pi), some (.int 7), some (.int pl)] h1 = .ok .non _ := (meth_run (ds := [.int (pi * 16)]) (var_run rfl) o1.p rfl (by
      have := fun g => mu (x := pi) (y := 16) (h := g) (by decide)
      simp only [bind_ok, bind_exn, bindS_ok, bindS_exn, then_next, then_ret, then_brk, then_cont, then_exn, only_next, only_exn, run_nil, run_ret, run_retN, run_drop, run_if, run_asg, run_brk, run_cont, run_raise, run_gN, run_C, run_var, run_m2, run_lnil, run_lcons, run_tup, run_bool, run_tru, run_and, run_or, run_not, run_andV, run_orV, run_notV, run_ifE, run_chain, run_neg, run_sl, run_no, run_some, run_call, run_callF, run_meth, run_subM, run_par, run_par3, run_aug, run_itA, run_fld, run_fldM, run_tyes, fAdd_i, fSub_i, fLt_i, fLe_i, fGt_i, fGe_i, fEq_i, fNe_i, fAbs_i, fInt_i, fInt_b, fEq_s, fNe_s, fEq_b, fMax2_i, fMin2_i, fIAdd_i, fTru_b, fTru_i, run_methF, List.getElem?_cons_succ, List.getElem?_cons_zero, List.length_cons, List.length_nil, List.set_cons_succ, List.set_cons_zero, if_true, if_false, Bool.false_eq_true, Bool.not_true, Bool.not_false, decide_true, decide_false, ite_true, ite_false, Nat.zero_add, Nat.reduceAdd, oR, this]) rfl).trans fg
    show sDrop _ _ h1 = _
    rw [run_drop, mm]
    rfl
end
abbrev Tb := List (Int × (Int × Bool))
def lookT (tb : Tb) (p : Int) : Option (Int × Bool) := (tb.find? fun q => decide (q.1 = p)).map (·.2)
def entO : Option (Int × Bool) → Int
  | none => 0
  | some (f, w) => entB f w
/-- pages below five, frames from 2 to 11, each page once -/
structure TbOk (tb : Tb) : Prop where
  key : ∀ q ∈ tb, 0 ≤ q.1 ∧ q.1 < 5
  frm : ∀ q ∈ tb, 2 ≤ q.2.1 ∧ q.2.1 ≤ 11
  nd : (tb.map (·.1)).Nodup
structure WF (ws : List Int) (tb : Tb) : Prop where
  len : ws.length = 192
  dir : ws.getD 0 0 = 7
  nul : ∀ k, 1 ≤ k → k < 16 → ws.getD k 0 = 0
  ent : ∀ p : Nat, p < 16 → ws.getD (16 + p) 0 = entO (lookT tb p)
theorem lookT_mem {tb : Tb} {p : Int} {x : Int × Bool} (e : lookT tb p = some x) : (p, x) ∈ tb := by
  unfold lookT at e
  cases q : tb.find? fun q => decide (q.1 = p) with
  | none => rw [q] at e; cases e
  | some y =>
    rw [q] at e
    have h1 := List.find?_some q
    have h2 := List.mem_of_find?_eq_some q
    have h1 : y.1 = p := of_decide_eq_true h1
    have e' : y.2 = x := Option.some.inj e
    rw [← h1, ← e']
    exact h2
theorem lookT_far {tb : Tb} (ok : TbOk tb) {p : Int} (h : p < 0 ∨ 5 ≤ p) : lookT tb p = none := by
  cases e : lookT tb p with
  | none => rfl
  | some x =>
    have := ok.key _ (lookT_mem e)
    simp only at this
    omega
theorem lookT_frm {tb : Tb} (ok : TbOk tb) {p : Int} {x : Int × Bool} (e : lookT tb p = some x) : 2 ≤ x.1 ∧ x.1 ≤ 11 := ok.frm _ (lookT_mem e)
def resT (tb : Tb) (a : Int) (w : Bool) : Option Int := match lookT tb (a / 16) with
  | none => none
  | some (f, wr) => if (w && !wr) = true then none else some (f * 16 + a % 16)
theorem hit_ent {tb : Tb} (ok : TbOk tb) (a : Int) (w : Bool) : hitP (entO (lookT tb (a / 16))) a w = resT tb a w := by
  unfold hitP resT
  cases e : lookT tb (a / 16) with
  | none =>
    show (if lookP 0 w = true then _ else none) = none
    rw [if_neg (by simp [lookP])]
  | some x =>
    obtain ⟨f, wr⟩ := x
    have hf := lookT_frm ok e
    simp only at hf
    have f1 : entB f wr % 2 = 1 := by unfold entB; cases wr <;> simp <;> omega
    have f2 : entB f wr / 2 % 2 = if wr then 1 else 0 := by unfold entB; cases wr <;> simp <;> omega
    have f3 : entB f wr / 4 % 64 = f := by unfold entB; cases wr <;> simp <;> omega
    have f4 : frP (entB f wr) = some (f * 16) := by
      unfold frP
      rw [f1, f3, if_neg (by decide), if_neg (by omega)]
    show (if lookP (entB f wr) w = true then (frP (entB f wr)).map (· + a % 16) else none) = _
    rw [f4]
    have f5 : lookP (entB f wr) w = !(w && !wr) := by
      unfold lookP
      rw [f1, f2]
      cases w <;> cases wr <;> decide
    rw [f5]
    cases w <;> cases wr <;> simp
section
variable {ws : List Int} {tb : Tb}
theorem ent_at (wf : WF ws tb) {a : Int} (h0 : 0 ≤ a) (h1 : a < 256) : entP ws 16 a = entO (lookT tb (a / 16)) := by
  unfold entP
  have h := wf.ent (a / 16).toNat (by omega)
  rw [show ((a / 16).toNat : Int) = a / 16 by omega] at h
  rw [show (16 + a / 16 % 16).toNat = 16 + (a / 16).toNat by omega]
  exact h
theorem first_at (wf : WF ws tb) {a : Int} (h0 : 0 ≤ a) (h1 : a < 256) : frP (ws.getD (a / 256).toNat 0) = some 16 := by
  rw [show (a / 256).toNat = 0 by omega, wf.dir]
  decide
theorem walk_near (wf : WF ws tb) (ok : TbOk tb) {a : Int} (h0 : 0 ≤ a) (h1 : a < 256) (w : Bool) : walkP ws a w = resT tb a w := by
  unfold walkP
  rw [if_pos ⟨h0, by omega⟩, first_at wf h0 h1]
  simp only
  rw [ent_at wf h0 h1]
  exact hit_ent ok a w
theorem walk_far (wf : WF ws tb) {a : Int} (h1 : 256 ≤ a) (w : Bool) : walkP ws a w = none := by
  unfold walkP
  by_cases c : 0 ≤ a ∧ a < 4096
  · rw [if_pos c, wf.nul (a / 256).toNat (by omega) (by omega)]
    rfl
  · rw [if_neg c]
theorem entW_near (wf : WF ws tb) {a : Int} (h0 : 0 ≤ a) (h1 : a < 256) : entW ws a = entO (lookT tb (a / 16)) := by
  unfold entW
  rw [first_at wf h0 h1]
  exact ent_at wf h0 h1
end
/-- the held ones by their pages -/
def heldOf (tb : Tb) (hp : List Int) : List (Int × Int) := hp.map fun p => (p, entO (lookT tb p))
theorem find_held (tb : Tb) (pg : Int) : ∀ hp : List Int, findP (heldOf tb hp) pg = if pg ∈ hp then some (entO (lookT tb pg)) else none
  | [] => by simp [findP, heldOf]
  | p :: hp => by
    have ih := find_held tb pg hp
    unfold findP heldOf at ih ⊢
    rw [List.map_cons]
    by_cases c : p = pg
    · subst c
      simp
    · have c' : ¬ pg = p := fun z => c z.symm
      rw [List.find?_cons_of_neg (by simpa using c), ih]
      simp [c']
theorem found_res {ws : List Int} {tb : Tb} (wf : WF ws tb) (ok : TbOk tb) {a : Int} (h0 : 0 ≤ a) (h1 : a < 256) (hp : List Int) (w : Bool) : foundR (heldOf tb hp) ws a w = resT tb a w := by
  unfold foundR
  rw [find_held]
  by_cases c : a / 16 ∈ hp
  · rw [if_pos c]
    exact hit_ent ok a w
  · rw [if_neg c]
    exact walk_near wf ok h0 h1 w
theorem miss_res (tb : Tb) (hp : List Int) (a : Int) : missD (heldOf tb hp) a = if a / 16 ∈ hp then 0 else 1 := by
  unfold missD
  rw [find_held]
  by_cases c : a / 16 ∈ hp <;> simp [c]
/-- the pages held behind a look -/
def heldN (tb : Tb) (room a : Int) (w : Bool) (hp : List Int) : List Int :=
  if a / 16 ∈ hp ∨ resT tb a w = none then hp else (if (hp.length : Int) = room then hp.drop 1 else hp) ++ [a / 16]
theorem newH_res {ws : List Int} {tb : Tb} (wf : WF ws tb) (ok : TbOk tb) {a : Int} (h0 : 0 ≤ a) (h1 : a < 256) (room : Int) (hp : List Int) (w : Bool) : newH (heldOf tb hp) ws room a w = heldOf tb (heldN tb room a w hp) := by
  unfold newH heldN
  rw [find_held]
  by_cases c : a / 16 ∈ hp
  · rw [if_pos c, if_pos (show a / 16 ∈ hp ∨ resT tb a w = none from .inl c)]
  · rw [if_neg c]
    simp only
    rw [walk_near wf ok h0 h1 w]
    cases e : resT tb a w with
    | none => rw [if_pos (show a / 16 ∈ hp ∨ (none : Option Int) = none from .inr rfl)]
    | some v =>
      rw [if_neg (show ¬ (a / 16 ∈ hp ∨ some v = none) from fun z => z.elim c (fun z => by cases z))]
      simp only
      rw [entW_near wf h0 h1]
      unfold heldOf
      rw [List.length_map, List.map_append]
      by_cases d : (hp.length : Int) = room
      · rw [if_pos d, if_pos d, List.map_drop]
        rfl
      · rw [if_neg d, if_neg d]
        rfl
theorem heldN_len (tb : Tb) (room a : Int) (w : Bool) (hp : List Int) (h : (hp.length : Int) ≤ room) (r1 : 1 ≤ room) : ((heldN tb room a w hp).length : Int) ≤ room := by
  unfold heldN
  split
  · exact h
  · split
    · rw [List.length_append, List.length_drop, List.length_singleton]
      omega
    · rw [List.length_append, List.length_singleton]
      omega
section
variable {h : Hm} {P W Hd : Nat} {room asked missed : Int} {ws : List Int} {tb : Tb}
/-- all that is known of the object -/
structure Pg (h : Hm) (P W Hd : Nat) (room asked missed : Int) (ws : List Int) (tb : Tb) (hp : List Int) : Prop where
  o : Ob h P W Hd room asked missed ws
  wf : WF ws tb
  ok : TbOk tb
  eH : h[Hd]? = some (.lst ((heldOf tb hp).map hD))
  nw : P ≠ W
  nP : P ≠ Hd
  nW : W ≠ Hd
  r1 : 1 ≤ room
  r4 : room ≤ 4
  hl : (hp.length : Int) ≤ room
theorem Pg.keep {S : List Nat} {h' : Hm} {hp : List Int} (g : Pg h P W Hd room asked missed ws tb hp) (k : KL S h h') (a : P ∉ S) (b : W ∉ S) (c : Hd ∉ S) : Pg h' P W Hd room asked missed ws tb hp :=
  ⟨⟨k.get g.o.p a, k.get g.o.w b⟩, g.wf, g.ok, k.get g.eH c, g.nw, g.nP, g.nW, g.r1, g.r4, g.hl⟩
theorem found_pg {hp : List Int} (g : Pg h P W Hd room asked missed ws tb hp) {a : Int} (h0 : 0 ≤ a) (h1 : a < 256) (w : Bool) :
    ∃ h', f_Pages_found_at [.ref P, .int a, kS w] h = oI (resT tb a w) h' ∧ Pg h' P W Hd room (asked + 1) (missed + if a / 16 ∈ hp then 0 else 1) ws tb (heldN tb room a w hp) ∧ KL [P, Hd] h h' := by
  have l1 : (heldOf tb hp).length ≤ 100 := by
    unfold heldOf
    rw [List.length_map]
    have := g.hl
    have := g.r4
    omega
  obtain ⟨h', run, o', e', k'⟩ := found_ok g.o g.wf.len g.eH g.nw g.nP g.nW l1 a w g.r1
  rw [found_res g.wf g.ok h0 h1] at run
  rw [miss_res] at o'
  rw [newH_res g.wf g.ok h0 h1] at e'
  exact ⟨h', run, ⟨o', g.wf, g.ok, e', g.nw, g.nP, g.nW, g.r1, g.r4, heldN_len tb room a w hp g.hl g.r1⟩, k'.kl⟩
end
def putT (tb : Tb) (p : Int) (x : Int × Bool) : Tb := if (tb.any fun q => decide (q.1 = p)) = true then tb.map (fun q => if q.1 = p then (q.1, x) else q) else tb ++ [(p, x)]
def delT (tb : Tb) (p : Int) : Tb := tb.filter fun q => !decide (q.1 = p)
theorem lookT_cons (q : Int × (Int × Bool)) (tb : Tb) (p : Int) : lookT (q :: tb) p = if q.1 = p then some q.2 else lookT tb p := by
  unfold lookT
  by_cases c : q.1 = p
  · rw [List.find?_cons_of_pos (by simpa using c), if_pos c]
    rfl
  · rw [List.find?_cons_of_neg (by simpa using c), if_neg c]
theorem lookT_any (tb : Tb) (p : Int) : (tb.any fun q => decide (q.1 = p)) = (lookT tb p).isSome := by
  induction tb with
  | nil => rfl
  | cons q tb ih =>
    rw [lookT_cons, List.any_cons, ih]
    by_cases c : q.1 = p <;> simp [c]
theorem lookT_map (tb : Tb) (p q : Int) (x : Int × Bool) : lookT (tb.map fun q => if q.1 = p then (q.1, x) else q) q = if q = p then (lookT tb q).map (fun _ => x) else lookT tb q := by
  induction tb with
  | nil => simp [lookT]
  | cons r tb ih =>
    rw [List.map_cons, lookT_cons, ih, lookT_cons]
    by_cases c : r.1 = p
    · by_cases d : q = p
      · subst d
        simp [c]
      · have : ¬ p = q := fun z => d z.symm
        simp [c, d, this]
    · by_cases d : q = p
      · subst d
        simp [c]
      · simp [c, d]
theorem lookT_app (tb : Tb) (q : Int) (y : Int × (Int × Bool)) : lookT (tb ++ [y]) q = match lookT tb q with
    | some z => some z
    | none => if y.1 = q then some y.2 else none := by
  induction tb with
  | nil => simp [lookT_cons, lookT]
  | cons r tb ih =>
    rw [List.cons_append, lookT_cons, ih, lookT_cons]
    by_cases c : r.1 = q <;> simp [c]
theorem lookT_put (tb : Tb) (p q : Int) (x : Int × Bool) : lookT (putT tb p x) q = if q = p then some x else lookT tb q := by
  unfold putT
  rw [lookT_any]
  cases e : lookT tb p with
  | some y =>
    rw [if_pos (show (some y).isSome = true from rfl), lookT_map]
    by_cases d : q = p
    · subst d
      rw [if_pos rfl, if_pos rfl, e]
      rfl
    · rw [if_neg d, if_neg d]
  | none =>
    rw [if_neg (by simp), lookT_app]
    by_cases d : q = p
    · subst d
      rw [e]
    · have : ¬ p = q := fun z => d z.symm
      rw [if_neg d]
      simp only [this, if_false]
      cases lookT tb q <;> rfl
theorem lookT_del (tb : Tb) (p q : Int) : lookT (delT tb p) q = if q = p then none else lookT tb q := by
  unfold delT
  induction tb with
  | nil => simp [lookT]
  | cons r tb ih =>
    by_cases c : r.1 = p
    · rw [List.filter_cons_of_neg (by simp [c]), ih, lookT_cons]
      by_cases d : q = p
      · simp [d]
      · have : ¬ r.1 = q := fun z => d (by rw [← z, c])
        simp [d, this]
    · rw [List.filter_cons_of_pos (by simp [c]), lookT_cons, ih, lookT_cons]
      by_cases d : q = p
      · have : ¬ r.1 = q := fun z => c (by rw [z, d])
        simp [d, c]
      · simp [d]
theorem putT_keys (tb : Tb) (p : Int) (x : Int × Bool) : (putT tb p x).map (·.1) = if (lookT tb p).isSome = true then tb.map (·.1) else tb.map (·.1) ++ [p] := by
  unfold putT
  rw [lookT_any]
  split
  · rw [List.map_map]
    apply List.map_congr_left
    intro q _
    simp only [Function.comp]
    split <;> rfl
  · rw [List.map_append]
    rfl
theorem lookT_none {tb : Tb} {p : Int} (h : lookT tb p = none) : p ∉ tb.map (·.1) := fun m => by
  obtain ⟨q, hq, e⟩ := List.mem_map.mp m
  have : (tb.any fun q => decide (q.1 = p)) = true := List.any_eq_true.mpr ⟨q, hq, by simpa using e⟩
  rw [lookT_any, h] at this
  cases this
theorem TbOk.put {tb : Tb} (ok : TbOk tb) {p f : Int} {w : Bool} (p0 : 0 ≤ p) (p5 : p < 5) (f0 : 2 ≤ f) (f1 : f ≤ 11) : TbOk (putT tb p (f, w)) := by
  refine ⟨fun q hq => ?_, fun q hq => ?_, ?_⟩
  · unfold putT at hq
    split at hq
    · obtain ⟨r, hr, rfl⟩ := List.mem_map.mp hq
      have := ok.key r hr
      split <;> exact this
    · rcases List.mem_append.mp hq with hq | hq
      · exact ok.key q hq
      · rw [List.mem_singleton] at hq
        subst hq
        exact ⟨p0, p5⟩
  · unfold putT at hq
    split at hq
    · obtain ⟨r, hr, rfl⟩ := List.mem_map.mp hq
      have := ok.frm r hr
      split
      · exact ⟨f0, f1⟩
      · exact this
    · rcases List.mem_append.mp hq with hq | hq
      · exact ok.frm q hq
      · rw [List.mem_singleton] at hq
        subst hq
        exact ⟨f0, f1⟩
  · rw [putT_keys]
    split
    · exact ok.nd
    · rename_i c
      have : lookT tb p = none := by
        cases e : lookT tb p with
        | none => rfl
        | some x => rw [e] at c; exact absurd rfl c
      rw [List.nodup_append]
      refine ⟨ok.nd, by simp, fun a ha b hb z => ?_⟩
      rw [List.mem_singleton] at hb
      rw [z, hb] at ha
      exact lookT_none this ha
theorem TbOk.del {tb : Tb} (ok : TbOk tb) (p : Int) : TbOk (delT tb p) :=
  ⟨fun q hq => ok.key q (List.mem_filter.mp hq).1, fun q hq => ok.frm q (List.mem_filter.mp hq).1, ok.nd.sublist ((List.filter_sublist (l := tb)).map _)⟩
theorem WF.upd {ws : List Int} {tb tb' : Tb} (wf : WF ws tb) {p : Nat} (hp : p < 16) {v : Int} (hv : v = entO (lookT tb' p)) (ho : ∀ q : Nat, q ≠ p → lookT tb' q = lookT tb q) : WF (ws.set (16 + p) v) tb' := by
  have g : ∀ k : Nat, k ≠ 16 + p → (ws.set (16 + p) v).getD k 0 = ws.getD k 0 := fun k hk => by
    rw [List.getD_eq_getElem?_getD, List.getElem?_set_ne (Ne.symm hk), ← List.getD_eq_getElem?_getD]
  refine ⟨by rw [List.length_set]; exact wf.len, (g 0 (by omega)).trans wf.dir, fun k h1 h2 => (g k (by omega)).trans (wf.nul k h1 h2), fun q hq => ?_⟩
  by_cases c : q = p
  · subst c
    rw [List.getD_eq_getElem?_getD, List.getElem?_set_self (by rw [wf.len]; omega), Option.getD_some]
    exact hv
  · rw [g _ (by omega), wf.ent q hq, ho q c]
theorem held_filter {tb tb' : Tb} {p : Int} (ho : ∀ q, q ≠ p → lookT tb' q = lookT tb q) : ∀ hp : List Int, (heldOf tb hp).filter (fun q => !decide (q.1 = p)) = heldOf tb' (hp.filter fun q => !decide (q = p))
  | [] => rfl
  | q :: hp => by
    have ih := held_filter ho hp
    unfold heldOf at ih ⊢
    rw [List.map_cons]
    by_cases c : q = p
    · rw [List.filter_cons_of_neg (by simp [c]), List.filter_cons_of_neg (by simp [c]), ih]
    · rw [List.filter_cons_of_pos (by simp [c]), List.filter_cons_of_pos (by simp [c]), ih, List.map_cons, ho q c]
section
variable {h : Hm} {P W Hd : Nat} {room asked missed : Int} {ws : List Int} {tb : Tb} {hp : List Int}
theorem Pg.h100 (g : Pg h P W Hd room asked missed ws tb hp) : (heldOf tb hp).length ≤ 100 := by
  unfold heldOf
  rw [List.length_map]
  have := g.hl
  have := g.r4
  omega
theorem Pg.lt (g : Pg h P W Hd room asked missed ws tb hp) : P < h.length ∧ W < h.length ∧ Hd < h.length := ⟨(List.getElem?_eq_some_iff.mp g.o.p).1, (List.getElem?_eq_some_iff.mp g.o.w).1, (List.getElem?_eq_some_iff.mp g.eH).1⟩
theorem lay_pg (g : Pg h P W Hd room asked missed ws tb hp) {p f : Int} {w : Bool} (p0 : 0 ≤ p) (p5 : p < 5) (f0 : 2 ≤ f) (f1 : f ≤ 11) :
    ∃ h' ws', f_Pages_lay [.ref P, .int p, .int f, .bl w] h = .ok .non h' ∧ Pg h' P W h.length room asked missed ws' (putT tb p (f, w)) (hp.filter fun q => !decide (q = p)) ∧ KL [P, W] h h' := by
  obtain ⟨n, rfl⟩ : ∃ n : Nat, p = (n : Int) := ⟨p.toNat, by omega⟩
  obtain ⟨h', run, o', e', k'⟩ := lay_ok g.o g.wf.len g.wf.dir g.eH g.nw g.nW g.h100 n _ rfl (by omega) f (by omega) (by omega) w
  have ho : ∀ q, q ≠ (n : Int) → lookT (putT tb n (f, w)) q = lookT tb q := fun q hq => by rw [lookT_put, if_neg hq]
  rw [held_filter ho] at e'
  have lt := g.lt
  refine ⟨h', _, run, ⟨o', g.wf.upd (by omega) (by rw [lookT_put, if_pos rfl]; rfl) fun q hq => ho q (by omega), g.ok.put p0 p5 f0 f1, e', g.nw, by omega, by omega, g.r1, g.r4, ?_⟩, k'⟩
  have := List.length_filter_le (fun q => !decide (q = (n : Int))) hp
  have := g.hl
  omega
theorem take_pg (g : Pg h P W Hd room asked missed ws tb hp) {p : Int} (p0 : 0 ≤ p) (p5 : p < 5) :
    ∃ h' ws', f_Pages_take [.ref P, .int p] h = .ok .non h' ∧ Pg h' P W h.length room asked missed ws' (delT tb p) (hp.filter fun q => !decide (q = p)) ∧ KL [P, W] h h' := by
  obtain ⟨n, rfl⟩ : ∃ n : Nat, p = (n : Int) := ⟨p.toNat, by omega⟩
  obtain ⟨h', run, o', e', k'⟩ := take_ok g.o g.wf.len g.wf.dir g.eH g.nw g.nW g.h100 n _ rfl (by omega)
  have ho : ∀ q, q ≠ (n : Int) → lookT (delT tb n) q = lookT tb q := fun q hq => by rw [lookT_del, if_neg hq]
  rw [held_filter ho] at e'
  have lt := g.lt
  refine ⟨h', _, run, ⟨o', g.wf.upd (by omega) (by rw [lookT_del, if_pos rfl]; rfl) fun q hq => ho q (by omega), g.ok.del _, e', g.nw, by omega, by omega, g.r1, g.r4, ?_⟩, k'⟩
  have := List.length_filter_le (fun q => !decide (q = (n : Int))) hp
  have := g.hl
  omega
theorem walk_pg (g : Pg h P W Hd room asked missed ws tb hp) {a : Int} (h0 : 0 ≤ a) (h1 : a < 256) (w : Bool) : f_Pages_walk [.ref P, .int a, kS w] h = oI (resT tb a w) h := by
  rw [walk_run g.o g.wf.len, walk_near g.wf g.ok h0 h1]
theorem can_pg (g : Pg h P W Hd room asked missed ws tb hp) {a : Int} (h0 : 0 ≤ a) (h1 : a < 256) (w : Bool) : f_Pages_can [.ref P, .int a, kS w] h = .ok (.bl (resT tb a w).isSome) h := by
  rw [can_run g.o g.wf.len, walk_near g.wf g.ok h0 h1]
end
theorem init_run {H : Hm} {P A : Nat} {room : Int} {ws : List D} (eP : H[P]? = some (.ins "Pages" [])) (eA : H[A]? = some (.lst ws)) (hl : ws.length = 192) (r1 : 1 ≤ room) :
    ∃ H', f_Pages___init__ [.ref P, .ref A, .int 0, .int room] H = .ok .non H' ∧ H'[P]? = some (.ins "Pages" (fl H.length (H.length + 1) room 0 0)) ∧ H'[H.length]? = some (.lst ws) ∧ H'[H.length + 1]? = some (.lst []) ∧ KL [P] H H' := by
  have lp := (List.getElem?_eq_some_iff.mp eP).1
  have ne : P ≠ A := fun z => by rw [z, eA] at eP; cases eP
  have ln := fLen_lst eA
  rw [hl] at ln
  have ln : fLen [.ref A] H = .ok (.int 192) H := ln
  have m1 := fun g => fm (x := 192) (y := 16) (h := g) (by decide)
  have m2' := fun g => fm (x := 0) (y := 16) (h := g) (by decide)
  -- words
  obtain ⟨h1, hh1⟩ : ∃ h1 : Hm, h1 = (H ++ [O.lst ws]).set P (.ins "Pages" [("words", .ref H.length)]) := ⟨_, rfl⟩
  have p1 : h1[P]? = some (.ins "Pages" [("words", .ref H.length)]) := by rw [hh1]; exact List.getElem?_set_self (by rw [List.length_append]; omega)
  have w1 : h1[H.length]? = some (.lst ws) := by rw [hh1, List.getElem?_set_ne (by omega)]; exact get_new
  have k1 : KL [P] H h1 := by rw [hh1]; exact KL.app.trans (KL.set (by simp))
  have l1 : h1.length = H.length + 1 := by rw [hh1, List.length_set, List.length_append]; rfl
  -- root, room
  obtain ⟨h2, hh2⟩ : ∃ h2 : Hm, h2 = h1.set P (.ins "Pages" [("words", .ref H.length), ("root", .int 0)]) := ⟨_, rfl⟩
  have p2 : h2[P]? = some (.ins "Pages" [("words", .ref H.length), ("root", .int 0)]) := by rw [hh2]; exact List.getElem?_set_self (by omega)
  have w2 : h2[H.length]? = some (.lst ws) := by rw [hh2, List.getElem?_set_ne (by omega)]; exact w1
  have k2 : KL [P] H h2 := by rw [hh2]; exact k1.trans (KL.set (by simp))
  have l2 : h2.length = H.length + 1 := by rw [hh2, List.length_set, l1]
  obtain ⟨h3, hh3⟩ : ∃ h3 : Hm, h3 = h2.set P (.ins "Pages" [("words", .ref H.length), ("root", .int 0), ("room", .int room)]) := ⟨_, rfl⟩
  have p3 : h3[P]? = some (.ins "Pages" [("words", .ref H.length), ("root", .int 0), ("room", .int room)]) := by rw [hh3]; exact List.getElem?_set_self (by omega)
  have w3 : h3[H.length]? = some (.lst ws) := by rw [hh3, List.getElem?_set_ne (by omega)]; exact w2
  have k3 : KL [P] H h3 := by rw [hh3]; exact k2.trans (KL.set (by simp))
  have l3 : h3.length = H.length + 1 := by rw [hh3, List.length_set, l2]
  -- held
  obtain ⟨h4, hh4⟩ : ∃ h4 : Hm, h4 = (h3 ++ [O.lst []]).set P (.ins "Pages" [("words", .ref H.length), ("root", .int 0), ("room", .int room), ("held", .ref (H.length + 1))]) := ⟨_, rfl⟩
  have p4 : h4[P]? = some (.ins "Pages" [("words", .ref H.length), ("root", .int 0), ("room", .int room), ("held", .ref (H.length + 1))]) := by rw [hh4]; exact List.getElem?_set_self (by rw [List.length_append]; omega)
  have w4 : h4[H.length]? = some (.lst ws) := by rw [hh4, List.getElem?_set_ne (by omega)]; exact keep_app w3
  have d4 : h4[H.length + 1]? = some (.lst []) := by rw [hh4, List.getElem?_set_ne (by omega), ← l3]; exact get_new
  have k4 : KL [P] H h4 := by rw [hh4]; exact k3.trans (KL.app.trans (KL.set (by simp)))
  have l4 : P < h4.length := (List.getElem?_eq_some_iff.mp p4).1
  -- asked, missed
  obtain ⟨h5, hh5⟩ : ∃ h5 : Hm, h5 = h4.set P (.ins "Pages" [("words", .ref H.length), ("root", .int 0), ("room", .int room), ("held", .ref (H.length + 1)), ("asked", .int 0)]) := ⟨_, rfl⟩
  have p5 : h5[P]? = some (.ins "Pages" [("words", .ref H.length), ("root", .int 0), ("room", .int room), ("held", .ref (H.length + 1)), ("asked", .int 0)]) := by rw [hh5]; exact List.getElem?_set_self l4
  have w5 : h5[H.length]? = some (.lst ws) := by rw [hh5, List.getElem?_set_ne (by omega)]; exact w4
  have d5 : h5[H.length + 1]? = some (.lst []) := by rw [hh5, List.getElem?_set_ne (by omega)]; exact d4
  have k5 : KL [P] H h5 := by rw [hh5]; exact k4.trans (KL.set (by simp))
  have l5 : P < h5.length := (List.getElem?_eq_some_iff.mp p5).1
  refine ⟨h5.set P (.ins "Pages" (fl H.length (H.length + 1) room 0 0)), ?_, List.getElem?_set_self l5, by rw [List.getElem?_set_ne (by omega)]; exact w5, by rw [List.getElem?_set_ne (by omega)]; exact d5, k5.trans (KL.set (by simp))⟩
  have six : (5 : Nat) < 1000 := by decide
  refine call_next (e1 := [some (.ref P), some (.ref A), some (.int 0), some (.int room)]) f_Pages___init___eq rfl (seq_next (e1 := [some (.ref P), some (.ref A), some (.int 0), some (.int room)]) (h1 := H) ?_ (seq_next (e1 := [some (.ref P), some (.ref A), some (.int 0), some (.int room)]) (h1 := h1) ?_ (seq_next (e1 := [some (.ref P), some (.ref A), some (.int 0), some (.int room)]) (h1 := h2) ?_ (seq_next (e1 := [some (.ref P), some (.ref A), some (.int 0), some (.int room)]) (h1 := h3) ?_ (seq_next (e1 := [some (.ref P), some (.ref A), some (.int 0), some (.int room)]) (h1 := h4) ?_ (seq_next (e1 := [some (.ref P), some (.ref A), some (.int 0), some (.int room)]) (h1 := h5) ?_ ?_))))))
  · have r2 : ¬ room < 1 := by omega
    show sIf _ _ _ [some (.ref P), some (.ref A), some (.int 0), some (.int room)] H = _
    simp only [bind_ok, bind_exn, bindS_ok, bindS_exn, then_next, then_ret, then_brk, then_cont, then_exn, only_next, only_exn, run_nil, run_ret, run_retN, run_drop, run_if, run_asg, run_brk, run_cont, run_raise, run_gN, run_C, run_var, run_m2, run_lnil, run_lcons, run_tup, run_bool, run_tru, run_and, run_or, run_not, run_andV, run_orV, run_notV, run_ifE, run_chain, run_neg, run_sl, run_no, run_some, run_call, run_callF, run_meth, run_subM, run_par, run_par3, run_aug, run_itA, run_fld, run_fldM, run_tyes, fAdd_i, fSub_i, fLt_i, fLe_i, fGt_i, fGe_i, fEq_i, fNe_i, fAbs_i, fInt_i, fInt_b, fEq_s, fNe_s, fEq_b, fMax2_i, fMin2_i, fIAdd_i, fTru_b, fTru_i, run_methF, List.getElem?_cons_succ, List.getElem?_cons_zero, List.length_cons, List.length_nil, List.set_cons_succ, List.set_cons_zero, if_true, if_false, Bool.false_eq_true, Bool.not_true, Bool.not_false, decide_true, decide_false, ite_true, ite_false, Nat.zero_add, Nat.reduceAdd, oR, ln, m1, m2', r2]
    rfl
  · have le : mCall fList (mCons (mVar 1) mNil) [some (.ref P), some (.ref A), some (.int 0), some (.int room)] H = .ok (.ref H.length) (H ++ [.lst ws]) := by
      rw [run_call, run_lcons, var_run (d := .ref A) rfl, bind_ok, run_lnil, bind_ok, bind_ok]
      exact fList_lst eA
    rw [hh1]
    exact fldM_run le (var_run rfl) (keep_app eP) (by simp [cs_words]) (by show 0 < 1000; decide)
  · rw [hh2]
    exact fldM_run (y := .int 0) (h1 := h1) rfl (var_run rfl) p1 (by simp [cs_root]) (by show 1 < 1000; decide)
  · rw [hh3]
    exact fldM_run (y := .int room) (h1 := h2) rfl (var_run rfl) p2 (by simp [cs_room]) (by show 2 < 1000; decide)
  · have le : mLst mNil [some (.ref P), some (.ref A), some (.int 0), some (.int room)] h3 = .ok (.ref (H.length + 1)) (h3 ++ [.lst []]) := by
      rw [← l3]
      rfl
    rw [hh4]
    exact fldM_run le (var_run rfl) (keep_app p3) (by simp [cs_held]) (by show 3 < 1000; decide)
  · rw [hh5]
    exact fldM_run (y := .int 0) (h1 := h4) rfl (var_run rfl) p4 (by simp [cs_asked]) (by show 4 < 1000; decide)
  · exact fldM_run (y := .int 0) (h1 := h5) rfl (var_run rfl) p5 (by simp [cs_missed]) (by show 5 < 1000; decide)
def ws0 : List Int := 7 :: List.replicate 191 0
theorem wf0 : WF ws0 [] := by
  refine ⟨by decide, rfl, fun k h1 h2 => ?_, fun p hp => ?_⟩
  · obtain ⟨j, rfl⟩ : ∃ j, k = j + 1 := ⟨k - 1, by omega⟩
    unfold ws0
    rw [List.getD_cons_succ, List.getD_eq_getElem?_getD, List.getElem?_replicate]
    split <;> rfl
  · unfold ws0
    rw [show 16 + p = (15 + p) + 1 by omega, List.getD_cons_succ, List.getD_eq_getElem?_getD, List.getElem?_replicate]
    split <;> rfl
theorem empty_run {h : Hm} {room : Int} (r1 : 1 ≤ room) (r4 : room ≤ 4) : ∃ P W Hd h', f_empty [.int 12, .int room] h = .ok (.ref P) h' ∧ Pg h' P W Hd room 0 0 ws0 [] [] ∧ h.length ≤ P ∧ h.length ≤ W ∧ h.length ≤ Hd ∧ KL [] h h' := by
  have mu1' := fun g => mu (x := 12) (y := 16) (h := g) (by decide)
  obtain ⟨h2, hh2⟩ : ∃ h2 : Hm, h2 = h ++ [O.lst [.int 0]] ++ [O.lst ((List.replicate 192 (0 : Int)).map D.int)] := ⟨_, rfl⟩
  have l2 : h2.length = h.length + 2 := by rw [hh2, List.length_append, List.length_append]; rfl
  have w2 : h2[h.length + 1]? = some (.lst ((List.replicate 192 (0 : Int)).map D.int)) := by
    rw [hh2]
    have := get_new (h := h ++ [O.lst [D.int 0]]) (o := .lst ((List.replicate 192 (0 : Int)).map D.int))
    rwa [List.length_append, List.length_singleton] at this
  have k2 : KL [] h h2 := by rw [hh2]; exact KL.app.trans KL.app
  have s0 : sAsg (gN 2) (m2 fMul (mLst (mCons (mC (.int 0)) mNil)) (m2 fMul (mVar 0) (mC (.int 16)))) [some (.int 12), some (.int room), none] h = .next [some (.int 12), some (.int room), some (.ref (h.length + 1))] h2 := by
    refine asg_run ?_
    have r := fun (g : Hm) => (show fMul (.int 12) (.int 16) g = .ok (.int 192) g from mu1' g)
    rw [run_m2, run_lst, run_lcons, run_C, bind_ok, run_lnil, bind_ok, bind_ok, bind_ok, run_m2, var_run (d := .int 12) rfl, bind_ok, run_C, bind_ok, r, bind_ok]
    unfold fMul
    have gn : (h ++ [O.lst [D.int 0]])[h.length]? = some (.lst [D.int 0]) := get_new
    simp only [gn]
    rw [if_pos ⟨by decide, by decide, by decide⟩, hh2]
    have e : (List.replicate (Int.toNat 192) [D.int 0]).flatten = (List.replicate 192 (0 : Int)).map D.int := by
      rw [List.map_replicate]
      show (List.replicate 192 [D.int 0]).flatten = _
      generalize 192 = n
      induction n with
      | zero => rfl
      | succ n ih => rw [List.replicate_succ, List.flatten_cons, ih, List.replicate_succ]; rfl
    rw [e, List.length_append, List.length_singleton]
  obtain ⟨h3, hh3⟩ : ∃ h3 : Hm, h3 = h2.set (h.length + 1) (.lst (ws0.map D.int)) := ⟨_, rfl⟩
  have w3 : h3[h.length + 1]? = some (.lst (ws0.map D.int)) := by rw [hh3]; exact List.getElem?_set_self (by omega)
  have l3 : h3.length = h.length + 2 := by rw [hh3, List.length_set, l2]
  have k3 : KL [] h h3 := ⟨by omega, fun j hj _ => by rw [hh3, List.getElem?_set_ne (by omega)]; exact k2.2 j hj (by simp)⟩
  have s1 : sAsg (gSubM (mVar 2) (mC (.int 0))) (mCallF 2 f_entry_of (mCons (mC (.int 1)) (mCons (mC (.bl true)) mNil))) [some (.int 12), some (.int room), some (.ref (h.length + 1))] h2 = .next [some (.int 12), some (.int room), some (.ref (h.length + 1))] h3 := by
    have er := entry_run 1 true h2
    rw [if_pos ⟨by decide, by decide⟩] at er
    have er : f_entry_of [.int 1, .bl true] h2 = .ok (.int 7) h2 := er
    have st := fSet_lst (j := 0) (y := .int 7) w2 (by rw [List.length_map, List.length_replicate]; decide)
    have st : fSet (.ref (h.length + 1)) (.int 0) (.int 7) h2 = some h3 := by
      rw [hh3]
      exact st
    simp only [bind_ok, bind_exn, bindS_ok, bindS_exn, then_next, then_ret, then_brk, then_cont, then_exn, only_next, only_exn, run_nil, run_ret, run_retN, run_drop, run_if, run_asg, run_brk, run_cont, run_raise, run_gN, run_C, run_var, run_m2, run_lnil, run_lcons, run_tup, run_bool, run_tru, run_and, run_or, run_not, run_andV, run_orV, run_notV, run_ifE, run_chain, run_neg, run_sl, run_no, run_some, run_call, run_callF, run_meth, run_subM, run_par, run_par3, run_aug, run_itA, run_fld, run_fldM, run_tyes, fAdd_i, fSub_i, fLt_i, fLe_i, fGt_i, fGe_i, fEq_i, fNe_i, fAbs_i, fInt_i, fInt_b, fEq_s, fNe_s, fEq_b, fMax2_i, fMin2_i, fIAdd_i, fTru_b, fTru_i, run_methF, List.getElem?_cons_succ, List.getElem?_cons_zero, List.length_cons, List.length_nil, List.set_cons_succ, List.set_cons_zero, if_true, if_false, Bool.false_eq_true, Bool.not_true, Bool.not_false, decide_true, decide_false, ite_true, ite_false, Nat.zero_add, Nat.reduceAdd, oR, er, st]
  obtain ⟨h4, hh4⟩ : ∃ h4 : Hm, h4 = h3 ++ [O.ins "Pages" []] := ⟨_, rfl⟩
  have p4 : h4[h3.length]? = some (.ins "Pages" []) := by rw [hh4]; exact get_new
  have w4 : h4[h.length + 1]? = some (.lst (ws0.map D.int)) := by rw [hh4]; exact keep_app w3
  have l4 : h4.length = h.length + 3 := by rw [hh4, List.length_append, l3]; rfl
  obtain ⟨h5, run, p5, w5, d5, k5⟩ := init_run (room := room) p4 w4 (by rw [List.length_map]; decide) r1
  have kk : KL [] h h5 := ⟨by have := k5.1; omega, fun j hj _ => (k5.2 j (by omega) (by simp; omega)).trans (by rw [hh4, List.getElem?_append_left (by omega)]; exact k3.2 j hj (by simp))⟩
  refine ⟨h3.length, h4.length, h4.length + 1, h5, ?_, ⟨⟨p5, w5⟩, wf0, ⟨fun q hq => (by cases hq), fun q hq => (by cases hq), List.nodup_nil⟩, d5, by omega, by omega, by omega, r1, r4, by show (0 : Int) ≤ room; omega⟩, by omega, by omega, by omega, kk⟩
  refine call_ret f_empty_eq rfl (seq_next s0 (seq_next s1 ?_))
  rw [run_ret, run_make, run_lcons, var_run (d := .ref (h.length + 1)) rfl, bind_ok, run_lcons, run_C, bind_ok, run_lcons, var_run (d := .int room) rfl, bind_ok, run_lnil, bind_ok, bind_ok, bind_ok, bind_ok, if_pos (by rfl), ← hh4, run]
  rfl
def rowT (p : Int) (x : Int × Bool) : D := .tup [.int p, .int x.1, .bl x.2]
section
variable {P W Hd : Nat} {room asked missed : Int} {ws : List Int} {tb : Tb} {hp : List Int}
theorem res_page (tb : Tb) (q : Int) (w : Bool) : resT tb (q * 16) w = match lookT tb q with
    | none => none
    | some (f, wr) => if (w && !wr) = true then none else some (f * 16) := by
  unfold resT
  rw [show q * 16 / 16 = q by omega, show q * 16 % 16 = 0 by omega]
  cases lookT tb q with
  | none => rfl
  | some x => simp
theorem walk_page {h : Hm} (g : Pg h P W Hd room asked missed ws tb hp) {q : Int} (h0 : 0 ≤ q) (h1 : q < 256) (w : Bool) : walkP ws (q * 16) w = match lookT tb q with
    | none => none
    | some (f, wr) => if (w && !wr) = true then none else some (f * 16) := by
  by_cases c : q < 16
  · rw [walk_near g.wf g.ok (by omega) (by omega), res_page]
  · rw [walk_far g.wf (by omega), lookT_far g.ok (by omega)]
theorem pages_step {h : Hm} (g : Pg h P W Hd room asked missed ws tb hp) {F : Nat} {acc : List D} (eF : h[F]? = some (.lst acc)) (hl : acc.length ≤ 900) {q : Int} (h0 : 0 ≤ q) (h1 : q < 256) (x3 : Option D) :
    match lookT tb q with
    | none => l_Pages_pages_0 [some (.ref P), some (.ref F), some (.int q), x3] h = .cont [some (.ref P), some (.ref F), some (.int q), x3] h
    | some x => ∃ y3, l_Pages_pages_0 [some (.ref P), some (.ref F), some (.int q), x3] h = .next [some (.ref P), some (.ref F), some (.int q), y3] (h.set F (.lst (acc ++ [rowT q x]))) := by
  have m16 := fun g => mu (x := q) (y := 16) (h := g) (by decide)
  have wk : mMethF "Pages" "walk" 3 f_Pages_walk (mVar 0) (mCons (m2 fMul (mVar 2) (mC (.int 16))) (mCons (mC (.str "read")) mNil)) [some (.ref P), some (.ref F), some (.int q), x3] h = oI (walkP ws (q * 16) false) h :=
    (meth_run (ds := [.int (q * 16), kS false]) (var_run rfl) g.o.p rfl (by
      rw [run_lcons, run_m2, var_run (d := .int q) rfl, bind_ok, run_C, bind_ok, m16, bind_ok]
      rfl) rfl).trans (walk_run g.o g.wf.len _ false)
  rw [walk_page g h0 h1] at wk
  cases e : lookT tb q with
  | none =>
    rw [e] at wk
    simp only
    have d : sAsg (gN 3) (mMethF "Pages" "walk" 3 f_Pages_walk (mVar 0) (mCons (m2 fMul (mVar 2) (mC (.int 16))) (mCons (mC (.str "read")) mNil))) [some (.ref P), some (.ref F), some (.int q), x3] h = .exn exNo [some (.ref P), some (.ref F), some (.int q), x3] h := by
      rw [run_asg, wk]
      rfl
    show sSeq (sTry _ _ _) _ _ _ = _
    unfold sSeq sTry
    rw [d]
    rfl
  | some x =>
    obtain ⟨f, wr⟩ := x
    rw [e] at wk
    simp only [Bool.false_and, Bool.false_eq_true, if_false] at wk ⊢
    refine ⟨some (.int (f * 16)), ?_⟩
    have d : sAsg (gN 3) (mMethF "Pages" "walk" 3 f_Pages_walk (mVar 0) (mCons (m2 fMul (mVar 2) (mC (.int 16))) (mCons (mC (.str "read")) mNil))) [some (.ref P), some (.ref F), some (.int q), x3] h = .next [some (.ref P), some (.ref F), some (.int q), some (.int (f * 16))] h := asg_run wk
    have cn : mMethF "Pages" "can" 3 f_Pages_can (mVar 0) (mCons (m2 fMul (mVar 2) (mC (.int 16))) (mCons (mC (.str "write")) mNil)) [some (.ref P), some (.ref F), some (.int q), some (.int (f * 16))] h = .ok (.bl wr) h := by
      refine (meth_run (ds := [.int (q * 16), kS true]) (var_run rfl) g.o.p rfl (by
        rw [run_lcons, run_m2, var_run (d := .int q) rfl, bind_ok, run_C, bind_ok, m16, bind_ok]
        rfl) rfl).trans ((can_run g.o g.wf.len _ true).trans ?_)
      rw [walk_page g h0 h1, e]
      cases wr <;> rfl
    refine seq_next (e1 := [some (.ref P), some (.ref F), some (.int q), some (.int (f * 16))]) (h1 := h) ?_ ?_
    · show sTry _ _ _ _ _ = _
      unfold sTry
      rw [d]
    · have dv := fun g => fd (x := f * 16) (y := 16) (h := g) (by decide) (by decide)
      rw [show f * 16 / 16 = f by omega] at dv
      have ap := fAppend_ok (y := .tup [.int q, .int f, .bl wr]) eF (lim_lt (by omega))
      show sDrop _ _ _ = _
      rw [run_drop, run_meth, var_run (d := .ref F) rfl, bind_ok, if_pos (isL_ok eF), run_lcons, run_tup, run_lcons, var_run (d := .int q) rfl, bind_ok, run_lcons, run_m2, var_run (d := .int (f * 16)) rfl, bind_ok, run_C, bind_ok, dv, bind_ok, run_lcons, cn, bind_ok, run_lnil, bind_ok, bind_ok, bind_ok, bind_ok, bind_ok, run_lnil, bind_ok, bind_ok, ap]
      rfl
def pgRow (tb : Tb) (k : Nat) : Option D := (lookT tb (k : Int)).map (rowT (k : Int))
theorem pages_loop {h : Hm} (g : Pg h P W Hd room asked missed ws tb hp) {F : Nat} (hF : F ≠ P ∧ F ≠ W ∧ F ≠ Hd) : ∀ (m k : Nat) (acc : List D) (h : Hm), Pg h P W Hd room asked missed ws tb hp → h[F]? = some (.lst acc) → k + m ≤ 256 → acc.length ≤ k → ∀ x2 x3 : Option D,
    ∃ y2 y3, forL [] (gN 2) l_Pages_pages_0 ((List.range' k m).map fun n : Nat => D.int (0 + (n : Int))) [some (.ref P), some (.ref F), x2, x3] h = .next [some (.ref P), some (.ref F), y2, y3] (h.set F (.lst (acc ++ (List.range' k m).filterMap (pgRow tb))))
  | 0, k, acc, h, g, eF, hk, ha, x2, x3 => ⟨x2, x3, by
    rw [List.range'_zero, List.map_nil, List.filterMap_nil, List.append_nil, set_self eF]
    exact forL_nil gdOk_nil⟩
  | m + 1, k, acc, h, g, eF, hk, ha, x2, x3 => by
    have st := pages_step g eF (by omega) (q := 0 + (k : Int)) (by omega) (by omega) x3
    rw [List.range'_succ, List.map_cons, List.filterMap_cons]
    rw [Int.zero_add] at st ⊢
    unfold pgRow
    cases e : lookT tb (k : Int) with
    | none =>
      rw [e] at st
      simp only at st
      obtain ⟨y2, y3, ih⟩ := pages_loop g hF m (k + 1) acc h g eF (by omega) (by omega) (some (.int k)) x3
      refine ⟨y2, y3, ?_⟩
      simp only [Option.map_none]
      exact forL_cont gdOk_nil rfl st ih
    | some x =>
      rw [e] at st
      obtain ⟨z3, st⟩ := st
      have hlt := (List.getElem?_eq_some_iff.mp eF).1
      have k1 : KL [F] h (h.set F (.lst (acc ++ [rowT k x]))) := KL.set (by simp)
      obtain ⟨y2, y3, ih⟩ := pages_loop g hF m (k + 1) (acc ++ [rowT k x]) _ (g.keep k1 (by simp; exact Ne.symm hF.1) (by simp; exact Ne.symm hF.2.1) (by simp; exact Ne.symm hF.2.2)) (List.getElem?_set_self hlt) (by omega) (by rw [List.length_append, List.length_singleton]; omega) (some (.int k)) z3
      refine ⟨y2, y3, ?_⟩
      simp only [Option.map_some]
      refine forL_next gdOk_nil rfl st (ih.trans ?_)
      rw [List.set_set, List.append_assoc]
      rfl
theorem row_cut {tb : Tb} (ok : TbOk tb) : ∀ m : Nat, (List.range (5 + m)).filterMap (pgRow tb) = (List.range 5).filterMap (pgRow tb)
  | 0 => rfl
  | m + 1 => by
    have : pgRow tb (5 + m) = none := by
      unfold pgRow
      rw [lookT_far ok (by omega)]
      rfl
    rw [show 5 + (m + 1) = (5 + m) + 1 by omega, List.range_succ, List.filterMap_append, row_cut ok m, List.filterMap_cons, this]
    simp
theorem pages_run {h : Hm} (g : Pg h P W Hd room asked missed ws tb hp) : ∃ g', f_Pages_pages [.ref P] h = .ok (.tup ((List.range 5).filterMap (pgRow tb))) (h ++ g') := by
  have lt := g.lt
  have g0 : Pg (h ++ [.lst []]) P W Hd room asked missed ws tb hp := g.keep (S := []) KL.app (by simp) (by simp) (by simp)
  obtain ⟨y2, y3, L⟩ := pages_loop g0 (F := h.length) ⟨by omega, by omega, by omega⟩ 256 0 [] _ g0 get_new (by omega) (by simp) none none
  rw [← List.range_eq_range'] at L
  rw [show 256 = 5 + 251 from rfl, row_cut g.ok, List.nil_append] at L
  have sn : (h ++ [O.lst []]).set h.length (.lst ((List.range 5).filterMap (pgRow tb))) = h ++ [.lst ((List.range 5).filterMap (pgRow tb))] := by
    rw [List.set_append_right _ _ (Nat.le_refl _), Nat.sub_self]
    rfl
  rw [sn] at L
  have rg : mRg1 (mCons (m2 fMul (mC (.int 16)) (mC (.int 16))) mNil) [some (.ref P), some (.ref h.length), none, none] (h ++ [.lst []]) = .ok ((List.range (5 + 251)).map (fun n : Nat => D.int (0 + (n : Int))), []) (h ++ [.lst []]) := by
    have m := mu (x := 16) (y := 16) (h := h ++ [.lst []]) (by decide)
    refine rg1_run (n := 5 + 251) ?_ (by decide)
    rw [run_lcons, run_m2, run_C, bind_ok, run_C, bind_ok, m, bind_ok, run_lnil, bind_ok]
    rfl
  refine ⟨[.lst ((List.range 5).filterMap (pgRow tb))], call_ret f_Pages_pages_eq rfl (seq_next (e1 := [some (.ref P), some (.ref h.length), none, none]) (h1 := h ++ [.lst []]) rfl (seq_next (for_run rg L) ?_))⟩
  have t := fTuple_lst (h := h ++ [.lst ((List.range 5).filterMap (pgRow tb))]) get_new
  simp only [bind_ok, bind_exn, bindS_ok, bindS_exn, then_next, then_ret, then_brk, then_cont, then_exn, only_next, only_exn, run_nil, run_ret, run_retN, run_drop, run_if, run_asg, run_brk, run_cont, run_raise, run_gN, run_C, run_var, run_m2, run_lnil, run_lcons, run_tup, run_bool, run_tru, run_and, run_or, run_not, run_andV, run_orV, run_notV, run_ifE, run_chain, run_neg, run_sl, run_no, run_some, run_call, run_callF, run_meth, run_subM, run_par, run_par3, run_aug, run_itA, run_fld, run_fldM, run_tyes, fAdd_i, fSub_i, fLt_i, fLe_i, fGt_i, fGe_i, fEq_i, fNe_i, fAbs_i, fInt_i, fInt_b, fEq_s, fNe_s, fEq_b, fMax2_i, fMin2_i, fIAdd_i, fTru_b, fTru_i, run_methF, List.getElem?_cons_succ, List.getElem?_cons_zero, List.length_cons, List.length_nil, List.set_cons_succ, List.set_cons_zero, if_true, if_false, Bool.false_eq_true, Bool.not_true, Bool.not_false, decide_true, decide_false, ite_true, ite_false, Nat.zero_add, Nat.reduceAdd, oR, t]
end
section
variable {P W Hd : Nat} {room asked missed : Int} {ws : List Int} {tb : Tb} {hp : List Int}
theorem WF.data {ws : List Int} {tb : Tb} (wf : WF ws tb) {k : Nat} (hk : 32 ≤ k) (v : Int) : WF (ws.set k v) tb := by
  have g : ∀ j : Nat, j < 32 → (ws.set k v).getD j 0 = ws.getD j 0 := fun j hj => by
    rw [List.getD_eq_getElem?_getD, List.getElem?_set_ne (by omega), ← List.getD_eq_getElem?_getD]
  exact ⟨by rw [List.length_set]; exact wf.len, (g 0 (by omega)).trans wf.dir, fun j h1 h2 => (g j (by omega)).trans (wf.nul j h1 h2), fun p hp => (g _ (by omega)).trans (wf.ent p hp)⟩
theorem put_run {h : Hm} (g : Pg h P W Hd room asked missed ws tb hp) {a v : Int} (h0 : 0 ≤ a) (h1 : a < 256) {pl : Int} (e : resT tb a true = some pl) (l0 : 32 ≤ pl) (l1 : pl < 192) :
    ∃ h' k1 k2 hp', f_Pages_put_at [.ref P, .int a, .int v] h = .ok .non h' ∧ Pg h' P W Hd room k1 k2 (ws.set pl.toNat v) tb hp' ∧ KL [P, W, Hd] h h' := by
  obtain ⟨h', run, g', k'⟩ := found_pg g h0 h1 true
  rw [e] at run
  obtain ⟨sw, o2⟩ := set_w (k := pl.toNat) (ki := pl) (v := v) (hki := by omega) (by rw [g.wf.len]; omega) g'.o g.nw
  have kw : KL [P, W, Hd] h' (h'.set W (.lst ((ws.set pl.toNat v).map D.int))) := KL.set (by simp)
  refine ⟨_, _, _, _, call_next (e1 := [some (.ref P), some (.int a), some (.int v), some (.int pl)]) f_Pages_put_at_eq rfl (seq_next (e1 := [some (.ref P), some (.int a), some (.int v), some (.int pl)]) (h1 := h') ?_ ?_), ⟨o2, g.wf.data (by omega) v, g.ok, ?_, g.nw, g.nP, g.nW, g.r1, g.r4, g'.hl⟩, (k'.sub (by simp)).trans kw⟩
  · refine asg_run ?_
    exact (meth_run (ds := [.int a, kS true]) (var_run rfl) g.o.p rfl rfl rfl).trans run
  · show sAsg _ _ _ _ = _
    rw [run_asg, var_run (d := .int v) rfl, bindS_ok, run_subM, w_run g'.o rfl, bindS_ok, var_run (d := .int pl) rfl, bindS_ok]
    simp only [sw, only_next]
  · rw [List.getElem?_set_ne g.nW]
    exact g'.eH
theorem word_run {h : Hm} (g : Pg h P W Hd room asked missed ws tb hp) {a : Int} (h0 : 0 ≤ a) (h1 : a < 256) {pl : Int} (e : resT tb a false = some pl) (l0 : 0 ≤ pl) (l1 : pl < 192) :
    ∃ h' k1 k2 hp', f_Pages_word_at [.ref P, .int a] h = .ok (.int (ws.getD pl.toNat 0)) h' ∧ Pg h' P W Hd room k1 k2 ws tb hp' ∧ KL [P, W, Hd] h h' := by
  obtain ⟨h', run, g', k'⟩ := found_pg g h0 h1 false
  rw [e] at run
  refine ⟨_, _, _, _, call_ret f_Pages_word_at_eq rfl ?_, g', k'.sub (by simp)⟩
  have mm : mMethF "Pages" "found_at" 3 f_Pages_found_at (mVar 0) (mCons (mVar 1) (mCons (mC (.str "read")) mNil)) [some (.ref P), some (.int a)] h = .ok (.int pl) h' := (meth_run (ds := [.int a, kS false]) (var_run rfl) g.o.p rfl rfl rfl).trans run
  have ix := ix_get g'.o.w l0 (by rw [g.wf.len]; omega)
  show sRet _ [some (.ref P), some (.int a)] h = _
  rw [run_ret, run_m2, w_run g.o rfl, bind_ok, mm, bind_ok, ix]
  rfl
def kvT (q : Int × (Int × Bool)) : Key × D := (.inl q.1, .tup [.int q.2.1, .bl q.2.2])
theorem getK_T (tb : Tb) (p : Int) : getK (tb.map kvT) (.inl p) = (lookT tb p).map fun x => .tup [.int x.1, .bl x.2] := by
  induction tb with
  | nil => rfl
  | cons q tb ih =>
    rw [lookT_cons, List.map_cons]
    unfold getK at ih ⊢
    by_cases c : q.1 = p
    · subst c
      simp [kvT]
    · have : ¬ (kvT q).1 = Sum.inl p := fun z => c (Sum.inl.inj z)
      rw [List.find?_cons_of_neg (by simpa using this), ih, if_neg c]
theorem ixL {h : Hm} {T : Nat} {p : Int} {x : Int × Bool} (eT : h[T]? = some (.dicL (tb.map kvT)) ∨ h[T]? = some (.dic (tb.map kvT))) (e : lookT tb p = some x) : fIx (.ref T) (.int p) h = .ok (.tup [.int x.1, .bl x.2]) h := by
  unfold fIx
  rcases eT with eT | eT <;> simp only [eT, keyD, getK_T, e, Option.map_some]
theorem written_step {h : Hm} (g : Pg h P W Hd room asked missed ws tb hp) {T : Nat} (hT : T ≠ P ∧ T ≠ W ∧ T ≠ Hd) (eT : h[T]? = some (.dicL (tb.map kvT))) {p : Int} {x : Int × Bool} (e : lookT tb p = some x) :
    ∃ h' k1 k2 hp' ws', l__law_written_0 [some (.ref P), some (.ref T), some (.int p)] h = .next [some (.ref P), some (.ref T), some (.int p)] h' ∧ Pg h' P W Hd room k1 k2 ws' tb hp' ∧ h'[T]? = some (.dicL (tb.map kvT)) ∧ KL [P, W, Hd] h h' := by
  obtain ⟨f, w⟩ := x
  have hk := g.ok.key _ (lookT_mem e)
  have hf := lookT_frm g.ok e
  simp only at hk hf
  have ix := ixL (.inl eT) e
  have ct : mTru (m2 fIx (m2 fIx (mVar 1) (mVar 2)) (mC (.int 1))) [some (.ref P), some (.ref T), some (.int p)] h = .ok w h := by
    rw [run_tru, run_m2, run_m2, var_run (d := .ref T) rfl, bind_ok, var_run (d := .int p) rfl, bind_ok, ix, bind_ok, run_C, bind_ok]
    rfl
  unfold l__law_written_0 t__law_written_2
  rw [run_if, ct, bindS_ok]
  cases w with
  | false => exact ⟨h, _, _, _, _, rfl, g, eT, KL.refl⟩
  | true =>
    rw [if_pos rfl]
    have r1 : resT tb (16 * p + 3) true = some (f * 16 + 3) := by
      unfold resT
      rw [show (16 * p + 3) / 16 = p by omega, e, show (16 * p + 3) % 16 = 3 by omega]
      rfl
    have r2 : resT tb (16 * p + 3) false = some (f * 16 + 3) := by
      unfold resT
      rw [show (16 * p + 3) / 16 = p by omega, e, show (16 * p + 3) % 16 = 3 by omega]
      rfl
    obtain ⟨h1, a1, a2, hp1, run1, g1, k1⟩ := put_run g (v := 700 + p) (by omega) (by omega) r1 (by omega) (by omega)
    obtain ⟨h2, b1, b2, hp2, run2, g2, k2⟩ := word_run g1 (by omega) (by omega) r2 (by omega) (by omega)
    have nT : T ∉ [P, W, Hd] := by simp; exact hT
    have eT2 := (k1.trans k2).get eT nT
    have gd : (ws.set (f * 16 + 3).toNat (700 + p)).getD (f * 16 + 3).toNat 0 = 700 + p := by
      rw [List.getD_eq_getElem?_getD, List.getElem?_set_self (by rw [g.wf.len]; omega)]
      rfl
    rw [gd] at run2
    have ix2 := ixL (.inl eT2) e
    have m1 := fun g => mu1 (x := 16) (y := p) (h := g) (by decide)
    have m2' := fun g => mu1 (x := 16) (y := f) (h := g) (by decide)
    refine ⟨h2, _, _, _, _, seq_next (e1 := [some (.ref P), some (.ref T), some (.int p)]) (h1 := h1) ?_ ?_, g2, eT2, k1.trans k2⟩
    · have mm : mMethF "Pages" "put_at" 3 f_Pages_put_at (mVar 0) (mCons (m2 fAdd (m2 fMul (mC (.int 16)) (mVar 2)) (mC (.int 3))) (mCons (m2 fAdd (mC (.int 700)) (mVar 2)) mNil)) [some (.ref P), some (.ref T), some (.int p)] h = .ok .non h1 :=
        (meth_run (ds := [.int (16 * p + 3), .int (700 + p)]) (var_run rfl) g.o.p rfl (by simp only [bind_ok, bind_exn, bindS_ok, bindS_exn, then_next, then_ret, then_brk, then_cont, then_exn, only_next, only_exn, run_nil, run_ret, run_retN, run_drop, run_if, run_asg, run_brk, run_cont, run_raise, run_gN, run_C, run_var, run_m2, run_lnil, run_lcons, run_tup, run_bool, run_tru, run_and, run_or, run_not, run_andV, run_orV, run_notV, run_ifE, run_chain, run_neg, run_sl, run_no, run_some, run_call, run_callF, run_meth, run_subM, run_par, run_par3, run_aug, run_itA, run_fld, run_fldM, run_tyes, fAdd_i, fSub_i, fLt_i, fLe_i, fGt_i, fGe_i, fEq_i, fNe_i, fAbs_i, fInt_i, fInt_b, fEq_s, fNe_s, fEq_b, fMax2_i, fMin2_i, fIAdd_i, fTru_b, fTru_i, run_methF, List.getElem?_cons_succ, List.getElem?_cons_zero, List.length_cons, List.length_nil, List.set_cons_succ, List.set_cons_zero, if_true, if_false, Bool.false_eq_true, Bool.not_true, Bool.not_false, decide_true, decide_false, ite_true, ite_false, Nat.zero_add, Nat.reduceAdd, oR, m1]) rfl).trans run1
      show sDrop _ _ _ = _
      rw [run_drop, mm]
      rfl
    · have mm : mMethF "Pages" "word_at" 2 f_Pages_word_at (mVar 0) (mCons (m2 fAdd (m2 fMul (mC (.int 16)) (mVar 2)) (mC (.int 3))) mNil) [some (.ref P), some (.ref T), some (.int p)] h1 = .ok (.int (700 + p)) h2 :=
        (meth_run (ds := [.int (16 * p + 3)]) (var_run rfl) g1.o.p rfl (by simp only [bind_ok, bind_exn, bindS_ok, bindS_exn, then_next, then_ret, then_brk, then_cont, then_exn, only_next, only_exn, run_nil, run_ret, run_retN, run_drop, run_if, run_asg, run_brk, run_cont, run_raise, run_gN, run_C, run_var, run_m2, run_lnil, run_lcons, run_tup, run_bool, run_tru, run_and, run_or, run_not, run_andV, run_orV, run_notV, run_ifE, run_chain, run_neg, run_sl, run_no, run_some, run_call, run_callF, run_meth, run_subM, run_par, run_par3, run_aug, run_itA, run_fld, run_fldM, run_tyes, fAdd_i, fSub_i, fLt_i, fLe_i, fGt_i, fGe_i, fEq_i, fNe_i, fAbs_i, fInt_i, fInt_b, fEq_s, fNe_s, fEq_b, fMax2_i, fMin2_i, fIAdd_i, fTru_b, fTru_i, run_methF, List.getElem?_cons_succ, List.getElem?_cons_zero, List.length_cons, List.length_nil, List.set_cons_succ, List.set_cons_zero, if_true, if_false, Bool.false_eq_true, Bool.not_true, Bool.not_false, decide_true, decide_false, ite_true, ite_false, Nat.zero_add, Nat.reduceAdd, oR, m1]) rfl).trans run2
      have ix3 := ix_get g2.o.w (k := 16 * f + 3) (by omega) (by rw [g2.wf.len]; omega)
      rw [show (16 * f + 3).toNat = (f * 16 + 3).toNat by omega, gd] at ix3
      have c1 : mBool (m2 fNe (mMethF "Pages" "word_at" 2 f_Pages_word_at (mVar 0) (mCons (m2 fAdd (m2 fMul (mC (.int 16)) (mVar 2)) (mC (.int 3))) mNil)) (m2 fAdd (mC (.int 700)) (mVar 2))) [some (.ref P), some (.ref T), some (.int p)] h1 = .ok false h2 := by
        rw [run_bool, run_m2, mm, bind_ok]
        simp only [bind_ok, bind_exn, bindS_ok, bindS_exn, then_next, then_ret, then_brk, then_cont, then_exn, only_next, only_exn, run_nil, run_ret, run_retN, run_drop, run_if, run_asg, run_brk, run_cont, run_raise, run_gN, run_C, run_var, run_m2, run_lnil, run_lcons, run_tup, run_bool, run_tru, run_and, run_or, run_not, run_andV, run_orV, run_notV, run_ifE, run_chain, run_neg, run_sl, run_no, run_some, run_call, run_callF, run_meth, run_subM, run_par, run_par3, run_aug, run_itA, run_fld, run_fldM, run_tyes, fAdd_i, fSub_i, fLt_i, fLe_i, fGt_i, fGe_i, fEq_i, fNe_i, fAbs_i, fInt_i, fInt_b, fEq_s, fNe_s, fEq_b, fMax2_i, fMin2_i, fIAdd_i, fTru_b, fTru_i, run_methF, List.getElem?_cons_succ, List.getElem?_cons_zero, List.length_cons, List.length_nil, List.set_cons_succ, List.set_cons_zero, if_true, if_false, Bool.false_eq_true, Bool.not_true, Bool.not_false, decide_true, decide_false, ite_true, ite_false, Nat.zero_add, Nat.reduceAdd, oR]
      have ix4 : fIx (.tup [.int f, .bl true]) (.int 0) h2 = .ok (.int f) h2 := rfl
      have c2 : mBool (m2 fNe (m2 fIx (mFld cs_words "words" (mVar 0)) (m2 fAdd (m2 fMul (mC (.int 16)) (m2 fIx (m2 fIx (mVar 1) (mVar 2)) (mC (.int 0)))) (mC (.int 3)))) (m2 fAdd (mC (.int 700)) (mVar 2))) [some (.ref P), some (.ref T), some (.int p)] h2 = .ok false h2 := by
        rw [run_bool, run_m2, run_m2, w_run g2.o rfl, bind_ok]
        simp only [bind_ok, bind_exn, bindS_ok, bindS_exn, then_next, then_ret, then_brk, then_cont, then_exn, only_next, only_exn, run_nil, run_ret, run_retN, run_drop, run_if, run_asg, run_brk, run_cont, run_raise, run_gN, run_C, run_var, run_m2, run_lnil, run_lcons, run_tup, run_bool, run_tru, run_and, run_or, run_not, run_andV, run_orV, run_notV, run_ifE, run_chain, run_neg, run_sl, run_no, run_some, run_call, run_callF, run_meth, run_subM, run_par, run_par3, run_aug, run_itA, run_fld, run_fldM, run_tyes, fAdd_i, fSub_i, fLt_i, fLe_i, fGt_i, fGe_i, fEq_i, fNe_i, fAbs_i, fInt_i, fInt_b, fEq_s, fNe_s, fEq_b, fMax2_i, fMin2_i, fIAdd_i, fTru_b, fTru_i, run_methF, List.getElem?_cons_succ, List.getElem?_cons_zero, List.length_cons, List.length_nil, List.set_cons_succ, List.set_cons_zero, if_true, if_false, Bool.false_eq_true, Bool.not_true, Bool.not_false, decide_true, decide_false, ite_true, ite_false, Nat.zero_add, Nat.reduceAdd, oR, ix2, ix4, m2', ix3]
      show sIf _ _ _ _ _ = _
      rw [run_if, run_or, c1, bind_ok, if_neg (by simp), c2]
      rfl
theorem written_loop {T : Nat} : ∀ (ps : Tb) (h : Hm) (asked missed : Int) (ws : List Int) (hp : List Int), Pg h P W Hd room asked missed ws tb hp → T ≠ P ∧ T ≠ W ∧ T ≠ Hd → h[T]? = some (.dicL (tb.map kvT)) → (∀ q ∈ ps, lookT tb q.1 ≠ none) → ∀ x2 : Option D,
    ∃ y2 h' k1 k2 hp' ws', forL [(T, .dicL (tb.map kvT))] (gN 2) l__law_written_0 (ps.map fun q => D.int q.1) [some (.ref P), some (.ref T), x2] h = .next [some (.ref P), some (.ref T), y2] h' ∧ Pg h' P W Hd room k1 k2 ws' tb hp' ∧ h'[T]? = some (.dicL (tb.map kvT)) ∧ KL [P, W, Hd] h h'
  | [], h, asked, missed, ws, hp, g, hT, eT, hq, x2 => ⟨x2, h, _, _, _, _, forL_nil (gdOk_one eT), g, eT, KL.refl⟩
  | q :: ps, h, asked, missed, ws, hp, g, hT, eT, hq, x2 => by
    obtain ⟨x, e⟩ : ∃ x, lookT tb q.1 = some x := by
      cases e : lookT tb q.1 with
      | none => exact absurd e (hq q List.mem_cons_self)
      | some x => exact ⟨x, rfl⟩
    obtain ⟨h1, a1, a2, hp1, ws1, run1, g1, eT1, k1⟩ := written_step g hT eT e
    obtain ⟨y2, h2, b1, b2, hp2, ws2, run2, g2, eT2, k2⟩ := written_loop ps h1 a1 a2 ws1 hp1 g1 hT eT1 (fun r hr => hq r (List.mem_cons_of_mem _ hr)) (some (.int q.1))
    exact ⟨y2, h2, _, _, _, _, forL_next (gdOk_one eT) rfl run1 run2, g2, eT2, k1.trans k2⟩
theorem lookT_self {tb : Tb} {q : Int × (Int × Bool)} (h : q ∈ tb) : lookT tb q.1 ≠ none := fun z => lookT_none z (List.mem_map.mpr ⟨q, h, rfl⟩)
theorem written_run {h : Hm} (g : Pg h P W Hd room asked missed ws tb hp) {T : Nat} (hT : T ≠ P ∧ T ≠ W ∧ T ≠ Hd) (eT : h[T]? = some (.dic (tb.map kvT))) :
    ∃ h' k1 k2 hp' ws', f__law_written [.ref P, .ref T] h = .ok (.bl true) h' ∧ Pg h' P W Hd room k1 k2 ws' tb hp' ∧ KL [P, W, Hd, T] h h' := by
  have lT := (List.getElem?_eq_some_iff.mp eT).1
  have k0 : KL [T] h (h.set T (.dicL (tb.map kvT))) := KL.set (by simp)
  have g0 := g.keep k0 (by simp; exact Ne.symm hT.1) (by simp; exact Ne.symm hT.2.1) (by simp; exact Ne.symm hT.2.2)
  have eT0 : (h.set T (.dicL (tb.map kvT)))[T]? = some (.dicL (tb.map kvT)) := List.getElem?_set_self lT
  obtain ⟨y2, h2, b1, b2, hp2, ws2, run2, g2, eT2, k2⟩ := written_loop tb _ asked missed ws hp g0 hT eT0 (fun q hq => lookT_self hq) none
  have k3 : KL [T] h2 (h2.set T (.dic (tb.map kvT))) := KL.set (by simp)
  refine ⟨h2.set T (.dic (tb.map kvT)), b1, b2, hp2, ws2, call_ret f__law_written_eq rfl (seq_next (e1 := [some (.ref P), some (.ref T), y2]) (h1 := h2.set T (.dic (tb.map kvT))) ?_ rfl), g2.keep k3 (by simp; exact Ne.symm hT.1) (by simp; exact Ne.symm hT.2.1) (by simp; exact Ne.symm hT.2.2), ?_⟩
  · show sLock 1 _ [some (.ref P), some (.ref T), none] h = _
    have fr : sFor (mKeysL 1) (gN 2) l__law_written_0 [some (.ref P), some (.ref T), none] (h.set T (.dicL (tb.map kvT))) = .next [some (.ref P), some (.ref T), y2] h2 := by
      refine for_run (it := ((tb.map kvT).map (fun p : Key × D => kD p.1), [(T, .dicL (tb.map kvT))])) ?_ run2 ?_
      · show (match (h.set T (.dicL (tb.map kvT)))[T]? with
          | some (.dicL kvs) => R.ok (kvs.map (fun p : Key × D => kD p.1), [(T, O.dicL kvs)]) (h.set T (.dicL (tb.map kvT)))
          | _ => .bad) = _
        rw [eT0]
      · show (tb.map kvT).map (fun p : Key × D => kD p.1) = _
        rw [List.map_map]
        rfl
    show (match h[T]? with
      | some (.dic kvs) => unlS T kvs (sFor (mKeysL 1) (gN 2) l__law_written_0 [some (.ref P), some (.ref T), none] (h.set T (.dicL kvs)))
      | _ => .bad) = _
    rw [eT]
    simp only [fr]
    show (if h2[T]? = some (.dicL (tb.map kvT)) then SR.next _ (h2.set T (.dic (tb.map kvT))) else .bad) = _
    rw [if_pos eT2]
  · have sb : ∀ x ∈ [P, W, Hd], x ∈ [P, W, Hd, T] := fun x hx => by
      simp only [List.mem_cons, List.not_mem_nil, or_false] at hx ⊢
      rcases hx with e | e | e <;> simp [e]
    exact ((k0.sub (S' := [P, W, Hd, T]) (by simp)).trans (k2.sub sb)).trans (k3.sub (by simp))
end
section
variable {P W Hd : Nat} {room asked missed : Int} {ws : List Int} {tb : Tb} {hp : List Int}
theorem ckM {h : Hm} (o : Ob h P W Hd room asked missed ws) {p : Int} {env : Ev} (e0 : env[0]? = some (some (.ref P))) (e1 : env[1]? = some (some (.int p))) : mMethF "Pages" "check_page" 2 f_Pages_check_page (mVar 0) (mCons (mVar 1) mNil) env h = if 0 ≤ p ∧ p < 256 then .ok .non h else .exn exOr h :=
  (meth_run (ds := [.int p]) (var_run e0) o.p rfl (by rw [run_lcons, var_run e1, bind_ok, run_lnil, bind_ok]) rfl).trans (check_run P p h)
theorem lay_out {h : Hm} (o : Ob h P W Hd room asked missed ws) {p : Int} (hp : ¬ (0 ≤ p ∧ p < 256)) : f_Pages_lay [.ref P, .int p, .int 3, .bl true] h = .exn exOr h := by
  have ck := ckM (env := [some (.ref P), some (.int p), some (.int 3), some (.bl true), none, none]) o rfl rfl
  rw [if_neg hp] at ck
  refine call_exn (e1 := [some (.ref P), some (.int p), some (.int 3), some (.bl true), none, none]) f_Pages_lay_eq rfl (seq_exn ?_)
  show sDrop _ [some (.ref P), some (.int p), some (.int 3), some (.bl true), none, none] h = _
  rw [run_drop, ck]
  rfl
theorem lay_20 {h : Hm} (g : Pg h P W Hd room asked missed ws tb hp) : f_Pages_lay [.ref P, .int 20, .int 3, .bl true] h = .exn exNo h := by
  have ck := ckM (env := [some (.ref P), some (.int 20), some (.int 3), some (.bl true), none, none]) g.o rfl rfl
  rw [if_pos ⟨by decide, by decide⟩] at ck
  have d1 := fun g => fd (x := 20) (y := 16) (h := g) (by decide) (by decide)
  have ix := ix_get g.o.w (k := 1) (by decide) (by rw [g.wf.len]; decide)
  rw [show (1 : Int).toNat = 1 from rfl, g.wf.nul 1 (by decide) (by decide)] at ix
  have e1 : (0 : Int) + 20 / 16 = 1 := by decide
  refine call_exn (e1 := [some (.ref P), some (.int 20), some (.int 3), some (.bl true), some (.int 0), none]) f_Pages_lay_eq rfl (seq_next (e1 := [some (.ref P), some (.int 20), some (.int 3), some (.bl true), none, none]) (h1 := h) ?_ (seq_next (e1 := [some (.ref P), some (.int 20), some (.int 3), some (.bl true), some (.int 0), none]) (h1 := h) ?_ (seq_exn ?_)))
  · show sDrop _ [some (.ref P), some (.int 20), some (.int 3), some (.bl true), none, none] h = _
    rw [run_drop, ck]
    rfl
  · refine asg_run ?_
    rw [run_m2, w_run g.o rfl, bind_ok, run_m2, rt_run g.o rfl, bind_ok]
    simp only [bind_ok, bind_exn, bindS_ok, bindS_exn, then_next, then_ret, then_brk, then_cont, then_exn, only_next, only_exn, run_nil, run_ret, run_retN, run_drop, run_if, run_asg, run_brk, run_cont, run_raise, run_gN, run_C, run_var, run_m2, run_lnil, run_lcons, run_tup, run_bool, run_tru, run_and, run_or, run_not, run_andV, run_orV, run_notV, run_ifE, run_chain, run_neg, run_sl, run_no, run_some, run_call, run_callF, run_meth, run_subM, run_par, run_par3, run_aug, run_itA, run_fld, run_fldM, run_tyes, fAdd_i, fSub_i, fLt_i, fLe_i, fGt_i, fGe_i, fEq_i, fNe_i, fAbs_i, fInt_i, fInt_b, fEq_s, fNe_s, fEq_b, fMax2_i, fMin2_i, fIAdd_i, fTru_b, fTru_i, run_methF, List.getElem?_cons_succ, List.getElem?_cons_zero, List.length_cons, List.length_nil, List.set_cons_succ, List.set_cons_zero, if_true, if_false, Bool.false_eq_true, Bool.not_true, Bool.not_false, decide_true, decide_false, ite_true, ite_false, Nat.zero_add, Nat.reduceAdd, oR, d1, e1, ix]
  · have f1 := frM (env := [some (.ref P), some (.int 20), some (.int 3), some (.bl true), some (.int 0), none]) g.o g.wf.len rfl (j := 4) (e := 0) rfl
    rw [show frP 0 = none from rfl] at f1
    rw [run_asg, run_m2, f1]
    rfl
theorem init_bad {H : Hm} {Q A : Nat} (eA : H[A]? = some (.lst [.int 0, .int 0, .int 0, .int 0, .int 0])) : f_Pages___init__ [.ref Q, .ref A, .int 0, .int 1] H = .exn exOr H := by
  have ln := fLen_lst eA
  have ln : fLen [.ref A] H = .ok (.int 5) H := ln
  have m1 := fun g => fm (x := 5) (y := 16) (h := g) (by decide)
  have e1 : ¬ (5 : Int) % 16 = 0 := by decide
  refine call_exn (e1 := [some (.ref Q), some (.ref A), some (.int 0), some (.int 1)]) f_Pages___init___eq rfl (seq_exn ?_)
  show sIf _ _ _ [some (.ref Q), some (.ref A), some (.int 0), some (.int 1)] H = _
  simp only [bind_ok, bind_exn, bindS_ok, bindS_exn, then_next, then_ret, then_brk, then_cont, then_exn, only_next, only_exn, run_nil, run_ret, run_retN, run_drop, run_if, run_asg, run_brk, run_cont, run_raise, run_gN, run_C, run_var, run_m2, run_lnil, run_lcons, run_tup, run_bool, run_tru, run_and, run_or, run_not, run_andV, run_orV, run_notV, run_ifE, run_chain, run_neg, run_sl, run_no, run_some, run_call, run_callF, run_meth, run_subM, run_par, run_par3, run_aug, run_itA, run_fld, run_fldM, run_tyes, fAdd_i, fSub_i, fLt_i, fLe_i, fGt_i, fGe_i, fEq_i, fNe_i, fAbs_i, fInt_i, fInt_b, fEq_s, fNe_s, fEq_b, fMax2_i, fMin2_i, fIAdd_i, fTru_b, fTru_i, run_methF, List.getElem?_cons_succ, List.getElem?_cons_zero, List.length_cons, List.length_nil, List.set_cons_succ, List.set_cons_zero, if_true, if_false, Bool.false_eq_true, Bool.not_true, Bool.not_false, decide_true, decide_false, ite_true, ite_false, Nat.zero_add, Nat.reduceAdd, oR, ln, m1, e1]
  rfl
theorem refused_run {h : Hm} (g : Pg h P W Hd room asked missed ws tb hp) : ∃ h', f__law_refused [.ref P] h = .ok (.bl true) h' ∧ KL [P] h h' := by
  have lt := g.lt
  -- forget
  obtain ⟨o1, e1, k1⟩ := forget_set (x := .lst []) g.o g.nw
  have fa := forget_all g.o
  obtain ⟨h1, hh1⟩ : ∃ h1 : Hm, h1 = (h ++ [O.lst []]).set P (.ins "Pages" (fl W h.length room asked missed)) := ⟨_, rfl⟩
  rw [← hh1] at o1 e1 k1 fa
  have g1 : Pg h1 P W h.length room asked missed ws tb [] := ⟨o1, g.wf, g.ok, e1, g.nw, by omega, by omega, g.r1, g.r4, by have := g.r1; show (0 : Int) ≤ room; omega⟩
  have S0 : p__law_refused_0 [some (.ref P), none] h = .next [some (.ref P), none] h1 := by
    have mm : mMethF "Pages" "forget" 2 f_Pages_forget (mVar 0) (mCons (mC .non) mNil) [some (.ref P), none] h = .ok .non h1 := (meth_run (ds := [.non]) (var_run rfl) g.o.p rfl rfl rfl).trans fa
    show sDrop _ _ _ = _
    rw [run_drop, mm]
    rfl
  -- held, far
  obtain ⟨h2, hh2⟩ : ∃ h2 : Hm, h2 = h1 ++ [.lst []] := ⟨_, rfl⟩
  have k2 : KL [P] h h2 := by rw [hh2]; exact k1.trans KL.app
  have g2 : Pg h2 P W h.length room asked missed ws tb [] := g1.keep (S := []) (by rw [hh2]; exact KL.app) (by simp) (by simp) (by simp)
  have e2 : h2[h1.length]? = some (.lst []) := by rw [hh2]; exact get_new
  have ne : fNe (.ref h.length) (.ref h1.length) h2 = .ok (.bl false) h2 := fNe_rints (l := []) g2.eH e2
  obtain ⟨h3, run3, o3, e3, kb3⟩ := found_ok g2.o g2.wf.len g2.eH g2.nw g2.nP g2.nW (by show 0 ≤ 100; decide) 4096 false g2.r1
  have fr : foundR (heldOf tb []) ws 4096 false = none := walk_far g2.wf (by decide) false
  have fh : newH (heldOf tb []) ws room 4096 false = [] := by
    unfold newH
    have w := walk_far g2.wf (a := 4096) (by decide) false
    rw [w]
    rfl
  rw [fr] at run3
  rw [fh] at e3
  have k3 : KL [P] h h3 := ⟨by have := k2.1; have := kb3.1; omega, fun j hj hn => (kb3.2 j (by simpa using hn) (by omega)).trans (k2.2 j hj hn)⟩
  have g3 : Pg h3 P W h.length room (asked + 1) (missed + missD (heldOf tb []) 4096) ws tb [] := ⟨o3, g.wf, g.ok, e3, g.nw, by omega, by omega, g.r1, g.r4, g1.hl⟩
  have S1 : p__law_refused_1 [some (.ref P), none] h1 = .next [some (.ref P), none] h3 := by
    have c1 : mBool (m2 fNe (mFld cs_held "held" (mVar 0)) (mLst mNil)) [some (.ref P), none] h1 = .ok false h2 := by
      rw [run_bool, run_m2, held_run o1 rfl, bind_ok, run_lst, run_lnil, bind_ok, bind_ok, ← hh2, ne]
      rfl
    have c2 : mTold told_cs (mMethF "Pages" "found_at" 3 f_Pages_found_at (mVar 0) (mCons (mC (.int 4096)) (mCons (mC (.str "read")) mNil))) [some (.ref P), none] h2 = .ok (.str "no way") h3 := by
      refine told_exn (x := exNo) ?_ rfl
      exact (meth_run (ds := [.int 4096, kS false]) (var_run rfl) g2.o.p rfl rfl rfl).trans run3
    show sIf _ _ _ _ _ = _
    rw [run_if, run_or, c1, bind_ok, if_neg (by simp), run_bool, run_m2, c2]
    simp only [bind_ok, bind_exn, bindS_ok, bindS_exn, then_next, then_ret, then_brk, then_cont, then_exn, only_next, only_exn, run_nil, run_ret, run_retN, run_drop, run_if, run_asg, run_brk, run_cont, run_raise, run_gN, run_C, run_var, run_m2, run_lnil, run_lcons, run_tup, run_bool, run_tru, run_and, run_or, run_not, run_andV, run_orV, run_notV, run_ifE, run_chain, run_neg, run_sl, run_no, run_some, run_call, run_callF, run_meth, run_subM, run_par, run_par3, run_aug, run_itA, run_fld, run_fldM, run_tyes, fAdd_i, fSub_i, fLt_i, fLe_i, fGt_i, fGe_i, fEq_i, fNe_i, fAbs_i, fInt_i, fInt_b, fEq_s, fNe_s, fEq_b, fMax2_i, fMin2_i, fIAdd_i, fTru_b, fTru_i, run_methF, List.getElem?_cons_succ, List.getElem?_cons_zero, List.length_cons, List.length_nil, List.set_cons_succ, List.set_cons_zero, if_true, if_false, Bool.false_eq_true, Bool.not_true, Bool.not_false, decide_true, decide_false, ite_true, ite_false, Nat.zero_add, Nat.reduceAdd, oR]
  -- lay far
  have S2 : p__law_refused_2 [some (.ref P), none] h3 = .next [some (.ref P), none] h3 := by
    have c2 : mTold told_cs (mMethF "Pages" "lay" 4 f_Pages_lay (mVar 0) (mCons (mC (.int 20)) (mCons (mC (.int 3)) (mCons (mC (.bl true)) mNil)))) [some (.ref P), none] h3 = .ok (.str "no way") h3 := by
      refine told_exn (x := exNo) ?_ rfl
      exact (meth_run (ds := [.int 20, .int 3, .bl true]) (var_run rfl) g3.o.p rfl rfl rfl).trans (lay_20 g3)
    show sIf _ _ _ _ _ = _
    rw [run_if, run_bool, run_m2, c2]
    simp only [bind_ok, bind_exn, bindS_ok, bindS_exn, then_next, then_ret, then_brk, then_cont, then_exn, only_next, only_exn, run_nil, run_ret, run_retN, run_drop, run_if, run_asg, run_brk, run_cont, run_raise, run_gN, run_C, run_var, run_m2, run_lnil, run_lcons, run_tup, run_bool, run_tru, run_and, run_or, run_not, run_andV, run_orV, run_notV, run_ifE, run_chain, run_neg, run_sl, run_no, run_some, run_call, run_callF, run_meth, run_subM, run_par, run_par3, run_aug, run_itA, run_fld, run_fldM, run_tyes, fAdd_i, fSub_i, fLt_i, fLe_i, fGt_i, fGe_i, fEq_i, fNe_i, fAbs_i, fInt_i, fInt_b, fEq_s, fNe_s, fEq_b, fMax2_i, fMin2_i, fIAdd_i, fTru_b, fTru_i, run_methF, List.getElem?_cons_succ, List.getElem?_cons_zero, List.length_cons, List.length_nil, List.set_cons_succ, List.set_cons_zero, if_true, if_false, Bool.false_eq_true, Bool.not_true, Bool.not_false, decide_true, decide_false, ite_true, ite_false, Nat.zero_add, Nat.reduceAdd, oR]
  -- pages out
  obtain ⟨h4, hh4⟩ : ∃ h4 : Hm, h4 = h3 ++ [.lst [.int 256, .int (-1)]] := ⟨_, rfl⟩
  have k4 : KL [P] h h4 := by rw [hh4]; exact k3.trans KL.app
  have e4 : h4[h3.length]? = some (.lst [.int 256, .int (-1)]) := by rw [hh4]; exact get_new
  have g4 : Pg h4 P W h.length room (asked + 1) (missed + missD (heldOf tb []) 4096) ws tb [] := g3.keep (S := []) (by rw [hh4]; exact KL.app) (by simp) (by simp) (by simp)
  have st : ∀ p : Int, ¬ (0 ≤ p ∧ p < 256) → l__law_refused_0 [some (.ref P), some (.int p)] h4 = .next [some (.ref P), some (.int p)] h4 := fun p hp => by
    have c2 : mTold told_cs (mMethF "Pages" "lay" 4 f_Pages_lay (mVar 0) (mCons (mVar 1) (mCons (mC (.int 3)) (mCons (mC (.bl true)) mNil)))) [some (.ref P), some (.int p)] h4 = .ok (.str "order") h4 := by
      refine told_exn (x := exOr) ?_ rfl
      exact (meth_run (ds := [.int p, .int 3, .bl true]) (var_run rfl) g4.o.p rfl rfl rfl).trans (lay_out g4.o hp)
    show sIf _ _ _ _ _ = _
    rw [run_if, run_bool, run_m2, c2]
    simp only [bind_ok, bind_exn, bindS_ok, bindS_exn, then_next, then_ret, then_brk, then_cont, then_exn, only_next, only_exn, run_nil, run_ret, run_retN, run_drop, run_if, run_asg, run_brk, run_cont, run_raise, run_gN, run_C, run_var, run_m2, run_lnil, run_lcons, run_tup, run_bool, run_tru, run_and, run_or, run_not, run_andV, run_orV, run_notV, run_ifE, run_chain, run_neg, run_sl, run_no, run_some, run_call, run_callF, run_meth, run_subM, run_par, run_par3, run_aug, run_itA, run_fld, run_fldM, run_tyes, fAdd_i, fSub_i, fLt_i, fLe_i, fGt_i, fGe_i, fEq_i, fNe_i, fAbs_i, fInt_i, fInt_b, fEq_s, fNe_s, fEq_b, fMax2_i, fMin2_i, fIAdd_i, fTru_b, fTru_i, run_methF, List.getElem?_cons_succ, List.getElem?_cons_zero, List.length_cons, List.length_nil, List.set_cons_succ, List.set_cons_zero, if_true, if_false, Bool.false_eq_true, Bool.not_true, Bool.not_false, decide_true, decide_false, ite_true, ite_false, Nat.zero_add, Nat.reduceAdd, oR]
  have S3 : p__law_refused_3 [some (.ref P), none] h3 = .next [some (.ref P), some (.int (-1))] h4 := by
    have it := itL_lst e4
    have m1 : mItA (mLst (mCons (mC (.int 256)) (mCons (m2 fSub (mC (.int 0)) (mC (.int 1))) mNil))) [some (.ref P), none] h3 = .ok ([.int 256, .int (-1)], [(h3.length, .lst [.int 256, .int (-1)])]) h4 := by
      have ml : mLst (mCons (mC (.int 256)) (mCons (m2 fSub (mC (.int 0)) (mC (.int 1))) mNil)) [some (.ref P), none] h3 = .ok (.ref h3.length) h4 := by
        rw [hh4]
        rfl
      rw [run_itA, ml, bind_ok]
      simp only [it, oR]
    refine for_run (it := ([.int 256, .int (-1)], [(h3.length, .lst [.int 256, .int (-1)])])) m1 ?_
    exact forL_next (gdOk_one e4) rfl (st 256 (by decide)) (forL_next (gdOk_one e4) rfl (st (-1) (by decide)) (forL_nil (gdOk_one e4)))
  have S4 : p__law_refused_4 [some (.ref P), some (.int (-1))] h4 = .next [some (.ref P), some (.int (-1))] h4 := by
    have c2 : mTold told_cs (mCallF 2 f_entry_of (mCons (mC (.int 64)) (mCons (mC (.bl true)) mNil))) [some (.ref P), some (.int (-1))] h4 = .ok (.str "order") h4 := by
      refine told_exn (x := exOr) ?_ rfl
      have er := entry_run 64 true h4
      rw [if_neg (by decide)] at er
      simp only [bind_ok, bind_exn, bindS_ok, bindS_exn, then_next, then_ret, then_brk, then_cont, then_exn, only_next, only_exn, run_nil, run_ret, run_retN, run_drop, run_if, run_asg, run_brk, run_cont, run_raise, run_gN, run_C, run_var, run_m2, run_lnil, run_lcons, run_tup, run_bool, run_tru, run_and, run_or, run_not, run_andV, run_orV, run_notV, run_ifE, run_chain, run_neg, run_sl, run_no, run_some, run_call, run_callF, run_meth, run_subM, run_par, run_par3, run_aug, run_itA, run_fld, run_fldM, run_tyes, fAdd_i, fSub_i, fLt_i, fLe_i, fGt_i, fGe_i, fEq_i, fNe_i, fAbs_i, fInt_i, fInt_b, fEq_s, fNe_s, fEq_b, fMax2_i, fMin2_i, fIAdd_i, fTru_b, fTru_i, run_methF, List.getElem?_cons_succ, List.getElem?_cons_zero, List.length_cons, List.length_nil, List.set_cons_succ, List.set_cons_zero, if_true, if_false, Bool.false_eq_true, Bool.not_true, Bool.not_false, decide_true, decide_false, ite_true, ite_false, Nat.zero_add, Nat.reduceAdd, oR, er]
    show sIf _ _ _ _ _ = _
    rw [run_if, run_bool, run_m2, c2]
    simp only [bind_ok, bind_exn, bindS_ok, bindS_exn, then_next, then_ret, then_brk, then_cont, then_exn, only_next, only_exn, run_nil, run_ret, run_retN, run_drop, run_if, run_asg, run_brk, run_cont, run_raise, run_gN, run_C, run_var, run_m2, run_lnil, run_lcons, run_tup, run_bool, run_tru, run_and, run_or, run_not, run_andV, run_orV, run_notV, run_ifE, run_chain, run_neg, run_sl, run_no, run_some, run_call, run_callF, run_meth, run_subM, run_par, run_par3, run_aug, run_itA, run_fld, run_fldM, run_tyes, fAdd_i, fSub_i, fLt_i, fLe_i, fGt_i, fGe_i, fEq_i, fNe_i, fAbs_i, fInt_i, fInt_b, fEq_s, fNe_s, fEq_b, fMax2_i, fMin2_i, fIAdd_i, fTru_b, fTru_i, run_methF, List.getElem?_cons_succ, List.getElem?_cons_zero, List.length_cons, List.length_nil, List.set_cons_succ, List.set_cons_zero, if_true, if_false, Bool.false_eq_true, Bool.not_true, Bool.not_false, decide_true, decide_false, ite_true, ite_false, Nat.zero_add, Nat.reduceAdd, oR]
  obtain ⟨h5, hh5⟩ : ∃ h5 : Hm, h5 = h4 ++ [O.lst [.int 0]] ++ [O.lst [.int 0, .int 0, .int 0, .int 0, .int 0]] ++ [O.ins "Pages" []] := ⟨_, rfl⟩
  have k5 : KL [P] h h5 := by rw [hh5]; exact ((k4.trans KL.app).trans KL.app).trans KL.app
  have S5 : p__law_refused_5 [some (.ref P), some (.int (-1))] h4 = .next [some (.ref P), some (.int (-1))] h5 := by
    have c2 : mTold told_cs (mMake "Pages" 4 f_Pages___init__ (mCons (m2 fMul (mLst (mCons (mC (.int 0)) mNil)) (mC (.int 5))) (mCons (mC (.int 0)) (mCons (mC (.int 1)) mNil)))) [some (.ref P), some (.int (-1))] h4 = .ok (.str "order") h5 := by
      refine told_exn (x := exOr) ?_ rfl
      have gn : (h4 ++ [O.lst [D.int 0]])[h4.length]? = some (.lst [.int 0]) := get_new
      have ml : m2 fMul (mLst (mCons (mC (.int 0)) mNil)) (mC (.int 5)) [some (.ref P), some (.int (-1))] h4 = .ok (.ref (h4.length + 1)) (h4 ++ [O.lst [.int 0]] ++ [O.lst [.int 0, .int 0, .int 0, .int 0, .int 0]]) := by
        rw [run_m2, run_lst, run_lcons, run_C, bind_ok, run_lnil, bind_ok, bind_ok, bind_ok, run_C, bind_ok]
        unfold fMul
        simp only [gn]
        rw [if_pos ⟨by decide, by decide, by decide⟩, List.length_append, List.length_singleton]
        rfl
      have eA : h5[h4.length + 1]? = some (.lst [.int 0, .int 0, .int 0, .int 0, .int 0]) := by
        rw [hh5]
        refine keep_app ?_
        have := get_new (h := h4 ++ [O.lst [D.int 0]]) (o := .lst [.int 0, .int 0, .int 0, .int 0, .int 0])
        rwa [List.length_append, List.length_singleton] at this
      have ib := init_bad (Q := (h4 ++ [O.lst [D.int 0]] ++ [O.lst [D.int 0, D.int 0, D.int 0, D.int 0, D.int 0]]).length) eA
      rw [run_make, run_lcons, ml, bind_ok, run_lcons, run_C, bind_ok, run_lcons, run_C, bind_ok, run_lnil, bind_ok, bind_ok, bind_ok, bind_ok, if_pos (by rfl), ← hh5, ib]
    show sIf _ _ _ _ _ = _
    rw [run_if, run_bool, run_m2, c2]
    simp only [bind_ok, bind_exn, bindS_ok, bindS_exn, then_next, then_ret, then_brk, then_cont, then_exn, only_next, only_exn, run_nil, run_ret, run_retN, run_drop, run_if, run_asg, run_brk, run_cont, run_raise, run_gN, run_C, run_var, run_m2, run_lnil, run_lcons, run_tup, run_bool, run_tru, run_and, run_or, run_not, run_andV, run_orV, run_notV, run_ifE, run_chain, run_neg, run_sl, run_no, run_some, run_call, run_callF, run_meth, run_subM, run_par, run_par3, run_aug, run_itA, run_fld, run_fldM, run_tyes, fAdd_i, fSub_i, fLt_i, fLe_i, fGt_i, fGe_i, fEq_i, fNe_i, fAbs_i, fInt_i, fInt_b, fEq_s, fNe_s, fEq_b, fMax2_i, fMin2_i, fIAdd_i, fTru_b, fTru_i, run_methF, List.getElem?_cons_succ, List.getElem?_cons_zero, List.length_cons, List.length_nil, List.set_cons_succ, List.set_cons_zero, if_true, if_false, Bool.false_eq_true, Bool.not_true, Bool.not_false, decide_true, decide_false, ite_true, ite_false, Nat.zero_add, Nat.reduceAdd, oR]
  exact ⟨h5, call_ret f__law_refused_eq rfl (seq_next S0 (seq_next S1 (seq_next S2 (seq_next S3 (seq_next S4 (seq_next S5 rfl)))))), k5⟩
end
theorem inF_int (x : Int) : ∀ l : List Int, inF (.int x) (l.map D.int) = decide (x ∈ l)
  | [] => by simp [inF]
  | y :: l => by
    have ih := inF_int x l
    unfold inF at ih ⊢
    rw [List.map_cons, List.any_cons, ih]
    by_cases h : y = x
    · subst h
      simp [eqF]
    · have h2 : ¬ x = y := fun z => h z.symm
      simp [eqF, h, h2]
theorem flat_ints : ∀ l : List Int, (l.map D.int).all flatD = true
  | [] => rfl
  | y :: l => by rw [List.map_cons, List.all_cons, flat_ints l]; rfl
theorem fIn_t {h : Hm} {r : Nat} {l : List Int} (e : h[r]? = some (.lst (l.map D.int))) (x : Int) : fIn true (.int x) (.ref r) h = .ok (.bl (!decide (x ∈ l))) h := by
  unfold fIn
  simp only [e, flat_ints, flatD, inF_int, and_self, if_true]
theorem fIn_T {tb : Tb} {h : Hm} {T : Nat} (e : h[T]? = some (.dic (tb.map kvT))) (p : Int) : fIn false (.int p) (.ref T) h = .ok (.bl (lookT tb p).isSome) h := by
  unfold fIn
  simp only [e, keyD, getK_T, Option.isSome_map, Bool.false_eq_true, if_false]
theorem putDK_T (tb : Tb) (p f : Int) (w : Bool) : putDK (tb.map kvT) (.inl p) (.tup [.int f, .bl w]) = (putT tb p (f, w)).map kvT := by
  unfold putDK putT
  have a : ((tb.map kvT).any fun kv => decide (kv.1 = Sum.inl p)) = tb.any fun q => decide (q.1 = p) := by
    rw [List.any_map]
    congr 1
    funext q
    simp [kvT]
  rw [a]
  split
  · rw [List.map_map, List.map_map]
    apply List.map_congr_left
    intro q _
    by_cases c : q.1 = p
    · simp [kvT, c]
    · simp [kvT, c]
  · rw [List.map_append]
    rfl
theorem fold_T : ∀ (ps tb : Tb), ((tb ++ ps).map (·.1)).Nodup → (ps.map kvT).foldl (fun c q => putDK c q.1 q.2) (tb.map kvT) = (tb ++ ps).map kvT
  | [], tb, _ => by rw [List.append_nil]; rfl
  | q :: ps, tb, nd => by
    obtain ⟨p, f, w⟩ := q
    rw [List.map_cons, List.foldl_cons]
    show (ps.map kvT).foldl _ (putDK (tb.map kvT) (.inl p) (.tup [.int f, .bl w])) = _
    have e : lookT tb p = none := by
      cases z : lookT tb p with
      | none => rfl
      | some x =>
        have m := lookT_mem z
        rw [List.map_append, List.nodup_append] at nd
        exact absurd rfl (nd.2.2 p (List.mem_map.mpr ⟨_, m, rfl⟩) p (by simp))
    have pt : putT tb p (f, w) = tb ++ [(p, (f, w))] := by
      unfold putT
      rw [lookT_any, e, if_neg (by simp)]
    rw [putDK_T, pt, fold_T ps (tb ++ [(p, (f, w))]) (by rw [List.append_assoc]; exact nd), List.append_assoc]
    rfl
def prT (q : Int × (Int × Bool)) : D := .tup [.int q.1, .tup [.int q.2.1, .bl q.2.2]]
theorem pairs_T : ∀ tb : Tb, mapO pairD (tb.map prT) = some (tb.map kvT)
  | [] => rfl
  | q :: tb => by
    rw [List.map_cons, List.map_cons]
    unfold mapO
    rw [pairs_T tb]
    rfl
theorem fDict_T {tb : Tb} (nd : (tb.map (·.1)).Nodup) {h : Hm} {r : Nat} (e : h[r]? = some (.lst (tb.map prT))) : fDict [.ref r] h = .ok (.ref h.length) (h ++ [.dic (tb.map kvT)]) := by
  unfold fDict
  simp only [e, pairs_T]
  have := fold_T tb [] (by simpa using nd)
  rw [List.nil_append] at this
  rw [show ([] : List (Key × D)) = ([] : Tb).map kvT from rfl, this]
theorem putT_len (tb : Tb) (p : Int) (x : Int × Bool) : (putT tb p x).length ≤ tb.length + 1 := by
  unfold putT
  split
  · rw [List.length_map]; omega
  · rw [List.length_append]; exact Nat.le_refl _
theorem lookT_nd : ∀ {tb : Tb}, (tb.map (·.1)).Nodup → ∀ {q : Int × (Int × Bool)}, q ∈ tb → lookT tb q.1 = some q.2
  | [], _, q, h => by cases h
  | r :: tb, nd, q, h => by
    rw [List.map_cons, List.nodup_cons] at nd
    rw [lookT_cons]
    rcases List.mem_cons.mp h with rfl | h
    · rw [if_pos rfl]
    · have : ¬ r.1 = q.1 := fun z => nd.1 (List.mem_map.mpr ⟨q, h, z.symm⟩)
      rw [if_neg this]
      exact lookT_nd nd.2 h
theorem fm_congr {α β : Type} {f g : α → Option β} : ∀ {l : List α}, (∀ a ∈ l, f a = g a) → l.filterMap f = l.filterMap g
  | [], _ => rfl
  | a :: l, w => by
    rw [List.filterMap_cons, List.filterMap_cons, w a List.mem_cons_self, fm_congr fun b hb => w b (List.mem_cons_of_mem _ hb)]
theorem held_lc {env : Ev} {h : Hm} {L : Nat} {hp : List Int} {p : Int} (hl : env.length = 20) (e7 : env[7]? = some (some (.ref L))) (e10 : env[10]? = some (some (.int p))) (eL : h[L]? = some (.lst (hp.map D.int))) (h100 : hp.length ≤ 1000) :
    mLc [18] (mItA (mVar 7)) (gN 18) (mBool (m2 fNe (mVar 18) (mVar 10))) (mVar 18) env h = .ok (.ref h.length) (h ++ [.lst ((hp.filter fun q => !decide (q = p)).map D.int)]) := by
  have it := itL_lst eL
  have m1 : mItA (mVar 7) env h = .ok (hp.map D.int, [(L, .lst (hp.map D.int))]) h := by
    rw [run_itA, var_run e7, bind_ok]
    simp only [it, oR]
  have R := lcL_pure (gs := [(L, .lst (hp.map D.int))]) (g := gN 18) (t := mBool (m2 fNe (mVar 18) (mVar 10))) (e := mVar 18) (env := wipeE env [18]) (h := h) (gdOk_one eL) D.int (fun q => if q = p then none else some (.int q)) hp fun q _ => by
    have w18 : ((wipeE env [18]).set 18 (some (.int q)))[18]? = some (some (.int q)) := List.getElem?_set_self (by simp [wipeE, hl])
    have w10 : ((wipeE env [18]).set 18 (some (.int q)))[10]? = some (some (.int p)) := by
      rw [List.getElem?_set_ne (by decide)]
      simp only [wipeE]
      rw [List.getElem?_set_ne (by decide)]
      exact e10
    have ct : mBool (m2 fNe (mVar 18) (mVar 10)) ((wipeE env [18]).set 18 (some (.int q))) h = .ok (!decide (q = p)) h := by
      rw [run_bool, run_m2, var_run w18, bind_ok, var_run w10, bind_ok, fNe_i, bind_ok]
    simp only [lcTurn, run_gN, ct]
    by_cases c : q = p
    · simp only [c, decide_true, Bool.not_true, if_true]
    · simp only [c, decide_false, Bool.not_false, if_false]
      rw [var_run w18]
  have fe : hp.filterMap (fun q => if q = p then none else some (D.int q)) = (hp.filter fun q => !decide (q = p)).map D.int := by
    rw [← List.filterMap_eq_filter, List.map_filterMap]
    congr 1
    funext q
    by_cases c : q = p <;> simp [c, Option.guard]
  rw [fe] at R
  exact lc_run (vs := [18]) (env := env) (ds := hp.map D.int) (gs := [(L, .lst (hp.map D.int))]) m1 (by rw [List.length_map]; exact h100) R
theorem table_lc {env : Ev} {h : Hm} {T : Nat} {tb : Tb} {p : Int} (hl : env.length = 20) (e4 : env[4]? = some (some (.ref T))) (e10 : env[10]? = some (some (.int p))) (eT : h[T]? = some (.dic (tb.map kvT))) (nd : (tb.map (·.1)).Nodup) (h100 : tb.length ≤ 1000) :
    mCall fDict (mCons (mLock 4 (mLc [18] (mKeysL 4) (gN 18) (mBool (m2 fNe (mVar 18) (mVar 10))) (mTup (mCons (mVar 18) (mCons (m2 fIx (mVar 4) (mVar 18)) mNil))))) mNil) env h = .ok (.ref (h.length + 1)) (h ++ [.lst ((delT tb p).map prT)] ++ [.dic ((delT tb p).map kvT)]) := by
  have lT := (List.getElem?_eq_some_iff.mp eT).1
  obtain ⟨h1, hh1⟩ : ∃ h1 : Hm, h1 = h.set T (.dicL (tb.map kvT)) := ⟨_, rfl⟩
  have eT1 : h1[T]? = some (.dicL (tb.map kvT)) := by rw [hh1]; exact List.getElem?_set_self lT
  have l1 : h1.length = h.length := by rw [hh1, List.length_set]
  have m1 : mKeysL 4 env h1 = .ok (tb.map (fun q => D.int q.1), [(T, .dicL (tb.map kvT))]) h1 := by
    unfold mKeysL
    rw [e4]
    simp only [eT1]
    rw [List.map_map]
    rfl
  have R := lcL_pure (gs := [(T, .dicL (tb.map kvT))]) (g := gN 18) (t := mBool (m2 fNe (mVar 18) (mVar 10))) (e := mTup (mCons (mVar 18) (mCons (m2 fIx (mVar 4) (mVar 18)) mNil))) (env := wipeE env [18]) (h := h1) (gdOk_one eT1) (fun q : Int × (Int × Bool) => D.int q.1) (fun q => if q.1 = p then none else (lookT tb q.1).map fun x => prT (q.1, x)) tb fun q hq => by
    have w18 : ((wipeE env [18]).set 18 (some (.int q.1)))[18]? = some (some (.int q.1)) := List.getElem?_set_self (by simp [wipeE, hl])
    have w10 : ((wipeE env [18]).set 18 (some (.int q.1)))[10]? = some (some (.int p)) := by
      rw [List.getElem?_set_ne (by decide)]
      simp only [wipeE]
      rw [List.getElem?_set_ne (by decide)]
      exact e10
    have w4 : ((wipeE env [18]).set 18 (some (.int q.1)))[4]? = some (some (.ref T)) := by
      rw [List.getElem?_set_ne (by decide)]
      simp only [wipeE]
      rw [List.getElem?_set_ne (by decide)]
      exact e4
    obtain ⟨x, ex⟩ : ∃ x, lookT tb q.1 = some x := by
      cases e : lookT tb q.1 with
      | none => exact absurd e (lookT_self hq)
      | some x => exact ⟨x, rfl⟩
    have ix := ixL (.inl eT1) ex
    by_cases c : q.1 = p
    · simp only [lcTurn, run_gN]
      have ct : mBool (m2 fNe (mVar 18) (mVar 10)) ((wipeE env [18]).set 18 (some (.int q.1))) h1 = .ok false h1 := by
        rw [run_bool, run_m2, var_run w18, bind_ok, var_run w10, bind_ok, fNe_i, bind_ok]
        simp [c]
      rw [ct, if_pos c]
    · simp only [lcTurn, run_gN]
      have ct : mBool (m2 fNe (mVar 18) (mVar 10)) ((wipeE env [18]).set 18 (some (.int q.1))) h1 = .ok true h1 := by
        rw [run_bool, run_m2, var_run w18, bind_ok, var_run w10, bind_ok, fNe_i, bind_ok]
        simp [c]
      rw [ct]
      simp only
      rw [run_tup, run_lcons, var_run w18, bind_ok, run_lcons, run_m2, var_run w4, bind_ok, var_run w18, bind_ok, ix, bind_ok, run_lnil, bind_ok, bind_ok, bind_ok, if_neg c, ex]
      rfl
  have fe : tb.filterMap (fun q => if q.1 = p then none else (lookT tb q.1).map fun x => prT (q.1, x)) = (delT tb p).map prT := by
    unfold delT
    rw [← List.filterMap_eq_filter, List.map_filterMap]
    refine fm_congr fun q hq => ?_
    have : lookT tb q.1 = some q.2 := by
      have := lookT_nd nd hq
      exact this
    by_cases c : q.1 = p <;> simp [c, this, Option.guard]
  rw [fe] at R
  have lc := lc_run (vs := [18]) (env := env) (ds := tb.map fun q => D.int q.1) (gs := [(T, .dicL (tb.map kvT))]) m1 (by rw [List.length_map]; exact h100) R
  have back : (h1 ++ [O.lst ((delT tb p).map prT)]).set T (.dic (tb.map kvT)) = h ++ [.lst ((delT tb p).map prT)] := by
    rw [List.set_append_left _ _ (by omega), hh1, List.set_set, set_self eT]
  have lk : mLock 4 (mLc [18] (mKeysL 4) (gN 18) (mBool (m2 fNe (mVar 18) (mVar 10))) (mTup (mCons (mVar 18) (mCons (m2 fIx (mVar 4) (mVar 18)) mNil)))) env h = .ok (.ref h.length) (h ++ [.lst ((delT tb p).map prT)]) := by
    unfold mLock
    rw [e4]
    simp only [eT]
    rw [← hh1, lc]
    show (if (h1 ++ [O.lst ((delT tb p).map prT)])[T]? = some (.dicL (tb.map kvT)) then MM.R.ok (D.ref h1.length) ((h1 ++ [O.lst ((delT tb p).map prT)]).set T (.dic (tb.map kvT))) else MM.R.bad) = _
    rw [if_pos (keep_app eT1), back, l1]
  have fdt := fDict_T (tb := delT tb p) (h := h ++ [.lst ((delT tb p).map prT)]) (r := h.length) (by unfold delT; exact nd.sublist ((List.filter_sublist (l := tb)).map _)) get_new
  rw [List.length_append, List.length_singleton] at fdt
  rw [run_call, run_lcons, lk, bind_ok, run_lnil, bind_ok, bind_ok, fdt]
structure LI (hb : Hm) (i : Nat) (h : Hm) (P W Hd T L : Nat) (room asked missed : Int) (ws : List Int) (tb : Tb) (hp : List Int) : Prop where
  g : Pg h P W Hd room asked missed ws tb hp
  eT : h[T]? = some (.dic (tb.map kvT))
  eL : h[L]? = some (.lst (hp.map D.int))
  d : IsDice h i
  fr : Fr i hb h
  bi : i < hb.length
  bP : hb.length ≤ P
  bW : hb.length ≤ W
  bH : hb.length ≤ Hd
  bT : hb.length ≤ T
  bL : hb.length ≤ L
  nT : T ≠ P ∧ T ≠ W ∧ T ≠ Hd
  nL : L ≠ P ∧ L ≠ W ∧ L ≠ Hd ∧ L ≠ T
theorem Fr.kl {i : Nat} {h h' : Hm} (f : Fr i h h') : KL [i] h h' := ⟨f.1, fun j x y => f.2 j x fun z => y (by simp [z])⟩
theorem fr_kl {i : Nat} {hb h h' : Hm} {S : List Nat} (f : Fr i hb h) (k : KL S h h') (w : ∀ x ∈ S, x = i ∨ hb.length ≤ x) : Fr i hb h' :=
  ⟨Nat.le_trans f.1 k.1, fun j x y => (k.2 j (Nat.lt_of_lt_of_le x f.1) fun z => (w j z).elim y fun q => absurd x (Nat.not_lt.mpr q)).trans (f.2 j x y)⟩
theorem IsDice.kl {h h' : Hm} {i : Nat} {S : List Nat} (d : IsDice h i) (k : KL S h h') (n : i ∉ S) : IsDice h' i := by
  obtain ⟨a, b, m, e⟩ := d
  exact ⟨a, b, m, k.get e n⟩
section
variable {hb : Hm} {i P W Hd T L : Nat} {room asked missed : Int} {ws : List Int} {tb : Tb} {hp : List Int}
theorem LI.roll {h : Hm} (l : LI hb i h P W Hd T L room asked missed ws tb hp) {many : Int} (h1 : 0 < many) (h2 : many < 1000000) :
    ∃ v h', 0 ≤ v ∧ v < many ∧ f__law_roll [.ref i, .int many] h = .ok (.int v) h' ∧ LI hb i h' P W Hd T L room asked missed ws tb hp := by
  obtain ⟨v, h', v1, v2, rn, d', l', f'⟩ := roll_fr l.d h1 (by omega)
  have k := Fr.kl f'
  have b := l.bi
  have b1 := l.bP
  have b2 := l.bW
  have b3 := l.bH
  have b4 := l.bT
  have b5 := l.bL
  exact ⟨v, h', v1, v2, rn, ⟨l.g.keep k (by simp; omega) (by simp; omega) (by simp; omega), k.get l.eT (by simp; omega), k.get l.eL (by simp; omega), d', fr_kl l.fr k (by simp), b, b1, b2, b3, b4, b5, l.nT, l.nL⟩⟩
/-- garbage is laid -/
theorem LI.app {h x : Hm} (l : LI hb i h P W Hd T L room asked missed ws tb hp) : LI hb i (h ++ x) P W Hd T L room asked missed ws tb hp :=
  ⟨l.g.keep (S := []) KL.app (by simp) (by simp) (by simp), keep_app l.eT, keep_app l.eL, l.d.app, l.fr.app2, l.bi, l.bP, l.bW, l.bH, l.bT, l.bL, l.nT, l.nL⟩
theorem LI.lens {h : Hm} (l : LI hb i h P W Hd T L room asked missed ws tb hp) : hb.length ≤ h.length ∧ T < h.length ∧ L < h.length ∧ P < h.length ∧ W < h.length ∧ Hd < h.length :=
  ⟨l.fr.1, (List.getElem?_eq_some_iff.mp l.eT).1, (List.getElem?_eq_some_iff.mp l.eL).1, l.g.lt.1, l.g.lt.2.1, l.g.lt.2.2⟩
theorem LI.hp100 {h : Hm} (l : LI hb i h P W Hd T L room asked missed ws tb hp) : hp.length ≤ 4 := by
  have := l.g.hl
  have := l.g.r4
  omega
/-- laid -/
theorem case_lay {h : Hm} (l : LI hb i h P W Hd T L room asked missed ws tb hp) (htb : tb.length ≤ 900) {d x5 x9 x11 x12 x13 x14 x15 x16 x17 x18 x19 : Option D} {p : Int} (p0 : 0 ≤ p) (p5 : p < 5) :
    ∃ y13 y14 h' Hd' L' ws' tb' hp', sSeq t_law_2 (sSeq t_law_3 (sSeq t_law_4 t_law_5)) [d, some (.ref i), some (.int room), some (.ref P), some (.ref T), x5, some (.int asked), some (.ref L), some (.int missed), x9, some (.int p), x11, x12, x13, x14, x15, x16, x17, x18, x19] h =
        .next [d, some (.ref i), some (.int room), some (.ref P), some (.ref T), x5, some (.int asked), some (.ref L'), some (.int missed), x9, some (.int p), x11, x12, y13, y14, x15, x16, x17, x18, x19] h' ∧ LI hb i h' P W Hd' T L' room asked missed ws' tb' hp' ∧ tb'.length ≤ tb.length + 1 := by
  obtain ⟨v, h1, v0, v1, r1, l1⟩ := l.roll (many := 10) (by decide) (by decide)
  obtain ⟨u, h2, u0, u1, r2, l2⟩ := l1.roll (many := 2) (by decide) (by decide)
  obtain ⟨h3, ws', r3, g3, k3⟩ := lay_pg l2.g (f := 2 + v) (w := decide (u = 0)) p0 p5 (by omega) (by omega)
  have ln := l2.lens
  have b1 := l2.bP
  have b2 := l2.bW
  have b3 := l2.bH
  have b4 := l2.bT
  have b5 := l2.bL
  have nT := l2.nT
  have nL := l2.nL
  have bi := l2.bi
  have eT3 := k3.get l2.eT (by simp; omega)
  have eL3 := k3.get l2.eL (by simp; omega)
  have d3 := IsDice.kl l2.d k3 (by simp; omega)
  have f3 := fr_kl l2.fr k3 (by simp; omega)
  -- the table
  obtain ⟨h4, hh4⟩ : ∃ h4 : Hm, h4 = h3.set T (.dic ((putT tb p (2 + v, decide (u = 0))).map kvT)) := ⟨_, rfl⟩
  have k4 : KL [T] h3 h4 := by rw [hh4]; exact KL.set (by simp)
  have lT3 := (List.getElem?_eq_some_iff.mp eT3).1
  have eT4 : h4[T]? = some (.dic ((putT tb p (2 + v, decide (u = 0))).map kvT)) := by rw [hh4]; exact List.getElem?_set_self lT3
  have g4 := g3.keep k4 (by simp; omega) (by simp; omega) (by simp; omega)
  have eL4 := k4.get eL3 (by simp; omega)
  have d4 := IsDice.kl d3 k4 (by simp; omega)
  have f4 := fr_kl f3 k4 (by simp; omega)
  have hlc := fun (x : Ev) a b c => held_lc (env := x) (p := p) a b c eL4 (by have := l.hp100; omega)
  refine ⟨some (.int (2 + v)), some (.bl (decide (u = 0))), h4 ++ [.lst ((hp.filter fun q => !decide (q = p)).map D.int)], h2.length, h4.length, ws', putT tb p (2 + v, decide (u = 0)), hp.filter fun q => !decide (q = p), ?_, ?_, putT_len _ _ _⟩
  · refine seq_next (e1 := [d, some (.ref i), some (.int room), some (.ref P), some (.ref T), x5, some (.int asked), some (.ref L), some (.int missed), x9, some (.int p), x11, x12, some (.int (2 + v)), some (.bl (decide (u = 0))), x15, x16, x17, x18, x19]) (h1 := h2) ?_ (seq_next (e1 := [d, some (.ref i), some (.int room), some (.ref P), some (.ref T), x5, some (.int asked), some (.ref L), some (.int missed), x9, some (.int p), x11, x12, some (.int (2 + v)), some (.bl (decide (u = 0))), x15, x16, x17, x18, x19]) (h1 := h3) ?_ (seq_next (e1 := [d, some (.ref i), some (.int room), some (.ref P), some (.ref T), x5, some (.int asked), some (.ref L), some (.int missed), x9, some (.int p), x11, x12, some (.int (2 + v)), some (.bl (decide (u = 0))), x15, x16, x17, x18, x19]) (h1 := h4) ?_ ?_))
    · unfold t_law_2
      simp only [bind_ok, bind_exn, bindS_ok, bindS_exn, then_next, then_ret, then_brk, then_cont, then_exn, only_next, only_exn, run_nil, run_ret, run_retN, run_drop, run_if, run_asg, run_brk, run_cont, run_raise, run_gN, run_C, run_var, run_m2, run_lnil, run_lcons, run_tup, run_bool, run_tru, run_and, run_or, run_not, run_andV, run_orV, run_notV, run_ifE, run_chain, run_neg, run_sl, run_no, run_some, run_call, run_callF, run_meth, run_subM, run_par, run_par3, run_aug, run_itA, run_fld, run_fldM, run_tyes, fAdd_i, fSub_i, fLt_i, fLe_i, fGt_i, fGe_i, fEq_i, fNe_i, fAbs_i, fInt_i, fInt_b, fEq_s, fNe_s, fEq_b, fMax2_i, fMin2_i, fIAdd_i, fTru_b, fTru_i, run_methF, List.getElem?_cons_succ, List.getElem?_cons_zero, List.length_cons, List.length_nil, List.set_cons_succ, List.set_cons_zero, if_true, if_false, Bool.false_eq_true, Bool.not_true, Bool.not_false, decide_true, decide_false, ite_true, ite_false, Nat.zero_add, Nat.reduceAdd, oR, r1, r2]
    · have mm : mMethF "Pages" "lay" 4 f_Pages_lay (mVar 3) (mCons (mVar 10) (mCons (mVar 13) (mCons (mVar 14) mNil))) [d, some (.ref i), some (.int room), some (.ref P), some (.ref T), x5, some (.int asked), some (.ref L), some (.int missed), x9, some (.int p), x11, x12, some (.int (2 + v)), some (.bl (decide (u = 0))), x15, x16, x17, x18, x19] h2 = .ok .non h3 :=
        (meth_run (ds := [.int p, .int (2 + v), .bl (decide (u = 0))]) (var_run rfl) l2.g.o.p rfl rfl rfl).trans r3
      show sDrop _ _ _ = _
      rw [run_drop, mm]
      rfl
    · have st : fSet (.ref T) (.int p) (.tup [.int (2 + v), .bl (decide (u = 0))]) h3 = some h4 := by
        unfold fSet
        simp only [eT3, keyD]
        rw [if_pos (by rw [List.length_map]; exact lim_lt (by omega)), putDK_T, hh4]
      unfold t_law_4
      simp only [bind_ok, bind_exn, bindS_ok, bindS_exn, then_next, then_ret, then_brk, then_cont, then_exn, only_next, only_exn, run_nil, run_ret, run_retN, run_drop, run_if, run_asg, run_brk, run_cont, run_raise, run_gN, run_C, run_var, run_m2, run_lnil, run_lcons, run_tup, run_bool, run_tru, run_and, run_or, run_not, run_andV, run_orV, run_notV, run_ifE, run_chain, run_neg, run_sl, run_no, run_some, run_call, run_callF, run_meth, run_subM, run_par, run_par3, run_aug, run_itA, run_fld, run_fldM, run_tyes, fAdd_i, fSub_i, fLt_i, fLe_i, fGt_i, fGe_i, fEq_i, fNe_i, fAbs_i, fInt_i, fInt_b, fEq_s, fNe_s, fEq_b, fMax2_i, fMin2_i, fIAdd_i, fTru_b, fTru_i, run_methF, List.getElem?_cons_succ, List.getElem?_cons_zero, List.length_cons, List.length_nil, List.set_cons_succ, List.set_cons_zero, if_true, if_false, Bool.false_eq_true, Bool.not_true, Bool.not_false, decide_true, decide_false, ite_true, ite_false, Nat.zero_add, Nat.reduceAdd, oR, st]
    · refine asg_run ?_
      exact hlc _ rfl rfl rfl
  · refine ⟨g4.keep (S := []) KL.app (by simp) (by simp) (by simp), keep_app eT4, get_new, d4.app, f4.app2, bi, b1, b2, by omega, b4, ?_, ⟨nT.1, nT.2.1, by omega⟩, ?_⟩
    · have := f4.1
      exact this
    · have h43 : h4.length = h3.length := by rw [hh4, List.length_set]
      have := k3.1
      have q1 := g3.lt
      exact ⟨by omega, by omega, by omega, by omega⟩
theorem case_take {h : Hm} (l : LI hb i h P W Hd T L room asked missed ws tb hp) (htb : tb.length ≤ 900) {d x5 x9 x11 x12 x13 x14 x15 x16 x17 x18 x19 : Option D} {p : Int} (p0 : 0 ≤ p) (p5 : p < 5) :
    ∃ h' Hd' T' L' ws' tb' hp', sSeq t_law_6 (sSeq t_law_7 t_law_8) [d, some (.ref i), some (.int room), some (.ref P), some (.ref T), x5, some (.int asked), some (.ref L), some (.int missed), x9, some (.int p), x11, x12, x13, x14, x15, x16, x17, x18, x19] h =
        .next [d, some (.ref i), some (.int room), some (.ref P), some (.ref T'), x5, some (.int asked), some (.ref L'), some (.int missed), x9, some (.int p), x11, x12, x13, x14, x15, x16, x17, x18, x19] h' ∧ LI hb i h' P W Hd' T' L' room asked missed ws' tb' hp' ∧ tb'.length ≤ tb.length + 1 := by
  obtain ⟨h3, ws', r3, g3, k3⟩ := take_pg l.g p0 p5
  have ln := l.lens
  have b1 := l.bP
  have b2 := l.bW
  have b3 := l.bH
  have b4 := l.bT
  have b5 := l.bL
  have nT := l.nT
  have nL := l.nL
  have bi := l.bi
  have eT3 := k3.get l.eT (by simp; omega)
  have eL3 := k3.get l.eL (by simp; omega)
  have d3 := IsDice.kl l.d k3 (by simp; omega)
  have f3 := fr_kl l.fr k3 (by simp; omega)
  have tlc := fun (x : Ev) a b c => table_lc (env := x) (p := p) a b c eT3 l.g.ok.nd (by omega)
  obtain ⟨h4, hh4⟩ : ∃ h4 : Hm, h4 = h3 ++ [O.lst ((delT tb p).map prT)] ++ [O.dic ((delT tb p).map kvT)] := ⟨_, rfl⟩
  rw [← hh4] at tlc
  have l4 : h4.length = h3.length + 2 := by rw [hh4, List.length_append, List.length_append]; rfl
  have eT4 : h4[h3.length + 1]? = some (.dic ((delT tb p).map kvT)) := by
    rw [hh4]
    have := get_new (h := h3 ++ [O.lst ((delT tb p).map prT)]) (o := .dic ((delT tb p).map kvT))
    rwa [List.length_append, List.length_singleton] at this
  have k4 : KL [] h3 h4 := by rw [hh4]; exact KL.app.trans KL.app
  have g4 := g3.keep k4 (by simp) (by simp) (by simp)
  have eL4 := k4.get eL3 (by simp)
  have d4 := IsDice.kl d3 k4 (by simp)
  have f4 := fr_kl f3 k4 (by simp)
  have hlc := fun (x : Ev) a b c => held_lc (env := x) (p := p) a b c eL4 (by have := l.hp100; omega)
  refine ⟨h4 ++ [.lst ((hp.filter fun q => !decide (q = p)).map D.int)], h.length, h3.length + 1, h4.length, ws', delT tb p, hp.filter fun q => !decide (q = p), ?_, ?_, ?_⟩
  · refine seq_next (e1 := [d, some (.ref i), some (.int room), some (.ref P), some (.ref T), x5, some (.int asked), some (.ref L), some (.int missed), x9, some (.int p), x11, x12, x13, x14, x15, x16, x17, x18, x19]) (h1 := h3) ?_ (seq_next (e1 := [d, some (.ref i), some (.int room), some (.ref P), some (.ref (h3.length + 1)), x5, some (.int asked), some (.ref L), some (.int missed), x9, some (.int p), x11, x12, x13, x14, x15, x16, x17, x18, x19]) (h1 := h4) ?_ ?_)
    · have mm : mMethF "Pages" "take" 2 f_Pages_take (mVar 3) (mCons (mVar 10) mNil) [d, some (.ref i), some (.int room), some (.ref P), some (.ref T), x5, some (.int asked), some (.ref L), some (.int missed), x9, some (.int p), x11, x12, x13, x14, x15, x16, x17, x18, x19] h = .ok .non h3 :=
        (meth_run (ds := [.int p]) (var_run rfl) l.g.o.p rfl rfl rfl).trans r3
      show sDrop _ _ _ = _
      rw [run_drop, mm]
      rfl
    · refine asg_run ?_
      exact tlc _ rfl rfl rfl
    · refine asg_run ?_
      exact hlc _ rfl rfl rfl
  · have q3 := g3.lt
    have kk := k3.1
    refine ⟨g4.keep (S := []) KL.app (by simp) (by simp) (by simp), keep_app eT4, get_new, d4.app, f4.app2, bi, b1, b2, by omega, ?_, ?_, ⟨by omega, by omega, by omega⟩, ⟨by omega, by omega, by omega, by omega⟩⟩
    · have := f3.1; omega
    · have := f4.1; omega
  · have := List.length_filter_le (fun q : Int × (Int × Bool) => !decide (q.1 = p)) tb
    show (delT tb p).length ≤ _
    unfold delT
    omega
end
def oD (o : Option Int) : D := match o with
  | some v => .int v
  | none => .str "no way"
theorem told_oI {m : Ev → Hm → R D} {env : Ev} {h h1 : Hm} {o : Option Int} (e : m env h = oI o h1) : mTold told_cs m env h = .ok (oD o) h1 := by
  cases o with
  | none => exact told_exn (x := exNo) e rfl
  | some v => exact told_ok e
theorem fNe_oD (o : Option Int) (h : Hm) : fNe (oD o) (oD o) h = .ok (.bl false) h := by
  cases o with
  | none => unfold oD; rw [fNe_s]; simp
  | some v => unfold oD; rw [fNe_i]; simp
theorem fNe_b (k : Bool) (h : Hm) : fNe (.bl k) (.bl k) h = .ok (.bl false) h := by
  show R.ok (D.bl (!decide (D.bl k = D.bl k))) h = _
  simp
section
variable {hb : Hm} {i P W Hd T L : Nat} {room asked missed : Int} {ws : List Int} {tb : Tb} {hp : List Int}
theorem case_look {h : Hm} (l : LI hb i h P W Hd T L room asked missed ws tb hp) {d x5 x9 x13 x14 x15 x16 x17 x18 x19 : Option D} {p kind a : Int} (p0 : 0 ≤ p) (p5 : p < 5) (k0 : 0 ≤ kind) (k6 : kind < 6) (pa : a / 16 = p) :
    ∃ y15 y16 y17 h' L' a' m' hp', sSeq t_law_9 (sSeq t_law_10 (sSeq t_law_11 (sSeq t_law_12 (sSeq t_law_15 (sSeq t_law_16 t_law_17))))) [d, some (.ref i), some (.int room), some (.ref P), some (.ref T), x5, some (.int asked), some (.ref L), some (.int missed), x9, some (.int p), some (.int kind), some (.int a), x13, x14, x15, x16, x17, x18, x19] h =
        .next [d, some (.ref i), some (.int room), some (.ref P), some (.ref T), x5, some (.int a'), some (.ref L'), some (.int m'), x9, some (.int p), some (.int kind), some (.int a), x13, x14, y15, y16, y17, x18, x19] h' ∧ LI hb i h' P W Hd T L' room a' m' ws tb hp' := by
  obtain ⟨w, hw⟩ : ∃ w : Bool, w = decide (kind % 2 = 1) := ⟨_, rfl⟩
  have a0 : 0 ≤ a := by omega
  have a1 : a < 256 := by omega
  -- how
  obtain ⟨h1, hh1⟩ : ∃ h1 : Hm, h1 = h ++ [O.lst [.str "read", .str "write"]] := ⟨_, rfl⟩
  have l1 : LI hb i h1 P W Hd T L room asked missed ws tb hp := by rw [hh1]; exact l.app
  have e1 : h1[h.length]? = some (.lst [.str "read", .str "write"]) := by rw [hh1]; exact get_new
  have S9 : t_law_9 [d, some (.ref i), some (.int room), some (.ref P), some (.ref T), x5, some (.int asked), some (.ref L), some (.int missed), x9, some (.int p), some (.int kind), some (.int a), x13, x14, x15, x16, x17, x18, x19] h = .next [d, some (.ref i), some (.int room), some (.ref P), some (.ref T), x5, some (.int asked), some (.ref L), some (.int missed), x9, some (.int p), some (.int kind), some (.int a), x13, x14, some (kS w), x16, x17, x18, x19] h1 := by
    have md := fun g => fm (x := kind) (y := 2) (h := g) (by decide)
    have ix : fIx (.ref h.length) (.int (kind % 2)) h1 = .ok (kS w) h1 := by
      have : kind % 2 = 0 ∨ kind % 2 = 1 := by omega
      rcases this with c | c
      · rw [c, hw, c]
        exact fIx_int e1 (by decide) rfl
      · rw [c, hw, c]
        exact fIx_int e1 (by decide) rfl
    have ml : mLst (mCons (mC (.str "read")) (mCons (mC (.str "write")) mNil)) [d, some (.ref i), some (.int room), some (.ref P), some (.ref T), x5, some (.int asked), some (.ref L), some (.int missed), x9, some (.int p), some (.int kind), some (.int a), x13, x14, x15, x16, x17, x18, x19] h = .ok (.ref h.length) h1 := by
      rw [hh1]
      rfl
    refine asg_run ?_
    rw [run_m2, ml, bind_ok]
    simp only [bind_ok, bind_exn, bindS_ok, bindS_exn, then_next, then_ret, then_brk, then_cont, then_exn, only_next, only_exn, run_nil, run_ret, run_retN, run_drop, run_if, run_asg, run_brk, run_cont, run_raise, run_gN, run_C, run_var, run_m2, run_lnil, run_lcons, run_tup, run_bool, run_tru, run_and, run_or, run_not, run_andV, run_orV, run_notV, run_ifE, run_chain, run_neg, run_sl, run_no, run_some, run_call, run_callF, run_meth, run_subM, run_par, run_par3, run_aug, run_itA, run_fld, run_fldM, run_tyes, fAdd_i, fSub_i, fLt_i, fLe_i, fGt_i, fGe_i, fEq_i, fNe_i, fAbs_i, fInt_i, fInt_b, fEq_s, fNe_s, fEq_b, fMax2_i, fMin2_i, fIAdd_i, fTru_b, fTru_i, run_methF, List.getElem?_cons_succ, List.getElem?_cons_zero, List.length_cons, List.length_nil, List.set_cons_succ, List.set_cons_zero, if_true, if_false, Bool.false_eq_true, Bool.not_true, Bool.not_false, decide_true, decide_false, ite_true, ite_false, Nat.zero_add, Nat.reduceAdd, oR, md, ix]
  -- good
  have inT := fIn_T l1.eT p
  have S10 : t_law_10 [d, some (.ref i), some (.int room), some (.ref P), some (.ref T), x5, some (.int asked), some (.ref L), some (.int missed), x9, some (.int p), some (.int kind), some (.int a), x13, x14, some (kS w), x16, x17, x18, x19] h1 = .next [d, some (.ref i), some (.int room), some (.ref P), some (.ref T), x5, some (.int asked), some (.ref L), some (.int missed), x9, some (.int p), some (.int kind), some (.int a), x13, x14, some (kS w), some (.bl (resT tb a w).isSome), x17, x18, x19] h1 := by
    refine asg_run ?_
    unfold resT
    rw [pa, run_andV, run_m2, var_run (d := .int p) rfl, bind_ok, var_run (d := .ref T) rfl, bind_ok, inT, bind_ok, fTru_b, bind_ok]
    cases e : lookT tb p with
    | none => rfl
    | some x =>
      obtain ⟨f, wr⟩ := x
      have ix := ixL (.inr l1.eT) e
      have eq : fEq (kS w) (.str "read") h1 = .ok (.bl (!w)) h1 := by
        unfold kS
        rw [fEq_s]
        cases w <;> simp
      rw [if_pos (by rfl), run_orV, run_m2, var_run (d := kS w) rfl, bind_ok, run_C, bind_ok, eq, bind_ok, fTru_b, bind_ok]
      cases w with
      | false => rfl
      | true =>
        rw [if_neg (by simp), run_m2, run_m2, var_run (d := .ref T) rfl, bind_ok, var_run (d := .int p) rfl, bind_ok, ix, bind_ok, run_C, bind_ok]
        cases wr <;> rfl
  -- due
  have S11 : t_law_11 [d, some (.ref i), some (.int room), some (.ref P), some (.ref T), x5, some (.int asked), some (.ref L), some (.int missed), x9, some (.int p), some (.int kind), some (.int a), x13, x14, some (kS w), some (.bl (resT tb a w).isSome), x17, x18, x19] h1 = .next [d, some (.ref i), some (.int room), some (.ref P), some (.ref T), x5, some (.int asked), some (.ref L), some (.int missed), x9, some (.int p), some (.int kind), some (.int a), x13, x14, some (kS w), some (.bl (resT tb a w).isSome), some (oD (resT tb a w)), x18, x19] h1 := by
    refine asg_run ?_
    rw [run_ifE, run_tru, var_run (d := .bl (resT tb a w).isSome) rfl, bind_ok, fTru_b, bind_ok]
    cases q : resT tb a w with
    | none => rfl
    | some v =>
      rw [if_pos (by rfl)]
      unfold resT at q
      rw [pa] at q
      cases e : lookT tb p with
      | none => rw [e] at q; cases q
      | some x =>
        obtain ⟨f, wr⟩ := x
        rw [e] at q
        simp only at q
        split at q
        · cases q
        · cases q
          have ix := ixL (.inr l1.eT) e
          have m16 := fun g => mu (x := f) (y := 16) (h := g) (by decide)
          have r16 := fun g => fm (x := a) (y := 16) (h := g) (by decide)
          have ix0 : fIx (.tup [.int f, .bl wr]) (.int 0) h1 = .ok (.int f) h1 := rfl
          simp only [bind_ok, bind_exn, bindS_ok, bindS_exn, then_next, then_ret, then_brk, then_cont, then_exn, only_next, only_exn, run_nil, run_ret, run_retN, run_drop, run_if, run_asg, run_brk, run_cont, run_raise, run_gN, run_C, run_var, run_m2, run_lnil, run_lcons, run_tup, run_bool, run_tru, run_and, run_or, run_not, run_andV, run_orV, run_notV, run_ifE, run_chain, run_neg, run_sl, run_no, run_some, run_call, run_callF, run_meth, run_subM, run_par, run_par3, run_aug, run_itA, run_fld, run_fldM, run_tyes, fAdd_i, fSub_i, fLt_i, fLe_i, fGt_i, fGe_i, fEq_i, fNe_i, fAbs_i, fInt_i, fInt_b, fEq_s, fNe_s, fEq_b, fMax2_i, fMin2_i, fIAdd_i, fTru_b, fTru_i, run_methF, List.getElem?_cons_succ, List.getElem?_cons_zero, List.length_cons, List.length_nil, List.set_cons_succ, List.set_cons_zero, if_true, if_false, Bool.false_eq_true, Bool.not_true, Bool.not_false, decide_true, decide_false, ite_true, ite_false, Nat.zero_add, Nat.reduceAdd, oR, ix, ix0, m16, r16]
          rfl
  -- counts
  have inL := fIn_t l1.eL p
  have S12 : t_law_12 [d, some (.ref i), some (.int room), some (.ref P), some (.ref T), x5, some (.int asked), some (.ref L), some (.int missed), x9, some (.int p), some (.int kind), some (.int a), x13, x14, some (kS w), some (.bl (resT tb a w).isSome), some (oD (resT tb a w)), x18, x19] h1 = .next [d, some (.ref i), some (.int room), some (.ref P), some (.ref T), x5, some (.int (asked + 1)), some (.ref L), some (.int (missed + if a / 16 ∈ hp then 0 else 1)), x9, some (.int p), some (.int kind), some (.int a), x13, x14, some (kS w), some (.bl (resT tb a w).isSome), some (oD (resT tb a w)), x18, x19] h1 := by
    unfold t_law_12
    rw [pa]
    by_cases c : p ∈ hp
    · simp only [bind_ok, bind_exn, bindS_ok, bindS_exn, then_next, then_ret, then_brk, then_cont, then_exn, only_next, only_exn, run_nil, run_ret, run_retN, run_drop, run_if, run_asg, run_brk, run_cont, run_raise, run_gN, run_C, run_var, run_m2, run_lnil, run_lcons, run_tup, run_bool, run_tru, run_and, run_or, run_not, run_andV, run_orV, run_notV, run_ifE, run_chain, run_neg, run_sl, run_no, run_some, run_call, run_callF, run_meth, run_subM, run_par, run_par3, run_aug, run_itA, run_fld, run_fldM, run_tyes, fAdd_i, fSub_i, fLt_i, fLe_i, fGt_i, fGe_i, fEq_i, fNe_i, fAbs_i, fInt_i, fInt_b, fEq_s, fNe_s, fEq_b, fMax2_i, fMin2_i, fIAdd_i, fTru_b, fTru_i, run_methF, List.getElem?_cons_succ, List.getElem?_cons_zero, List.length_cons, List.length_nil, List.set_cons_succ, List.set_cons_zero, if_true, if_false, Bool.false_eq_true, Bool.not_true, Bool.not_false, decide_true, decide_false, ite_true, ite_false, Nat.zero_add, Nat.reduceAdd, oR, inL, c]
    · simp only [bind_ok, bind_exn, bindS_ok, bindS_exn, then_next, then_ret, then_brk, then_cont, then_exn, only_next, only_exn, run_nil, run_ret, run_retN, run_drop, run_if, run_asg, run_brk, run_cont, run_raise, run_gN, run_C, run_var, run_m2, run_lnil, run_lcons, run_tup, run_bool, run_tru, run_and, run_or, run_not, run_andV, run_orV, run_notV, run_ifE, run_chain, run_neg, run_sl, run_no, run_some, run_call, run_callF, run_meth, run_subM, run_par, run_par3, run_aug, run_itA, run_fld, run_fldM, run_tyes, fAdd_i, fSub_i, fLt_i, fLe_i, fGt_i, fGe_i, fEq_i, fNe_i, fAbs_i, fInt_i, fInt_b, fEq_s, fNe_s, fEq_b, fMax2_i, fMin2_i, fIAdd_i, fTru_b, fTru_i, run_methF, List.getElem?_cons_succ, List.getElem?_cons_zero, List.length_cons, List.length_nil, List.set_cons_succ, List.set_cons_zero, if_true, if_false, Bool.false_eq_true, Bool.not_true, Bool.not_false, decide_true, decide_false, ite_true, ite_false, Nat.zero_add, Nat.reduceAdd, oR, inL, c]
  -- held
  obtain ⟨h2, L2', S15, e2, k2, bL2, nL2⟩ : ∃ (h2 : Hm) (L2' : Nat), t_law_15 [d, some (.ref i), some (.int room), some (.ref P), some (.ref T), x5, some (.int (asked + 1)), some (.ref L), some (.int (missed + if a / 16 ∈ hp then 0 else 1)), x9, some (.int p), some (.int kind), some (.int a), x13, x14, some (kS w), some (.bl (resT tb a w).isSome), some (oD (resT tb a w)), x18, x19] h1 = .next [d, some (.ref i), some (.int room), some (.ref P), some (.ref T), x5, some (.int (asked + 1)), some (.ref L2'), some (.int (missed + if a / 16 ∈ hp then 0 else 1)), x9, some (.int p), some (.int kind), some (.int a), x13, x14, some (kS w), some (.bl (resT tb a w).isSome), some (oD (resT tb a w)), x18, x19] h2 ∧
      h2[L2']? = some (.lst ((heldN tb room a w hp).map D.int)) ∧ KL [] h1 h2 ∧ hb.length ≤ L2' ∧ (L2' ≠ P ∧ L2' ≠ W ∧ L2' ≠ Hd ∧ L2' ≠ T) := by
    have len := l1.lens
    have hl4 := l1.hp100
    unfold heldN
    rw [pa]
    have ct : mAnd (mTru (mVar 16)) (mBool (m2 (fIn true) (mVar 10) (mVar 7))) [d, some (.ref i), some (.int room), some (.ref P), some (.ref T), x5, some (.int (asked + 1)), some (.ref L), some (.int (missed + if p ∈ hp then 0 else 1)), x9, some (.int p), some (.int kind), some (.int a), x13, x14, some (kS w), some (.bl (resT tb a w).isSome), some (oD (resT tb a w)), x18, x19] h1 = .ok ((resT tb a w).isSome && !decide (p ∈ hp)) h1 := by
      rw [run_and, run_tru, var_run (d := .bl (resT tb a w).isSome) rfl, bind_ok, fTru_b, bind_ok]
      cases (resT tb a w).isSome with
      | false => rfl
      | true =>
        rw [if_pos rfl, run_bool, run_m2, var_run (d := .int p) rfl, bind_ok, var_run (d := .ref L) rfl, bind_ok, inL, bind_ok]
        rfl
    by_cases c : p ∈ hp ∨ resT tb a w = none
    · rw [if_pos c]
      refine ⟨h1, L, ?_, l1.eL, KL.refl, l.bL, l.nL⟩
      unfold t_law_15
      rw [run_if, ct]
      rcases c with c | c
      · simp [c]
      · simp [c]
    · rw [if_neg c]
      have c1 : ¬ p ∈ hp := fun z => c (.inl z)
      have c2 : (resT tb a w).isSome = true := by
        cases q : resT tb a w with
        | none => exact absurd (.inr q) c
        | some v => rfl
      obtain ⟨h2, hh2⟩ : ∃ h2 : Hm, h2 = h1 ++ [O.lst [.int p]] ++ [O.lst ((hp ++ [p]).map D.int)] := ⟨_, rfl⟩
      have l2 : h2.length = h1.length + 2 := by rw [hh2, List.length_append, List.length_append]; rfl
      have e2 : h2[h1.length + 1]? = some (.lst ((hp ++ [p]).map D.int)) := by
        rw [hh2]
        have := get_new (h := h1 ++ [O.lst [D.int p]]) (o := .lst ((hp ++ [p]).map D.int))
        rwa [List.length_append, List.length_singleton] at this
      have k2 : KL [] h1 h2 := by rw [hh2]; exact KL.app.trans KL.app
      have S13 : t_law_13 [d, some (.ref i), some (.int room), some (.ref P), some (.ref T), x5, some (.int (asked + 1)), some (.ref L), some (.int (missed + if p ∈ hp then 0 else 1)), x9, some (.int p), some (.int kind), some (.int a), x13, x14, some (kS w), some (.bl (resT tb a w).isSome), some (oD (resT tb a w)), x18, x19] h1 = .next [d, some (.ref i), some (.int room), some (.ref P), some (.ref T), x5, some (.int (asked + 1)), some (.ref (h1.length + 1)), some (.int (missed + if p ∈ hp then 0 else 1)), x9, some (.int p), some (.int kind), some (.int a), x13, x14, some (kS w), some (.bl (resT tb a w).isSome), some (oD (resT tb a w)), x18, x19] h2 := by
        refine asg_run ?_
        rw [run_m2, var_run (d := .ref L) rfl, bind_ok, run_lst, run_lcons, var_run (d := .int p) rfl, bind_ok, run_lnil, bind_ok, bind_ok, bind_ok]
        have q1 : (h1 ++ [O.lst [D.int p]])[L]? = some (.lst (hp.map D.int)) := keep_app l1.eL
        have q2 : (h1 ++ [O.lst [D.int p]])[h1.length]? = some (.lst [.int p]) := get_new
        unfold fAdd
        simp only [q1, q2]
        rw [if_pos (by rw [List.length_map]; exact lim_le (by simp only [List.length_cons, List.length_nil]; omega)), hh2, List.map_append, List.length_append]
        rfl
      have ln := fLen_lst e2
      rw [List.length_map] at ln
      obtain ⟨n, hn⟩ : ∃ n : Int, n = ((hp ++ [p]).length : Int) := ⟨_, rfl⟩
      rw [← hn] at ln
      have hn' : n = (hp.length : Int) + 1 := by rw [hn, List.length_append]; rfl
      have hr := l.g.hl
      by_cases cr : (hp.length : Int) = room
      · rw [if_pos cr]
        have d1 : hp.drop 1 ++ [p] = (hp ++ [p]).drop 1 := by
          cases hp with
          | nil => have := l.g.r1; simp at cr; omega
          | cons x xs => rfl
        rw [d1]
        have g1 : room < n := by omega
        have g2 : n - room = 1 := by omega
        have sl := fSl_lst e2 (some 1) none
        have cf := cutD_from (ds := (hp ++ [p]).map D.int) (k := 1) (by rw [List.length_map, List.length_append]; simp)
        have cf : cutD ((hp ++ [p]).map D.int) (some 1) none = ((hp ++ [p]).map D.int).drop 1 := cf
        rw [cf, ← List.map_drop] at sl
        refine ⟨h2 ++ [.lst (((hp ++ [p]).drop 1).map D.int)], h2.length, ?_, get_new, k2.trans KL.app, by omega, ⟨by omega, by omega, by omega, by omega⟩⟩
        unfold t_law_15
        rw [run_if, ct, c2]
        simp only [c1, decide_false, Bool.not_false, Bool.and_self, bindS_ok, if_true]
        have S13' := S13
        simp only [c1, if_false, c2] at S13'
        refine seq_next S13' ?_
        refine asg_run ?_
        simp only [bind_ok, bind_exn, bindS_ok, bindS_exn, then_next, then_ret, then_brk, then_cont, then_exn, only_next, only_exn, run_nil, run_ret, run_retN, run_drop, run_if, run_asg, run_brk, run_cont, run_raise, run_gN, run_C, run_var, run_m2, run_lnil, run_lcons, run_tup, run_bool, run_tru, run_and, run_or, run_not, run_andV, run_orV, run_notV, run_ifE, run_chain, run_neg, run_sl, run_no, run_some, run_call, run_callF, run_meth, run_subM, run_par, run_par3, run_aug, run_itA, run_fld, run_fldM, run_tyes, fAdd_i, fSub_i, fLt_i, fLe_i, fGt_i, fGe_i, fEq_i, fNe_i, fAbs_i, fInt_i, fInt_b, fEq_s, fNe_s, fEq_b, fMax2_i, fMin2_i, fIAdd_i, fTru_b, fTru_i, run_methF, List.getElem?_cons_succ, List.getElem?_cons_zero, List.length_cons, List.length_nil, List.set_cons_succ, List.set_cons_zero, if_true, if_false, Bool.false_eq_true, Bool.not_true, Bool.not_false, decide_true, decide_false, ite_true, ite_false, Nat.zero_add, Nat.reduceAdd, oR, ln, g1, g2, sl]
      · rw [if_neg cr]
        have g1 : ¬ room < n := by omega
        refine ⟨h2, h1.length + 1, ?_, e2, k2, by omega, ⟨by omega, by omega, by omega, by omega⟩⟩
        unfold t_law_15
        rw [run_if, ct, c2]
        simp only [c1, decide_false, Bool.not_false, Bool.and_self, bindS_ok, if_true]
        have S13' := S13
        simp only [c1, if_false, c2] at S13'
        refine seq_next S13' ?_
        refine asg_run ?_
        simp only [bind_ok, bind_exn, bindS_ok, bindS_exn, then_next, then_ret, then_brk, then_cont, then_exn, only_next, only_exn, run_nil, run_ret, run_retN, run_drop, run_if, run_asg, run_brk, run_cont, run_raise, run_gN, run_C, run_var, run_m2, run_lnil, run_lcons, run_tup, run_bool, run_tru, run_and, run_or, run_not, run_andV, run_orV, run_notV, run_ifE, run_chain, run_neg, run_sl, run_no, run_some, run_call, run_callF, run_meth, run_subM, run_par, run_par3, run_aug, run_itA, run_fld, run_fldM, run_tyes, fAdd_i, fSub_i, fLt_i, fLe_i, fGt_i, fGe_i, fEq_i, fNe_i, fAbs_i, fInt_i, fInt_b, fEq_s, fNe_s, fEq_b, fMax2_i, fMin2_i, fIAdd_i, fTru_b, fTru_i, run_methF, List.getElem?_cons_succ, List.getElem?_cons_zero, List.length_cons, List.length_nil, List.set_cons_succ, List.set_cons_zero, if_true, if_false, Bool.false_eq_true, Bool.not_true, Bool.not_false, decide_true, decide_false, ite_true, ite_false, Nat.zero_add, Nat.reduceAdd, oR, ln, g1]
  -- found
  have g2 := l1.g.keep k2 (by simp) (by simp) (by simp)
  have eT2 := k2.get l1.eT (by simp)
  have d2 := IsDice.kl l1.d k2 (by simp)
  have f2 := fr_kl l1.fr k2 (by simp)
  obtain ⟨h3, r3, g3, k3⟩ := found_pg g2 a0 a1 w
  have bi := l.bi
  have b1 := l.bP
  have b2 := l.bW
  have b3 := l.bH
  have b4 := l.bT
  have eT3 := k3.get eT2 (by simp; exact ⟨l.nT.1, l.nT.2.2⟩)
  have eL3 := k3.get e2 (by simp; exact ⟨nL2.1, nL2.2.2.1⟩)
  have d3 := IsDice.kl d2 k3 (by simp; omega)
  have f3 := fr_kl f2 k3 (by simp; omega)
  have S16 : t_law_16 [d, some (.ref i), some (.int room), some (.ref P), some (.ref T), x5, some (.int (asked + 1)), some (.ref L2'), some (.int (missed + if a / 16 ∈ hp then 0 else 1)), x9, some (.int p), some (.int kind), some (.int a), x13, x14, some (kS w), some (.bl (resT tb a w).isSome), some (oD (resT tb a w)), x18, x19] h2 = .next [d, some (.ref i), some (.int room), some (.ref P), some (.ref T), x5, some (.int (asked + 1)), some (.ref L2'), some (.int (missed + if a / 16 ∈ hp then 0 else 1)), x9, some (.int p), some (.int kind), some (.int a), x13, x14, some (kS w), some (.bl (resT tb a w).isSome), some (oD (resT tb a w)), x18, x19] h3 := by
    have tm := told_oI ((meth_run (mo := mVar 3) (mr := mCons (mVar 12) (mCons (mVar 15) mNil)) (cn := "Pages") (m := "found_at") (p := 3) (fn := f_Pages_found_at) (env := [d, some (.ref i), some (.int room), some (.ref P), some (.ref T), x5, some (.int (asked + 1)), some (.ref L2'), some (.int (missed + if a / 16 ∈ hp then 0 else 1)), x9, some (.int p), some (.int kind), some (.int a), x13, x14, some (kS w), some (.bl (resT tb a w).isSome), some (oD (resT tb a w)), x18, x19]) (ds := [.int a, kS w]) (var_run rfl) g2.o.p rfl rfl rfl).trans r3)
    unfold t_law_16
    rw [run_if, run_bool, run_m2, tm, bind_ok, var_run (d := oD (resT tb a w)) rfl, bind_ok, fNe_oD]
    rfl
  have S17 : t_law_17 [d, some (.ref i), some (.int room), some (.ref P), some (.ref T), x5, some (.int (asked + 1)), some (.ref L2'), some (.int (missed + if a / 16 ∈ hp then 0 else 1)), x9, some (.int p), some (.int kind), some (.int a), x13, x14, some (kS w), some (.bl (resT tb a w).isSome), some (oD (resT tb a w)), x18, x19] h3 = .next [d, some (.ref i), some (.int room), some (.ref P), some (.ref T), x5, some (.int (asked + 1)), some (.ref L2'), some (.int (missed + if a / 16 ∈ hp then 0 else 1)), x9, some (.int p), some (.int kind), some (.int a), x13, x14, some (kS w), some (.bl (resT tb a w).isSome), some (oD (resT tb a w)), x18, x19] h3 := by
    have tm := told_oI ((meth_run (mo := mVar 3) (mr := mCons (mVar 12) (mCons (mVar 15) mNil)) (cn := "Pages") (m := "walk") (p := 3) (fn := f_Pages_walk) (env := [d, some (.ref i), some (.int room), some (.ref P), some (.ref T), x5, some (.int (asked + 1)), some (.ref L2'), some (.int (missed + if a / 16 ∈ hp then 0 else 1)), x9, some (.int p), some (.int kind), some (.int a), x13, x14, some (kS w), some (.bl (resT tb a w).isSome), some (oD (resT tb a w)), x18, x19]) (ds := [.int a, kS w]) (var_run rfl) g3.o.p rfl rfl rfl).trans (walk_pg g3 a0 a1 w))
    have cn := (meth_run (mo := mVar 3) (mr := mCons (mVar 12) (mCons (mVar 15) mNil)) (cn := "Pages") (m := "can") (p := 3) (fn := f_Pages_can) (env := [d, some (.ref i), some (.int room), some (.ref P), some (.ref T), x5, some (.int (asked + 1)), some (.ref L2'), some (.int (missed + if a / 16 ∈ hp then 0 else 1)), x9, some (.int p), some (.int kind), some (.int a), x13, x14, some (kS w), some (.bl (resT tb a w).isSome), some (oD (resT tb a w)), x18, x19]) (ds := [.int a, kS w]) (var_run rfl) g3.o.p rfl rfl rfl).trans (can_pg g3 a0 a1 w)
    unfold t_law_17
    rw [run_if, run_or, run_bool, run_m2, tm, bind_ok, var_run (d := oD (resT tb a w)) rfl, bind_ok, fNe_oD, bind_ok, bind_ok, if_neg (by simp), run_bool, run_m2, cn, bind_ok, var_run (d := .bl (resT tb a w).isSome) rfl, bind_ok, fNe_b]
    rfl
  exact ⟨_, _, _, h3, L2', _, _, heldN tb room a w hp, seq_next S9 (seq_next S10 (seq_next S11 (seq_next S12 (seq_next S15 (seq_next S16 S17))))), ⟨g3, eT3, eL3, d3, f3, bi, b1, b2, b3, b4, bL2, l.nT, nL2⟩⟩
end
section
variable {hb : Hm} {i P W Hd T L : Nat} {room asked missed : Int} {ws : List Int} {tb : Tb} {hp : List Int}
theorem step_ok {h : Hm} (l : LI hb i h P W Hd T L room asked missed ws tb hp) (htb : tb.length ≤ 900) {d x5 x9 x10 x11 x12 x13 x14 x15 x16 x17 x18 x19 : Option D} :
    ∃ y10 y11 y12 y13 y14 y15 y16 y17 h' Hd' T' L' a' m' ws' tb' hp', l_law_0 [d, some (.ref i), some (.int room), some (.ref P), some (.ref T), x5, some (.int asked), some (.ref L), some (.int missed), x9, x10, x11, x12, x13, x14, x15, x16, x17, x18, x19] h =
        .next [d, some (.ref i), some (.int room), some (.ref P), some (.ref T'), x5, some (.int a'), some (.ref L'), some (.int m'), x9, y10, y11, y12, y13, y14, y15, y16, y17, x18, x19] h' ∧ LI hb i h' P W Hd' T' L' room a' m' ws' tb' hp' ∧ tb'.length ≤ tb.length + 1 := by
  obtain ⟨p, h1, p0, p5, r1, l1⟩ := l.roll (many := 5) (by decide) (by decide)
  obtain ⟨kind, h2, k0, k6, r2, l2⟩ := l1.roll (many := 6) (by decide) (by decide)
  obtain ⟨u, h3, u0, u16, r3, l3⟩ := l2.roll (many := 16) (by decide) (by decide)
  have S0 : t_law_0 [d, some (.ref i), some (.int room), some (.ref P), some (.ref T), x5, some (.int asked), some (.ref L), some (.int missed), x9, x10, x11, x12, x13, x14, x15, x16, x17, x18, x19] h = .next [d, some (.ref i), some (.int room), some (.ref P), some (.ref T), x5, some (.int asked), some (.ref L), some (.int missed), x9, some (.int p), some (.int kind), x12, x13, x14, x15, x16, x17, x18, x19] h2 := by
    unfold t_law_0
    simp only [bind_ok, bind_exn, bindS_ok, bindS_exn, then_next, then_ret, then_brk, then_cont, then_exn, only_next, only_exn, run_nil, run_ret, run_retN, run_drop, run_if, run_asg, run_brk, run_cont, run_raise, run_gN, run_C, run_var, run_m2, run_lnil, run_lcons, run_tup, run_bool, run_tru, run_and, run_or, run_not, run_andV, run_orV, run_notV, run_ifE, run_chain, run_neg, run_sl, run_no, run_some, run_call, run_callF, run_meth, run_subM, run_par, run_par3, run_aug, run_itA, run_fld, run_fldM, run_tyes, fAdd_i, fSub_i, fLt_i, fLe_i, fGt_i, fGe_i, fEq_i, fNe_i, fAbs_i, fInt_i, fInt_b, fEq_s, fNe_s, fEq_b, fMax2_i, fMin2_i, fIAdd_i, fTru_b, fTru_i, run_methF, List.getElem?_cons_succ, List.getElem?_cons_zero, List.length_cons, List.length_nil, List.set_cons_succ, List.set_cons_zero, if_true, if_false, Bool.false_eq_true, Bool.not_true, Bool.not_false, decide_true, decide_false, ite_true, ite_false, Nat.zero_add, Nat.reduceAdd, oR, r1, r2, gU, gsCons, gsNil]
  obtain ⟨a, ha⟩ : ∃ a, a = 16 * p + u := ⟨_, rfl⟩
  have S1 : t_law_1 [d, some (.ref i), some (.int room), some (.ref P), some (.ref T), x5, some (.int asked), some (.ref L), some (.int missed), x9, some (.int p), some (.int kind), x12, x13, x14, x15, x16, x17, x18, x19] h2 = .next [d, some (.ref i), some (.int room), some (.ref P), some (.ref T), x5, some (.int asked), some (.ref L), some (.int missed), x9, some (.int p), some (.int kind), some (.int a), x13, x14, x15, x16, x17, x18, x19] h3 := by
    have m16 := fun g => mu1 (x := 16) (y := p) (h := g) (by decide)
    refine asg_run ?_
    simp only [bind_ok, bind_exn, bindS_ok, bindS_exn, then_next, then_ret, then_brk, then_cont, then_exn, only_next, only_exn, run_nil, run_ret, run_retN, run_drop, run_if, run_asg, run_brk, run_cont, run_raise, run_gN, run_C, run_var, run_m2, run_lnil, run_lcons, run_tup, run_bool, run_tru, run_and, run_or, run_not, run_andV, run_orV, run_notV, run_ifE, run_chain, run_neg, run_sl, run_no, run_some, run_call, run_callF, run_meth, run_subM, run_par, run_par3, run_aug, run_itA, run_fld, run_fldM, run_tyes, fAdd_i, fSub_i, fLt_i, fLe_i, fGt_i, fGe_i, fEq_i, fNe_i, fAbs_i, fInt_i, fInt_b, fEq_s, fNe_s, fEq_b, fMax2_i, fMin2_i, fIAdd_i, fTru_b, fTru_i, run_methF, List.getElem?_cons_succ, List.getElem?_cons_zero, List.length_cons, List.length_nil, List.set_cons_succ, List.set_cons_zero, if_true, if_false, Bool.false_eq_true, Bool.not_true, Bool.not_false, decide_true, decide_false, ite_true, ite_false, Nat.zero_add, Nat.reduceAdd, oR, m16, r3, ha]
  have pa : a / 16 = p := by omega
  by_cases c : kind = 0
  · obtain ⟨y13, y14, h4, Hd', L', ws', tb', hp', run, l4, lt⟩ := case_lay l3 htb (d := d) (x5 := x5) (x9 := x9) (x11 := some (.int kind)) (x12 := some (.int a)) (x13 := x13) (x14 := x14) (x15 := x15) (x16 := x16) (x17 := x17) (x18 := x18) (x19 := x19) p0 p5
    refine ⟨some (.int p), some (.int kind), some (.int a), y13, y14, x15, x16, x17, h4, Hd', T, L', _, _, ws', tb', hp', seq_next S0 (seq_next S1 ?_), l4, lt⟩
    unfold t_law_19
    have ct : mBool (m2 fEq (mVar 11) (mC (.int 0))) [d, some (.ref i), some (.int room), some (.ref P), some (.ref T), x5, some (.int asked), some (.ref L), some (.int missed), x9, some (.int p), some (.int kind), some (.int a), x13, x14, x15, x16, x17, x18, x19] h3 = .ok true h3 := by
      simp only [bind_ok, bind_exn, bindS_ok, bindS_exn, then_next, then_ret, then_brk, then_cont, then_exn, only_next, only_exn, run_nil, run_ret, run_retN, run_drop, run_if, run_asg, run_brk, run_cont, run_raise, run_gN, run_C, run_var, run_m2, run_lnil, run_lcons, run_tup, run_bool, run_tru, run_and, run_or, run_not, run_andV, run_orV, run_notV, run_ifE, run_chain, run_neg, run_sl, run_no, run_some, run_call, run_callF, run_meth, run_subM, run_par, run_par3, run_aug, run_itA, run_fld, run_fldM, run_tyes, fAdd_i, fSub_i, fLt_i, fLe_i, fGt_i, fGe_i, fEq_i, fNe_i, fAbs_i, fInt_i, fInt_b, fEq_s, fNe_s, fEq_b, fMax2_i, fMin2_i, fIAdd_i, fTru_b, fTru_i, run_methF, List.getElem?_cons_succ, List.getElem?_cons_zero, List.length_cons, List.length_nil, List.set_cons_succ, List.set_cons_zero, if_true, if_false, Bool.false_eq_true, Bool.not_true, Bool.not_false, decide_true, decide_false, ite_true, ite_false, Nat.zero_add, Nat.reduceAdd, oR, c]
    rw [run_if, ct, bindS_ok, if_pos rfl]
    exact run
  · have ct : mBool (m2 fEq (mVar 11) (mC (.int 0))) [d, some (.ref i), some (.int room), some (.ref P), some (.ref T), x5, some (.int asked), some (.ref L), some (.int missed), x9, some (.int p), some (.int kind), some (.int a), x13, x14, x15, x16, x17, x18, x19] h3 = .ok false h3 := by
      simp only [bind_ok, bind_exn, bindS_ok, bindS_exn, then_next, then_ret, then_brk, then_cont, then_exn, only_next, only_exn, run_nil, run_ret, run_retN, run_drop, run_if, run_asg, run_brk, run_cont, run_raise, run_gN, run_C, run_var, run_m2, run_lnil, run_lcons, run_tup, run_bool, run_tru, run_and, run_or, run_not, run_andV, run_orV, run_notV, run_ifE, run_chain, run_neg, run_sl, run_no, run_some, run_call, run_callF, run_meth, run_subM, run_par, run_par3, run_aug, run_itA, run_fld, run_fldM, run_tyes, fAdd_i, fSub_i, fLt_i, fLe_i, fGt_i, fGe_i, fEq_i, fNe_i, fAbs_i, fInt_i, fInt_b, fEq_s, fNe_s, fEq_b, fMax2_i, fMin2_i, fIAdd_i, fTru_b, fTru_i, run_methF, List.getElem?_cons_succ, List.getElem?_cons_zero, List.length_cons, List.length_nil, List.set_cons_succ, List.set_cons_zero, if_true, if_false, Bool.false_eq_true, Bool.not_true, Bool.not_false, decide_true, decide_false, ite_true, ite_false, Nat.zero_add, Nat.reduceAdd, oR, c]
    by_cases c2 : kind = 1
    · obtain ⟨h4, Hd', T', L', ws', tb', hp', run, l4, lt⟩ := case_take l3 htb (d := d) (x5 := x5) (x9 := x9) (x11 := some (.int kind)) (x12 := some (.int a)) (x13 := x13) (x14 := x14) (x15 := x15) (x16 := x16) (x17 := x17) (x18 := x18) (x19 := x19) p0 p5
      refine ⟨some (.int p), some (.int kind), some (.int a), x13, x14, x15, x16, x17, h4, Hd', T', L', _, _, ws', tb', hp', seq_next S0 (seq_next S1 ?_), l4, lt⟩
      have ct2 : mBool (m2 fEq (mVar 11) (mC (.int 1))) [d, some (.ref i), some (.int room), some (.ref P), some (.ref T), x5, some (.int asked), some (.ref L), some (.int missed), x9, some (.int p), some (.int kind), some (.int a), x13, x14, x15, x16, x17, x18, x19] h3 = .ok true h3 := by
        simp only [bind_ok, bind_exn, bindS_ok, bindS_exn, then_next, then_ret, then_brk, then_cont, then_exn, only_next, only_exn, run_nil, run_ret, run_retN, run_drop, run_if, run_asg, run_brk, run_cont, run_raise, run_gN, run_C, run_var, run_m2, run_lnil, run_lcons, run_tup, run_bool, run_tru, run_and, run_or, run_not, run_andV, run_orV, run_notV, run_ifE, run_chain, run_neg, run_sl, run_no, run_some, run_call, run_callF, run_meth, run_subM, run_par, run_par3, run_aug, run_itA, run_fld, run_fldM, run_tyes, fAdd_i, fSub_i, fLt_i, fLe_i, fGt_i, fGe_i, fEq_i, fNe_i, fAbs_i, fInt_i, fInt_b, fEq_s, fNe_s, fEq_b, fMax2_i, fMin2_i, fIAdd_i, fTru_b, fTru_i, run_methF, List.getElem?_cons_succ, List.getElem?_cons_zero, List.length_cons, List.length_nil, List.set_cons_succ, List.set_cons_zero, if_true, if_false, Bool.false_eq_true, Bool.not_true, Bool.not_false, decide_true, decide_false, ite_true, ite_false, Nat.zero_add, Nat.reduceAdd, oR, c2]
      unfold t_law_19
      rw [run_if, ct, bindS_ok, if_neg (by simp)]
      unfold t_law_18
      rw [run_if, ct2, bindS_ok, if_pos rfl]
      exact run
    · obtain ⟨y15, y16, y17, h4, L', a', m', hp', run, l4⟩ := case_look l3 (d := d) (x5 := x5) (x9 := x9) (x13 := x13) (x14 := x14) (x15 := x15) (x16 := x16) (x17 := x17) (x18 := x18) (x19 := x19) (kind := kind) p0 p5 k0 k6 pa
      refine ⟨some (.int p), some (.int kind), some (.int a), x13, x14, y15, y16, y17, h4, Hd, T, L', a', m', ws, tb, hp', seq_next S0 (seq_next S1 ?_), l4, by omega⟩
      have ct2 : mBool (m2 fEq (mVar 11) (mC (.int 1))) [d, some (.ref i), some (.int room), some (.ref P), some (.ref T), x5, some (.int asked), some (.ref L), some (.int missed), x9, some (.int p), some (.int kind), some (.int a), x13, x14, x15, x16, x17, x18, x19] h3 = .ok false h3 := by
        simp only [bind_ok, bind_exn, bindS_ok, bindS_exn, then_next, then_ret, then_brk, then_cont, then_exn, only_next, only_exn, run_nil, run_ret, run_retN, run_drop, run_if, run_asg, run_brk, run_cont, run_raise, run_gN, run_C, run_var, run_m2, run_lnil, run_lcons, run_tup, run_bool, run_tru, run_and, run_or, run_not, run_andV, run_orV, run_notV, run_ifE, run_chain, run_neg, run_sl, run_no, run_some, run_call, run_callF, run_meth, run_subM, run_par, run_par3, run_aug, run_itA, run_fld, run_fldM, run_tyes, fAdd_i, fSub_i, fLt_i, fLe_i, fGt_i, fGe_i, fEq_i, fNe_i, fAbs_i, fInt_i, fInt_b, fEq_s, fNe_s, fEq_b, fMax2_i, fMin2_i, fIAdd_i, fTru_b, fTru_i, run_methF, List.getElem?_cons_succ, List.getElem?_cons_zero, List.length_cons, List.length_nil, List.set_cons_succ, List.set_cons_zero, if_true, if_false, Bool.false_eq_true, Bool.not_true, Bool.not_false, decide_true, decide_false, ite_true, ite_false, Nat.zero_add, Nat.reduceAdd, oR, c2]
      unfold t_law_19
      rw [run_if, ct, bindS_ok, if_neg (by simp)]
      unfold t_law_18
      rw [run_if, ct2, bindS_ok, if_neg (by simp)]
      exact run
theorem steps_ok {d x5 x18 x19 : Option D} : ∀ (ds : List D) (h : Hm) (Hd T L : Nat) (asked missed : Int) (ws : List Int) (tb : Tb) (hp : List Int), LI hb i h P W Hd T L room asked missed ws tb hp → tb.length + ds.length ≤ 900 → ∀ x9 x10 x11 x12 x13 x14 x15 x16 x17 : Option D,
    ∃ y9 y10 y11 y12 y13 y14 y15 y16 y17 h' Hd' T' L' a' m' ws' tb' hp', forL [] (gN 9) l_law_0 ds [d, some (.ref i), some (.int room), some (.ref P), some (.ref T), x5, some (.int asked), some (.ref L), some (.int missed), x9, x10, x11, x12, x13, x14, x15, x16, x17, x18, x19] h =
        .next [d, some (.ref i), some (.int room), some (.ref P), some (.ref T'), x5, some (.int a'), some (.ref L'), some (.int m'), y9, y10, y11, y12, y13, y14, y15, y16, y17, x18, x19] h' ∧ LI hb i h' P W Hd' T' L' room a' m' ws' tb' hp' ∧ tb'.length ≤ 900
  | [], h, Hd, T, L, asked, missed, ws, tb, hp, l, hl, x9, x10, x11, x12, x13, x14, x15, x16, x17 => ⟨_, _, _, _, _, _, _, _, _, h, Hd, T, L, _, _, _, _, _, forL_nil gdOk_nil, l, by simpa using hl⟩
  | k :: ds, h, Hd, T, L, asked, missed, ws, tb, hp, l, hl, x9, x10, x11, x12, x13, x14, x15, x16, x17 => by
    rw [List.length_cons] at hl
    obtain ⟨y10, y11, y12, y13, y14, y15, y16, y17, h1, Hd1, T1, L1, a1, m1, ws1, tb1, hp1, run, l1, lt⟩ := step_ok l (by omega) (d := d) (x5 := x5) (x9 := some k) (x10 := x10) (x11 := x11) (x12 := x12) (x13 := x13) (x14 := x14) (x15 := x15) (x16 := x16) (x17 := x17) (x18 := x18) (x19 := x19)
    obtain ⟨z9, z10, z11, z12, z13, z14, z15, z16, z17, h2, Hd2, T2, L2, a2, m2, ws2, tb2, hp2, run2, l2, lt2⟩ := steps_ok ds h1 Hd1 T1 L1 a1 m1 ws1 tb1 hp1 l1 (by omega) (some k) y10 y11 y12 y13 y14 y15 y16 y17
    exact ⟨z9, z10, z11, z12, z13, z14, z15, z16, z17, h2, Hd2, T2, L2, a2, m2, ws2, tb2, hp2, forL_next gdOk_nil rfl run run2, l2, lt2⟩
end
theorem heldPages (tb : Tb) (hp : List Int) : ((heldOf tb hp).map fun q => D.int q.1) = hp.map D.int := by
  unfold heldOf
  rw [List.map_map]
  rfl
def rowPy (k : Nat) (x : Int × Bool) : PyData := .tuple [.int k, .int x.1, .bool x.2]
theorem rows_py (h : Hm) (tb : Tb) : ∀ ks : List Nat, mapO (py h 59) (ks.filterMap (pgRow tb)) = some (ks.filterMap fun k : Nat => (lookT tb (k : Int)).map (rowPy k)) ∧ PyData.canLayAll0 (ks.filterMap fun k : Nat => (lookT tb (k : Int)).map (rowPy k)) = true
  | [] => ⟨rfl, rfl⟩
  | k :: ks => by
    obtain ⟨i1, i2⟩ := rows_py h tb ks
    rw [List.filterMap_cons, List.filterMap_cons]
    unfold pgRow
    cases e : lookT tb (k : Int) with
    | none => exact ⟨i1, i2⟩
    | some x =>
      simp only [Option.map_some]
      refine ⟨?_, ?_⟩
      · unfold mapO
        have r : py h 59 (rowT (k : Int) x) = some (rowPy k x) := rfl
        rw [r]
        unfold pgRow at i1
        rw [i1]
      · simp only [PyData.canLayAll0, i2]
        rfl
theorem round_ok : RoundOk 20 l_law_1 := by
  intro d i rest h hl di
  obtain ⟨x2, x3, x4, x5, x6, x7, x8, x9, x10, x11, x12, x13, x14, x15, x16, x17, x18, x19, rfl⟩ : ∃ x2 x3 x4 x5 x6 x7 x8 x9 x10 x11 x12 x13 x14 x15 x16 x17 x18 x19, rest = [x2, x3, x4, x5, x6, x7, x8, x9, x10, x11, x12, x13, x14, x15, x16, x17, x18, x19] := by
    match rest, hl with
    | [x2, x3, x4, x5, x6, x7, x8, x9, x10, x11, x12, x13, x14, x15, x16, x17, x18, x19], _ => exact ⟨_, _, _, _, _, _, _, _, _, _, _, _, _, _, _, _, _, _, rfl⟩
  obtain ⟨v, h1, v0, v4, rn1, d1, e1, f1⟩ := roll_fr di (show (0 : Int) < 4 by decide) (by decide)
  have r1 : f__law_roll [.ref i, .int 4] h = .ok (.int v) h1 := rn1
  have S0 : q_0 [some d, some (.ref i), x2, x3, x4, x5, x6, x7, x8, x9, x10, x11, x12, x13, x14, x15, x16, x17, x18, x19] h = .next [some d, some (.ref i), some (.int (1 + v)), x3, x4, x5, x6, x7, x8, x9, x10, x11, x12, x13, x14, x15, x16, x17, x18, x19] h1 := by
    refine asg_run ?_
    simp only [bind_ok, bind_exn, bindS_ok, bindS_exn, then_next, then_ret, then_brk, then_cont, then_exn, only_next, only_exn, run_nil, run_ret, run_retN, run_drop, run_if, run_asg, run_brk, run_cont, run_raise, run_gN, run_C, run_var, run_m2, run_lnil, run_lcons, run_tup, run_bool, run_tru, run_and, run_or, run_not, run_andV, run_orV, run_notV, run_ifE, run_chain, run_neg, run_sl, run_no, run_some, run_call, run_callF, run_meth, run_subM, run_par, run_par3, run_aug, run_itA, run_fld, run_fldM, run_tyes, fAdd_i, fSub_i, fLt_i, fLe_i, fGt_i, fGe_i, fEq_i, fNe_i, fAbs_i, fInt_i, fInt_b, fEq_s, fNe_s, fEq_b, fMax2_i, fMin2_i, fIAdd_i, fTru_b, fTru_i, run_methF, List.getElem?_cons_succ, List.getElem?_cons_zero, List.length_cons, List.length_nil, List.set_cons_succ, List.set_cons_zero, if_true, if_false, Bool.false_eq_true, Bool.not_true, Bool.not_false, decide_true, decide_false, ite_true, ite_false, Nat.zero_add, Nat.reduceAdd, oR, r1]
  obtain ⟨P, W, Hd, h2, r2, g2, p1, p2, p3, k2⟩ := empty_run (h := h1) (room := 1 + v) (by omega) (by omega)
  obtain ⟨h3, hh3⟩ : ∃ h3 : Hm, h3 = h2 ++ [O.dic []] ++ [O.dic []] ++ [O.lst []] := ⟨_, rfl⟩
  have l3 : h3.length = h2.length + 3 := by rw [hh3, List.length_append, List.length_append, List.length_append]; rfl
  have k3 : KL [] h2 h3 := by rw [hh3]; exact (KL.app.trans KL.app).trans KL.app
  have eT3 : h3[h2.length]? = some (.dic []) := by rw [hh3]; exact keep_app (keep_app get_new)
  have eL3 : h3[h2.length + 2]? = some (.lst []) := by
    rw [hh3]
    have := get_new (h := h2 ++ [O.dic []] ++ [O.dic []]) (o := .lst [])
    rwa [List.length_append, List.length_append] at this
  have S1 : q_1 [some d, some (.ref i), some (.int (1 + v)), x3, x4, x5, x6, x7, x8, x9, x10, x11, x12, x13, x14, x15, x16, x17, x18, x19] h1 = .next [some d, some (.ref i), some (.int (1 + v)), some (.ref P), some (.ref h2.length), some (.ref (h2.length + 1)), some (.int 0), some (.ref (h2.length + 2)), some (.int 0), x9, x10, x11, x12, x13, x14, x15, x16, x17, x18, x19] h3 := by
    have d0 : ∀ (env : Ev) (g : Hm), mDic0 env g = .ok (.ref g.length) (g ++ [.dic []]) := fun _ _ => rfl
    unfold q_1
    rw [run_asg, run_tup, run_lcons, run_callF, run_lcons, run_C, bind_ok, run_lcons, var_run (d := .int (1 + v)) rfl, bind_ok, run_lnil, bind_ok, bind_ok, bind_ok, if_pos (by rfl), r2, bind_ok, run_lcons, d0, bind_ok, run_lcons, d0, bind_ok, run_lcons, run_C, bind_ok, run_lcons, run_lst, run_lnil, bind_ok, bind_ok, run_lcons, run_C, bind_ok, run_lnil, bind_ok, bind_ok, bind_ok, bind_ok, bind_ok, bind_ok, bind_ok, bindS_ok, ← hh3, show (h2 ++ [O.dic []] ++ [O.dic []]).length = h2.length + 2 by rw [List.length_append, List.length_append]; rfl, show (h2 ++ [O.dic []]).length = h2.length + 1 by rw [List.length_append]; rfl]
    rfl
  have bi := di.lt
  have LI0 : LI h i h3 P W Hd h2.length (h2.length + 2) (1 + v) 0 0 ws0 [] [] := by
    have lt := g2.lt
    have k02 := k2.1
    refine ⟨g2.keep k3 (by simp) (by simp) (by simp), eT3, eL3, IsDice.kl (IsDice.kl d1 k2 (by simp)) k3 (by simp), fr_kl (fr_kl f1 k2 (by simp)) k3 (by simp), bi, by omega, by omega, by omega, by omega, by omega, ⟨by omega, by omega, by omega⟩, ⟨by omega, by omega, by omega, by omega⟩⟩
  obtain ⟨u, h4, u0, u31, r4, LI4⟩ := LI0.roll (many := 31) (by decide) (by decide)
  obtain ⟨y9, y10, y11, y12, y13, y14, y15, y16, y17, h5, Hd5, T5, L5, a5, m5, ws5, tb5, hp5, run5, LI5, lt5⟩ := steps_ok (d := some d) (x5 := some (.ref (h2.length + 1))) (x18 := x18) (x19 := x19) (rng1 0 u.toNat) h4 Hd h2.length (h2.length + 2) 0 0 ws0 [] [] LI4 (by rw [rng1_len]; simp; omega) x9 x10 x11 x12 x13 x14 x15 x16 x17
  have S2 : q_2 [some d, some (.ref i), some (.int (1 + v)), some (.ref P), some (.ref h2.length), some (.ref (h2.length + 1)), some (.int 0), some (.ref (h2.length + 2)), some (.int 0), x9, x10, x11, x12, x13, x14, x15, x16, x17, x18, x19] h3 = .next [some d, some (.ref i), some (.int (1 + v)), some (.ref P), some (.ref T5), some (.ref (h2.length + 1)), some (.int a5), some (.ref L5), some (.int m5), y9, y10, y11, y12, y13, y14, y15, y16, y17, x18, x19] h5 := by
    have rg : mRg1 (mCons (mCallF 2 f__law_roll (mCons (mVar 1) (mCons (mC (.int 31)) mNil))) mNil) [some d, some (.ref i), some (.int (1 + v)), some (.ref P), some (.ref h2.length), some (.ref (h2.length + 1)), some (.int 0), some (.ref (h2.length + 2)), some (.int 0), x9, x10, x11, x12, x13, x14, x15, x16, x17, x18, x19] h3 = .ok (rng1 0 u.toNat, []) h4 := by
      refine rg1_runv ?_ (sm62_of u0 (by omega))
      simp only [bind_ok, bind_exn, bindS_ok, bindS_exn, then_next, then_ret, then_brk, then_cont, then_exn, only_next, only_exn, run_nil, run_ret, run_retN, run_drop, run_if, run_asg, run_brk, run_cont, run_raise, run_gN, run_C, run_var, run_m2, run_lnil, run_lcons, run_tup, run_bool, run_tru, run_and, run_or, run_not, run_andV, run_orV, run_notV, run_ifE, run_chain, run_neg, run_sl, run_no, run_some, run_call, run_callF, run_meth, run_subM, run_par, run_par3, run_aug, run_itA, run_fld, run_fldM, run_tyes, fAdd_i, fSub_i, fLt_i, fLe_i, fGt_i, fGe_i, fEq_i, fNe_i, fAbs_i, fInt_i, fInt_b, fEq_s, fNe_s, fEq_b, fMax2_i, fMin2_i, fIAdd_i, fTru_b, fTru_i, run_methF, List.getElem?_cons_succ, List.getElem?_cons_zero, List.length_cons, List.length_nil, List.set_cons_succ, List.set_cons_zero, if_true, if_false, Bool.false_eq_true, Bool.not_true, Bool.not_false, decide_true, decide_false, ite_true, ite_false, Nat.zero_add, Nat.reduceAdd, oR, r4]
    exact for_run rg run5
  -- what is counted
  have hp4 := LI5.hp100
  obtain ⟨h6, hh6⟩ : ∃ h6 : Hm, h6 = h5 ++ [O.lst (hp5.map D.int)] := ⟨_, rfl⟩
  have LI6 : LI h i h6 P W Hd5 T5 L5 (1 + v) a5 m5 ws5 tb5 hp5 := by rw [hh6]; exact LI5.app
  have S3 : q_3 [some d, some (.ref i), some (.int (1 + v)), some (.ref P), some (.ref T5), some (.ref (h2.length + 1)), some (.int a5), some (.ref L5), some (.int m5), y9, y10, y11, y12, y13, y14, y15, y16, y17, x18, x19] h5 = .next [some d, some (.ref i), some (.int (1 + v)), some (.ref P), some (.ref T5), some (.ref (h2.length + 1)), some (.int a5), some (.ref L5), some (.int m5), y9, y10, y11, y12, y13, y14, y15, y16, y17, x18, x19] h6 := by
    obtain ⟨E, hE⟩ : ∃ E : Ev, E = [some d, some (.ref i), some (.int (1 + v)), some (.ref P), some (.ref T5), some (.ref (h2.length + 1)), some (.int a5), some (.ref L5), some (.int m5), y9, y10, y11, y12, y13, y14, y15, y16, y17, x18, x19] := ⟨_, rfl⟩
    have E3 : E[3]? = some (some (.ref P)) := by rw [hE]; rfl
    have E6 : E[6]? = some (some (.int a5)) := by rw [hE]; rfl
    have E7 : E[7]? = some (some (.ref L5)) := by rw [hE]; rfl
    have E8 : E[8]? = some (some (.int m5)) := by rw [hE]; rfl
    have c1 : mBool (m2 fNe (mFld cs_asked "asked" (mVar 3)) (mVar 6)) E h5 = .ok false h5 := by
      rw [run_bool, run_m2, fld_run (var_run E3) LI5.g.o.p (by simp [cs_asked]) lk_asked, bind_ok, var_run E6, bind_ok, fNe_i, bind_ok]
      simp
    have c2 : mBool (m2 fNe (mFld cs_missed "missed" (mVar 3)) (mVar 8)) E h5 = .ok false h5 := by
      rw [run_bool, run_m2, fld_run (var_run E3) LI5.g.o.p (by simp [cs_missed]) lk_missed, bind_ok, var_run E8, bind_ok, fNe_i, bind_ok]
      simp
    have it := itL_lst LI5.g.eH
    have m1 : mItA (mFld cs_held "held" (mVar 3)) E h5 = .ok ((heldOf tb5 hp5).map hD, [(Hd5, .lst ((heldOf tb5 hp5).map hD))]) h5 := by
      rw [run_itA, fld_run (var_run E3) LI5.g.o.p (by simp [cs_held]) lk_held, bind_ok]
      simp only [it, oR]
    have hE20 : E.length = 20 := by rw [hE]; rfl
    have R := lcL_pure (gs := [(Hd5, .lst ((heldOf tb5 hp5).map hD))]) (g := gU 2 (gsCons (gN 10) (gsCons (gN 19) gsNil))) (t := tYesM) (e := mVar 10) (env := wipeE E [10, 19]) (h := h5) (gdOk_one LI5.g.eH) hD (fun q => some (.int q.1)) (heldOf tb5 hp5) fun q _ => by
      have tg : gU 2 (gsCons (gN 10) (gsCons (gN 19) gsNil)) (hD q) (wipeE E [10, 19]) h5 = .next (((wipeE E [10, 19]).set 10 (some (.int q.1))).set 19 (some (.int q.2))) h5 := rfl
      have w10 : (((wipeE E [10, 19]).set 10 (some (.int q.1))).set 19 (some (.int q.2)))[10]? = some (some (.int q.1)) := by
        rw [List.getElem?_set_ne (by decide)]
        exact List.getElem?_set_self (by simp [wipeE, hE20])
      simp only [lcTurn, tg, run_tyes]
      rw [var_run w10]
    rw [show (heldOf tb5 hp5).filterMap (fun q => some (D.int q.1)) = hp5.map D.int by rw [← heldPages tb5 hp5, ← List.filterMap_eq_map]; rfl] at R
    have lc := lc_run (vs := [10, 19]) (env := E) (ds := (heldOf tb5 hp5).map hD) (gs := [(Hd5, .lst ((heldOf tb5 hp5).map hD))]) m1 (by rw [List.length_map]; unfold heldOf; rw [List.length_map]; omega) R
    rw [← hh6] at lc
    have en : h6[h5.length]? = some (.lst (hp5.map D.int)) := by rw [hh6]; exact get_new
    have c3 : mBool (m2 fNe (mLc [10, 19] (mItA (mFld cs_held "held" (mVar 3))) (gU 2 (gsCons (gN 10) (gsCons (gN 19) gsNil))) tYesM (mVar 10)) (mVar 7)) E h5 = .ok false h6 := by
      rw [run_bool, run_m2, lc, bind_ok, var_run E7, bind_ok, fNe_rints en LI6.eL, bind_ok]
    rw [← hE]
    unfold q_3
    rw [run_if, run_or, c1, bind_ok, if_neg (by simp), run_or, c2, bind_ok, if_neg (by simp), c3]
    rfl
  -- pages()
  obtain ⟨g7, r7⟩ := pages_run LI6.g
  have LI7 : LI h i (h6 ++ g7) P W Hd5 T5 L5 (1 + v) a5 m5 ws5 tb5 hp5 := LI6.app
  obtain ⟨h7, hh7⟩ : ∃ h7 : Hm, h7 = h6 ++ g7 := ⟨_, rfl⟩
  rw [← hh7] at r7 LI7
  obtain ⟨h8, hh8⟩ : ∃ h8 : Hm, h8 = h7 ++ [O.lst ((List.range 5).filterMap (pgRow tb5))] := ⟨_, rfl⟩
  have LI8 : LI h i h8 P W Hd5 T5 L5 (1 + v) a5 m5 ws5 tb5 hp5 := by rw [hh8]; exact LI7.app
  have S4 : q_4 [some d, some (.ref i), some (.int (1 + v)), some (.ref P), some (.ref T5), some (.ref (h2.length + 1)), some (.int a5), some (.ref L5), some (.int m5), y9, y10, y11, y12, y13, y14, y15, y16, y17, x18, x19] h6 = .next [some d, some (.ref i), some (.int (1 + v)), some (.ref P), some (.ref T5), some (.ref (h2.length + 1)), some (.int a5), some (.ref L5), some (.int m5), y9, y10, y11, y12, y13, y14, y15, y16, y17, x18, x19] h8 := by
    obtain ⟨E, hE⟩ : ∃ E : Ev, E = [some d, some (.ref i), some (.int (1 + v)), some (.ref P), some (.ref T5), some (.ref (h2.length + 1)), some (.int a5), some (.ref L5), some (.int m5), y9, y10, y11, y12, y13, y14, y15, y16, y17, x18, x19] := ⟨_, rfl⟩
    have E3 : E[3]? = some (some (.ref P)) := by rw [hE]; rfl
    have E4 : E[4]? = some (some (.ref T5)) := by rw [hE]; rfl
    have hE20 : E.length = 20 := by rw [hE]; rfl
    have pg : mMethF "Pages" "pages" 1 f_Pages_pages (mVar 3) mNil E h6 = .ok (.tup ((List.range 5).filterMap (pgRow tb5))) h7 := (meth_run (ds := []) (var_run E3) LI6.g.o.p rfl rfl rfl).trans r7
    have R := lcL_pure (gs := []) (g := gN 10) (t := mBool (m2 (fIn false) (mVar 10) (mVar 4))) (e := mTup (mCons (mVar 10) (mCons (m2 fIx (m2 fIx (mVar 4) (mVar 10)) (mC (.int 0))) (mCons (m2 fIx (m2 fIx (mVar 4) (mVar 10)) (mC (.int 1))) mNil)))) (env := wipeE E [10]) (h := h7) gdOk_nil (fun k : Nat => D.int (0 + (k : Int))) (pgRow tb5) (List.range 5) fun k _ => by
      obtain ⟨q, hq⟩ : ∃ q : Int, q = 0 + (k : Int) := ⟨_, rfl⟩
      have hq2 : (k : Int) = q := by omega
      unfold pgRow
      rw [← hq, hq2]
      have w10 : ((wipeE E [10]).set 10 (some (.int q)))[10]? = some (some (.int q)) := List.getElem?_set_self (by simp [wipeE, hE20])
      have w4 : ((wipeE E [10]).set 10 (some (.int q)))[4]? = some (some (.ref T5)) := by
        rw [List.getElem?_set_ne (by decide)]
        simp only [wipeE]
        rw [List.getElem?_set_ne (by decide)]
        exact E4
      have inT := fIn_T LI7.eT q
      have ct : mBool (m2 (fIn false) (mVar 10) (mVar 4)) ((wipeE E [10]).set 10 (some (.int q))) h7 = .ok (lookT tb5 q).isSome h7 := by
        rw [run_bool, run_m2, var_run w10, bind_ok, var_run w4, bind_ok, inT, bind_ok]
      simp only [lcTurn, run_gN, ct]
      cases e : lookT tb5 q with
      | none => rfl
      | some x =>
        have ix := ixL (.inr LI7.eT) e
        have i0 : fIx (.tup [.int x.1, .bl x.2]) (.int 0) h7 = .ok (.int x.1) h7 := rfl
        have i1 : fIx (.tup [.int x.1, .bl x.2]) (.int 1) h7 = .ok (.bl x.2) h7 := rfl
        simp only [Option.isSome_some]
        rw [run_tup, run_lcons, var_run w10, bind_ok, run_lcons, run_m2, run_m2, var_run w4, bind_ok, var_run w10, bind_ok, ix, bind_ok, run_C, bind_ok, i0, bind_ok, run_lcons, run_m2, run_m2, var_run w4, bind_ok, var_run w10, bind_ok, ix, bind_ok, run_C, bind_ok, i1, bind_ok, run_lnil, bind_ok, bind_ok, bind_ok, bind_ok]
        rfl
    have lc := lc_run (vs := [10]) (env := E) (rgc_run (n := 5) (env := E) (h := h7) (by decide)) (by decide) R
    rw [← hh8] at lc
    have ft := fTuple_lst (h := h8) (r := h7.length) (ds := (List.range 5).filterMap (pgRow tb5)) (by rw [hh8]; exact get_new)
    have tp : mCall fTuple (mCons (mLc [10] (mRg1 (mCons (mC (.int 5)) mNil)) (gN 10) (mBool (m2 (fIn false) (mVar 10) (mVar 4))) (mTup (mCons (mVar 10) (mCons (m2 fIx (m2 fIx (mVar 4) (mVar 10)) (mC (.int 0))) (mCons (m2 fIx (m2 fIx (mVar 4) (mVar 10)) (mC (.int 1))) mNil))))) mNil) E h7 = .ok (.tup ((List.range 5).filterMap (pgRow tb5))) h8 := by
      rw [run_call, run_lcons]
      rw [show (5 : Int) = ((5 : Nat) : Int) from rfl, lc, bind_ok, run_lnil, bind_ok, bind_ok, ft]
    obtain ⟨py1, ly1⟩ := rows_py h8 tb5 (List.range 5)
    have p60 : py h8 60 (.tup ((List.range 5).filterMap (pgRow tb5))) = some (.tuple ((List.range 5).filterMap fun k : Nat => (lookT tb5 (k : Int)).map (rowPy k))) := by
      show (mapO (py h8 59) _).map PyData.tuple = _
      rw [py1]
      rfl
    have ne := fNe_py p60 p60 (by simp only [PyData.canLay0]; exact ly1)
    rw [← hE]
    unfold q_4
    rw [run_if, run_bool, run_m2, pg, bind_ok, tp, bind_ok, ne]
    rfl
  -- written
  obtain ⟨h9, k1', k2', hp9, ws9, r9, g9, k9⟩ := written_run LI8.g LI8.nT LI8.eT
  have S5 : q_5 [some d, some (.ref i), some (.int (1 + v)), some (.ref P), some (.ref T5), some (.ref (h2.length + 1)), some (.int a5), some (.ref L5), some (.int m5), y9, y10, y11, y12, y13, y14, y15, y16, y17, x18, x19] h8 = .next [some d, some (.ref i), some (.int (1 + v)), some (.ref P), some (.ref T5), some (.ref (h2.length + 1)), some (.int a5), some (.ref L5), some (.int m5), y9, y10, y11, y12, y13, y14, y15, y16, y17, x18, x19] h9 := by
    unfold q_5
    simp only [bind_ok, bind_exn, bindS_ok, bindS_exn, then_next, then_ret, then_brk, then_cont, then_exn, only_next, only_exn, run_nil, run_ret, run_retN, run_drop, run_if, run_asg, run_brk, run_cont, run_raise, run_gN, run_C, run_var, run_m2, run_lnil, run_lcons, run_tup, run_bool, run_tru, run_and, run_or, run_not, run_andV, run_orV, run_notV, run_ifE, run_chain, run_neg, run_sl, run_no, run_some, run_call, run_callF, run_meth, run_subM, run_par, run_par3, run_aug, run_itA, run_fld, run_fldM, run_tyes, fAdd_i, fSub_i, fLt_i, fLe_i, fGt_i, fGe_i, fEq_i, fNe_i, fAbs_i, fInt_i, fInt_b, fEq_s, fNe_s, fEq_b, fMax2_i, fMin2_i, fIAdd_i, fTru_b, fTru_i, run_methF, List.getElem?_cons_succ, List.getElem?_cons_zero, List.length_cons, List.length_nil, List.set_cons_succ, List.set_cons_zero, if_true, if_false, Bool.false_eq_true, Bool.not_true, Bool.not_false, decide_true, decide_false, ite_true, ite_false, Nat.zero_add, Nat.reduceAdd, oR, r9]
  obtain ⟨h10, r10, k10⟩ := refused_run g9
  have S6 : q_6 [some d, some (.ref i), some (.int (1 + v)), some (.ref P), some (.ref T5), some (.ref (h2.length + 1)), some (.int a5), some (.ref L5), some (.int m5), y9, y10, y11, y12, y13, y14, y15, y16, y17, x18, x19] h9 = .next [some d, some (.ref i), some (.int (1 + v)), some (.ref P), some (.ref T5), some (.ref (h2.length + 1)), some (.int a5), some (.ref L5), some (.int m5), y9, y10, y11, y12, y13, y14, y15, y16, y17, x18, x19] h10 := by
    unfold q_6
    simp only [bind_ok, bind_exn, bindS_ok, bindS_exn, then_next, then_ret, then_brk, then_cont, then_exn, only_next, only_exn, run_nil, run_ret, run_retN, run_drop, run_if, run_asg, run_brk, run_cont, run_raise, run_gN, run_C, run_var, run_m2, run_lnil, run_lcons, run_tup, run_bool, run_tru, run_and, run_or, run_not, run_andV, run_orV, run_notV, run_ifE, run_chain, run_neg, run_sl, run_no, run_some, run_call, run_callF, run_meth, run_subM, run_par, run_par3, run_aug, run_itA, run_fld, run_fldM, run_tyes, fAdd_i, fSub_i, fLt_i, fLe_i, fGt_i, fGe_i, fEq_i, fNe_i, fAbs_i, fInt_i, fInt_b, fEq_s, fNe_s, fEq_b, fMax2_i, fMin2_i, fIAdd_i, fTru_b, fTru_i, run_methF, List.getElem?_cons_succ, List.getElem?_cons_zero, List.length_cons, List.length_nil, List.set_cons_succ, List.set_cons_zero, if_true, if_false, Bool.false_eq_true, Bool.not_true, Bool.not_false, decide_true, decide_false, ite_true, ite_false, Nat.zero_add, Nat.reduceAdd, oR, r10]
  have b1 := LI8.bP
  have b2 := LI8.bW
  have b3 := LI8.bH
  have b4 := LI8.bT
  refine ⟨[some (.int (1 + v)), some (.ref P), some (.ref T5), some (.ref (h2.length + 1)), some (.int a5), some (.ref L5), some (.int m5), y9, y10, y11, y12, y13, y14, y15, y16, y17, x18, x19], h10, ?_, rfl, ?_⟩
  · exact seq_next S0 (seq_next S1 (seq_next S2 (seq_next S3 (seq_next S4 (seq_next S5 S6)))))
  · exact fr_kl (fr_kl LI8.fr k9 (by simp; omega)) k10 (by simp; omega)
theorem plain (n : Nat) : PlainLaw f_law n := by
  rw [law_eq]
  exact plain_rounds (by decide) (by decide) round_ok
end K15
end MM

theorem PySem.Challenge.cw_corehall_k15_pages_and_answers_holds : PySem.Challenge.rw_corehall_k15_pages_and_answers.Holds := by
  exact MM.K15.holds MM.K15.plain
