import PyProof.Rows.All
import HandS.ForMost
import HandS.ForExc
import HandS.CallSlots
import HandS.Lambda
import HandS.TupAny
import HandS.TupMul
import HandS.Wide
import HandS.TupLe
import HandS.Flow
import HandS.Style
import HandS.Deep
import HandS.IsInst
import HandS.Small
import HandS.Conv
import HandS.WordsDict
import HandS.SetFor
import HandS.RaiseMore
import HandS.Walk
import HandS.Rev
import HandS.RevRange
import HandS.Zip
import HandS.WordsExc
import HandS.Defaults
import HandS.HeadHook2
import HandS.HeadEnd
import PyProof.SumWalkG
import PyProof.ExcBaseAll.ValueError
import HandS.HeadWalk
import HandS.TryMany
import HandS.HeadHook4
import HandS.TryOnly
import HandS.SortInts
import HandS.More
import PyProof.Draws
import KE.KStateDown
import HandS.Head0
import HandS.Head1
import HandS.Head2
import PySem.Challenge.RW_corehall_k03_a_plain_machine
set_option Elab.async false
set_option linter.all false
set_option maxRecDepth 100000
set_option maxHeartbeats 0
namespace MM
open PySem L2
inductive D where
  | non | bl (b : Bool) | int (i : Int) | str (x : Str) | tup (ds : List D) | ref (i : Nat) | rol (ds : List D)
mutual
def D.beq : D → D → Bool
  | .non, .non => true
  | .bl a, .bl b => a == b
  | .int a, .int b => decide (a = b)
  | .str a, .str b => decide (a = b)
  | .tup a, .tup b => D.beqs a b
  | .ref a, .ref b => a == b
  | .rol a, .rol b => D.beqs a b
  | _, _ => false
def D.beqs : List D → List D → Bool
  | [], [] => true
  | a :: as, b :: bs => D.beq a b && D.beqs as bs
  | _, _ => false
end
mutual
theorem D.beq_ok : ∀ a b : D, D.beq a b = true → a = b := by
  intro a b h
  cases a <;> cases b <;> simp only [D.beq, Bool.false_eq_true, beq_iff_eq, decide_eq_true_eq] at h <;> first | rfl | (subst h; rfl) | (rw [D.beqs_ok _ _ h])
theorem D.beqs_ok : ∀ a b : List D, D.beqs a b = true → a = b := by
  intro a b h
  cases a <;> cases b <;> simp only [D.beqs, Bool.false_eq_true, Bool.and_eq_true] at h
  · rfl
  · rw [D.beq_ok _ _ h.1, D.beqs_ok _ _ h.2]
end
mutual
theorem D.beq_refl : ∀ a : D, D.beq a a = true := by
  intro a
  cases a <;> simp only [D.beq, beq_self_eq_true, decide_true]
  · exact D.beqs_refl _
  · exact D.beqs_refl _
theorem D.beqs_refl : ∀ a : List D, D.beqs a a = true := by
  intro a
  cases a
  · rfl
  · simp only [D.beqs, Bool.and_eq_true]
    exact ⟨D.beq_refl _, D.beqs_refl _⟩
end
instance : DecidableEq D := fun a b => decidable_of_iff (D.beq a b = true) ⟨D.beq_ok a b, fun e => by rw [e]; exact D.beq_refl b⟩
inductive O where
  | lst (ds : List D) | dic (kvs : List (Key × D)) | dicL (kvs : List (Key × D)) | ins (c : Str) (fs : List (Str × D))
  deriving DecidableEq
abbrev Hm := List O
abbrev Ev := List (Option D)
/-- an exception: its class's name, its fields -/
structure Ex where
  cls : Str
  fs : List (Str × D)
  deriving DecidableEq
inductive R (α : Type) where
  | ok (a : α) (h : Hm)
  | exn (x : Ex) (h : Hm)
  | bad
def R.bind {α β : Type} (r : R α) (k : α → Hm → R β) : R β := match r with
  | .ok a h => k a h
  | .exn x h => .exn x h
  | .bad => .bad
structure Gx where
  K : PySem.W.Frag
  mg : Str → Option Value
  T : List (Addr × Str)
def KTup (K : PySem.W.Frag) (a : Addr) (xs : List V) : Prop :=
  ∃ (o : Obj) (its : Array Value) (n : Nat), K.lookup a = some o ∧ o.cls = .type "tuple" ∧ o.data = .seq its n ∧ its.size ≤ sizeLine ∧ Vals xs its.toList
def KLst (K : PySem.W.Frag) (a : Addr) (xs : List V) : Prop :=
  ∃ (o : Obj) (its : Array Value) (n : Nat), K.lookup a = some o ∧ o.cls = .type "list" ∧ o.dict = none ∧ o.data = .seq its n ∧ its.size ≤ sizeLine ∧ Vals xs its.toList
def TupAt (K : PySem.W.Frag) (π : List Addr) (H : Hp) (a : Addr) (xs : List V) : Prop := (H a = some (.tup xs) ∧ a ∉ π) ∨ KTup K a xs
def LstAt (K : PySem.W.Frag) (π : List Addr) (H : Hp) (a : Addr) (xs : List V) : Prop := (∃ o, H a = some (.frz o (.lst xs)) ∧ a ∉ π) ∨ KLst K a xs
theorem TupAt.sq {K : PySem.W.Frag} {π : List Addr} {H : Hp} {a : Addr} {xs : List V} (h : TupAt K π H a xs) : SqT K H a xs := by
  rcases h with ⟨h, _⟩ | h
  · exact .inl (.inl h)
  · exact .inr h
theorem LstAt.sq {K : PySem.W.Frag} {π : List Addr} {H : Hp} {a : Addr} {xs : List V} (h : LstAt K π H a xs) : SqL K H a xs := by
  rcases h with ⟨o, h, _⟩ | h
  · exact .inl (.inr ⟨o, h⟩)
  · exact .inr h
/-- what a step of the program leaves of what it does not know -/
structure Step (π : List Addr) (H : Hp) (π' : List Addr) (H' : Hp) : Prop where
  ext : ∃ more, π' = π ++ more
  out : ∀ a o, H a = some o → a ∉ π → (∀ ps, o ≠ .tbl ps) → a ∉ π'
  keep : ∀ a o, H a = some o → a ∉ π → (∀ ps, o ≠ .tbl ps) → H' a = some o
  frz : ∀ a o u, H a = some (.frz o u) → H' a = some (.frz o u)
theorem Step.refl {π : List Addr} {H : Hp} : Step π H π H := ⟨⟨[], by simp⟩, fun _ _ _ h _ => h, fun _ _ h _ _ => h, fun _ _ _ h => h⟩
theorem Step.trans {π π1 π2 : List Addr} {H H1 H2 : Hp} (a : Step π H π1 H1) (b : Step π1 H1 π2 H2) : Step π H π2 H2 := by
  obtain ⟨m1, e1⟩ := a.ext
  obtain ⟨m2, e2⟩ := b.ext
  exact ⟨⟨m1 ++ m2, by rw [e2, e1, List.append_assoc]⟩, fun x o h n t => b.out x o (a.keep x o h n t) (a.out x o h n t) t, fun x o h n t => b.keep x o (a.keep x o h n t) (a.out x o h n t) t, fun x o u h => b.frz x o u (a.frz x o u h)⟩
theorem Step.get {π π' : List Addr} {H H' : Hp} (s : Step π H π' H') {i : Nat} {a : Addr} (h : π[i]? = some a) : π'[i]? = some a := by
  obtain ⟨m, e⟩ := s.ext
  rw [e, List.getElem?_append_left (List.getElem?_eq_some_iff.mp h).1]
  exact h
mutual
def DV (K : PySem.W.Frag) (π : List Addr) (H : Hp) : D → V → Prop
  | .non, v => v = .non
  | .bl b, v => v = .bl b
  | .int i, v => v = .int i
  | .str x, v => v = .str x
  | .ref i, v => ∃ a, π[i]? = some a ∧ v = .ref a
  | .tup ds, v => ∃ a xs, v = .ref a ∧ TupAt K π H a xs ∧ DVs K π H ds xs
  | .rol ds, v => ∃ a xs, v = .ref a ∧ LstAt K π H a xs ∧ DVs K π H ds xs
def DVs (K : PySem.W.Frag) (π : List Addr) (H : Hp) : List D → List V → Prop
  | [], xs => xs = []
  | d :: ds, xs => ∃ v vs, xs = v :: vs ∧ DV K π H d v ∧ DVs K π H ds vs
end
section
variable {K : PySem.W.Frag} {π π' : List Addr} {H H' : Hp}
theorem TupAt.step (s : Step π H π' H') {a : Addr} {xs : List V} (h : TupAt K π H a xs) : TupAt K π' H' a xs := by
  rcases h with ⟨h, n⟩ | h
  · exact .inl ⟨s.keep a _ h n (fun ps z => by cases z), s.out a _ h n (fun ps z => by cases z)⟩
  · exact .inr h
theorem LstAt.step (s : Step π H π' H') {a : Addr} {xs : List V} (h : LstAt K π H a xs) : LstAt K π' H' a xs := by
  rcases h with ⟨o, h, n⟩ | h
  · exact .inl ⟨o, s.keep a _ h n (fun ps z => by cases z), s.out a _ h n (fun ps z => by cases z)⟩
  · exact .inr h
mutual
theorem DV.step (s : Step π H π' H') : ∀ (d : D) (v : V), DV K π H d v → DV K π' H' d v
  | .non, _, h => h
  | .bl _, _, h => h
  | .int _, _, h => h
  | .str _, _, h => h
  | .ref _, _, ⟨a, h, e⟩ => ⟨a, s.get h, e⟩
  | .tup ds, _, ⟨a, xs, e, h, q⟩ => ⟨a, xs, e, h.step s, DVs.step s ds xs q⟩
  | .rol ds, _, ⟨a, xs, e, h, q⟩ => ⟨a, xs, e, h.step s, DVs.step s ds xs q⟩
theorem DVs.step (s : Step π H π' H') : ∀ (ds : List D) (xs : List V), DVs K π H ds xs → DVs K π' H' ds xs
  | [], _, h => h
  | d :: ds, _, ⟨v, vs, e, h, q⟩ => ⟨v, vs, e, DV.step s d v h, DVs.step s ds vs q⟩
end
theorem DVs.len : ∀ {ds : List D} {xs : List V}, DVs K π H ds xs → xs.length = ds.length
  | [], _, h => by rw [show _ = [] from h] <;> rfl
  | d :: ds, _, ⟨v, vs, e, _, q⟩ => by rw [e, List.length_cons, List.length_cons, DVs.len q]
theorem DVs.get : ∀ {ds : List D} {xs : List V} {i : Nat} {d : D}, DVs K π H ds xs → ds[i]? = some d → ∃ v, xs[i]? = some v ∧ DV K π H d v
  | d :: ds, _, 0, d', ⟨v, vs, e, h, q⟩, g => by
    have g' : d = d' := Option.some.inj g
    subst g'
    exact ⟨v, by rw [e] <;> rfl, h⟩
  | d :: ds, _, i + 1, d', ⟨v, vs, e, h, q⟩, g => by
    obtain ⟨w, h1, h2⟩ := DVs.get (i := i) q g
    exact ⟨w, by rw [e]; exact h1, h2⟩
theorem DVs.app : ∀ {ds es : List D} {xs ys : List V}, DVs K π H ds xs → DVs K π H es ys → DVs K π H (ds ++ es) (xs ++ ys)
  | [], _, _, _, h, q => by rw [show _ = [] from h]; exact q
  | d :: ds, _, _, _, ⟨v, vs, e, h, q⟩, r => ⟨v, vs ++ _, by rw [e] <;> rfl, h, DVs.app q r⟩
theorem DVs.one {d : D} {v : V} (h : DV K π H d v) : DVs K π H [d] [v] := ⟨v, [], rfl, h, rfl⟩
theorem DVs.two {d e : D} {v w : V} (h : DV K π H d v) (q : DV K π H e w) : DVs K π H [d, e] [v, w] := ⟨v, [w], rfl, h, w, [], rfl, q, rfl⟩
theorem DVs.take : ∀ (n : Nat) {ds : List D} {xs : List V}, DVs K π H ds xs → DVs K π H (ds.take n) (xs.take n)
  | 0, _, _, _ => rfl
  | n + 1, [], _, h => by rw [show _ = [] from h]; rfl
  | n + 1, d :: ds, _, ⟨v, vs, e, h, q⟩ => ⟨v, vs.take n, by rw [e] <;> rfl, h, DVs.take n q⟩
theorem DVs.drop : ∀ (n : Nat) {ds : List D} {xs : List V}, DVs K π H ds xs → DVs K π H (ds.drop n) (xs.drop n)
  | 0, _, _, h => h
  | n + 1, [], _, h => by rw [show _ = [] from h]; rfl
  | n + 1, d :: ds, _, ⟨v, vs, e, h, q⟩ => by rw [e]; exact DVs.drop n q
theorem DVs.set : ∀ (i : Nat) {ds : List D} {xs : List V} {d : D} {v : V}, DVs K π H ds xs → DV K π H d v → DVs K π H (ds.set i d) (xs.set i v)
  | _, [], _, _, _, h, _ => by rw [show _ = [] from h]; rfl
  | 0, d :: ds, _, _, w, ⟨v, vs, e, h, q⟩, r => ⟨w, vs, by rw [e] <;> rfl, r, q⟩
  | i + 1, d :: ds, _, _, w, ⟨v, vs, e, h, q⟩, r => ⟨v, vs.set i w, by rw [e] <;> rfl, h, DVs.set i q r⟩
theorem DVs.snoc {ds : List D} {xs : List V} {d : D} {v : V} (h : DVs K π H ds xs) (q : DV K π H d v) : DVs K π H (ds ++ [d]) (xs ++ [v]) := h.app (.one q)
end
def DPs {κ : Type} (K : PySem.W.Frag) (π : List Addr) (H : Hp) : List (κ × D) → List (κ × V) → Prop
  | [], xs => xs = []
  | p :: ps, xs => ∃ v vs, xs = (p.1, v) :: vs ∧ DV K π H p.2 v ∧ DPs K π H ps vs
theorem DPs.step {κ : Type} {K : PySem.W.Frag} {π π' : List Addr} {H H' : Hp} (s : Step π H π' H') : ∀ (ps : List (κ × D)) (xs : List (κ × V)), DPs K π H ps xs → DPs K π' H' ps xs
  | [], _, h => h
  | p :: ps, _, ⟨v, vs, e, h, q⟩ => ⟨v, vs, e, h.step s _ _, DPs.step s ps vs q⟩
theorem DPs.len {κ : Type} {K : PySem.W.Frag} {π : List Addr} {H : Hp} : ∀ {ps : List (κ × D)} {xs : List (κ × V)}, DPs K π H ps xs → xs.length = ps.length
  | [], _, h => by rw [show _ = [] from h] <;> rfl
  | p :: ps, _, ⟨v, vs, e, h, q⟩ => by rw [e, List.length_cons, List.length_cons, DPs.len q]
def OV (G : Gx) (π : List Addr) (H : Hp) (a : Addr) : O → Prop
  | .lst ds => ∃ xs, H a = some (.lst xs) ∧ DVs G.K π H ds xs
  | .dic kvs => ∃ xs, H a = some (.dK xs) ∧ DPs G.K π H kvs xs
  | .dicL kvs => ∃ o xs, H a = some (.frz o (.dK xs)) ∧ DPs G.K π H kvs xs
  | .ins c fs => ∃ C dx xs, G.mg c = some (.ref C) ∧ H a = some (.ins C dx xs) ∧ DPs G.K π H fs xs
theorem OV.some {G : Gx} {π : List Addr} {H : Hp} {a : Addr} {o : O} (h : OV G π H a o) : ∃ u, H a = some u := by
  cases o with
  | lst ds => obtain ⟨xs, h, _⟩ := h; exact ⟨_, h⟩
  | dic ds => obtain ⟨xs, h, _⟩ := h; exact ⟨_, h⟩
  | dicL ds => obtain ⟨o, xs, h, _⟩ := h; exact ⟨_, h⟩
  | ins c fs => obtain ⟨C, dx, xs, _, h, _⟩ := h; exact ⟨_, h⟩
/-- an object stands as it stood, the rest has gone on -/
theorem OV.step {G : Gx} {π π' : List Addr} {H H' : Hp} {a : Addr} {o : O} (s : Step π H π' H') (e : H' a = H a) (h : OV G π H a o) : OV G π' H' a o := by
  cases o with
  | lst ds => obtain ⟨xs, h, q⟩ := h; exact ⟨xs, e.trans h, q.step s _ _⟩
  | dic ds => obtain ⟨xs, h, q⟩ := h; exact ⟨xs, e.trans h, q.step s _ _⟩
  | dicL ds => obtain ⟨o, xs, h, q⟩ := h; exact ⟨o, xs, e.trans h, q.step s _ _⟩
  | ins c fs => obtain ⟨C, dx, xs, g, h, q⟩ := h; exact ⟨C, dx, xs, g, e.trans h, q.step s _ _⟩
structure Good (G : Gx) (π : List Addr) (h : Hm) (H : Hp) : Prop where
  len : π.length = h.length
  nd : π.Nodup
  ob : ∀ (i : Nat) (a : Addr) (o : O), π[i]? = some a → h[i]? = some o → OV G π H a o
  tabs : LamX.Tabs G.T H
  tout : ∀ p ∈ G.T, p.1 ∉ π
section
variable {G : Gx} {π π' : List Addr} {h h' : Hm} {H H' : Hp}
theorem Good.in_ (g : Good G π h H) {a : Addr} (m : a ∈ π) : ∃ u, H a = some u := by
  obtain ⟨i, hi, e⟩ := List.mem_iff_getElem.mp m
  have q : π[i]? = some a := by rw [List.getElem?_eq_getElem hi, e]
  obtain ⟨o, ho⟩ : ∃ o, h[i]? = some o := ⟨h[i]'(by rw [← g.len]; exact hi), List.getElem?_eq_getElem _⟩
  exact (g.ob i a o q ho).some
theorem Good.free (g : Good G π h H) {a : Addr} (n : H a = none) : a ∉ π := fun m => by
  obtain ⟨u, e⟩ := g.in_ m
  rw [n] at e
  cases e
theorem Good.at_ (g : Good G π h H) {i : Nat} {o : O} (e : h[i]? = some o) : ∃ a, π[i]? = some a ∧ OV G π H a o := by
  have hi : i < π.length := by rw [g.len]; exact (List.getElem?_eq_some_iff.mp e).1
  exact ⟨π[i], List.getElem?_eq_getElem hi, g.ob i _ o (List.getElem?_eq_getElem hi) e⟩
theorem Good.obj (g : Good G π h H) {i : Nat} {a : Addr} {o : O} (e : h[i]? = some o) (q : π[i]? = some a) : OV G π H a o := g.ob i a o q e
/-- a table is none of ours -/
theorem tab_at {P : Addr} {q : Str} {H : Hp} (t : LamX.TabS H P q) : ∃ ps, H P = some (.tbl ps) := by
  obtain ⟨ps, e, _⟩ := t
  exact ⟨ps, e⟩
/-- the tables stay -/
theorem Good.tabs_upd (g : Good G π h H) {a : Addr} {o : HO} (e : H a = none ∨ ∃ u, H a = some u ∧ ¬ (∃ ps, u = .tbl ps) ∧ ∀ c q, u ≠ LamX.CodeO c q) : LamX.Tabs G.T (upd H a o) := fun p hp => by
  obtain ⟨ps, e1, e2, e3⟩ := g.tabs p hp
  have n1 : p.1 ≠ a := fun z => by
    rw [z] at e1
    rcases e with e | ⟨u, e, n, _⟩
    · rw [e] at e1; cases e1
    · rw [e] at e1; cases e1; exact n ⟨_, rfl⟩
  refine ⟨ps, by rw [upd_ne n1]; exact e1, e2, fun pos cv hc => ?_⟩
  obtain ⟨c, h1, h2⟩ := e3 pos cv hc
  have n2 : c ≠ a := fun z => by
    rw [z] at h2
    rcases e with e | ⟨u, e, _, n⟩
    · rw [e] at h2; cases h2
    · rw [e] at h2; exact n _ _ (Option.some.inj h2)
  exact ⟨c, h1, by rw [upd_ne n2]; exact h2⟩
/-- a new thing that is none of ours (a tuple, an iterator) -/
theorem Step.other (g : Good G π h H) {a : Addr} {o : HO} (n : H a = none) : Step π H π (upd H a o) :=
  ⟨⟨[], by simp⟩, fun _ _ _ q _ => q, fun b u e _ _ => by rw [upd_ne (ne_of_none e n)]; exact e, fun b o u e => by rw [upd_ne (ne_of_none e n)]; exact e⟩
theorem Good.other (g : Good G π h H) {a : Addr} {o : HO} (n : H a = none) : Good G π h (upd H a o) := by
  have s : Step π H π (upd H a o) := Step.other g n
  refine ⟨g.len, g.nd, fun i b u e1 e2 => ?_, g.tabs_upd (.inl n), g.tout⟩
  obtain ⟨w, e⟩ := (g.ob i b u e1 e2).some
  exact (g.ob i b u e1 e2).step s (upd_ne (ne_of_none e n))
/-- a new object of ours -/
theorem Step.new (g : Good G π h H) {a : Addr} {u : HO} (n : H a = none) : Step π H (π ++ [a]) (upd H a u) := by
  refine ⟨⟨[a], rfl⟩, fun b o e q _ m => ?_, fun b o e _ _ => by rw [upd_ne (ne_of_none e n)]; exact e, fun b o u e => by rw [upd_ne (ne_of_none e n)]; exact e⟩
  rcases List.mem_append.mp m with m | m
  · exact q m
  · rw [List.mem_singleton] at m
    exact ne_of_none e n m
theorem Good.new (g : Good G π h H) {a : Addr} {u : HO} {o : O} (n : H a = none) (w : OV G (π ++ [a]) (upd H a u) a o) : Good G (π ++ [a]) (h ++ [o]) (upd H a u) := by
  have s := Step.new (u := u) g n
  refine ⟨by rw [List.length_append, List.length_append, g.len] <;> rfl, ?_, fun i b v e1 e2 => ?_, g.tabs_upd (.inl n), fun p hp m => ?_⟩
  · rw [List.nodup_append]
    refine ⟨g.nd, by simp, fun x hx y hy z => ?_⟩
    rw [List.mem_singleton] at hy
    rw [z, hy] at hx
    exact g.free n hx
  · by_cases hi : i < π.length
    · rw [List.getElem?_append_left hi] at e1
      rw [List.getElem?_append_left (by rw [← g.len]; exact hi)] at e2
      obtain ⟨w', e⟩ := (g.ob i b v e1 e2).some
      exact (g.ob i b v e1 e2).step s (upd_ne (ne_of_none e n))
    · have h1 := (List.getElem?_eq_some_iff.mp e1).1
      have hi' : i = π.length := by
        rw [List.length_append, List.length_singleton] at h1
        omega
      subst hi'
      rw [List.getElem?_append_right (Nat.le_refl _), Nat.sub_self] at e1
      rw [List.getElem?_append_right (by rw [g.len]; exact Nat.le_refl _), g.len, Nat.sub_self] at e2
      have e1' : a = b := Option.some.inj e1
      have e2' : o = v := Option.some.inj e2
      subst e1' e2'
      exact w
  · rcases List.mem_append.mp m with m | m
    · exact g.tout p hp m
    · rw [List.mem_singleton] at m
      obtain ⟨ps, e⟩ := tab_at (g.tabs p hp)
      rw [m, n] at e
      cases e
theorem nodup_ix' {α : Type} {l : List α} (hN : l.Nodup) {i j : Nat} {x : α} (a : l[i]? = some x) (b : l[j]? = some x) : i = j := by
  obtain ⟨h1, e1⟩ := List.getElem?_eq_some_iff.mp a
  obtain ⟨h2, e2⟩ := List.getElem?_eq_some_iff.mp b
  exact (List.getElem_inj hN).mp (e1.trans e2.symm)
theorem nfz {a : Addr} {v : HO} (e : H a = some v) (n : ∀ o u, v ≠ .frz o u) : ∀ o u, H a ≠ some (.frz o u) := fun o u z => n o u (Option.some.inj (e.symm.trans z))
/-- an object of ours changes -/
theorem Step.put {i : Nat} {a : Addr} {u : HO} (m : π[i]? = some a) (nf : ∀ o u, H a ≠ some (.frz o u)) : Step π H π (upd H a u) := by
  have ma := List.mem_of_getElem? m
  exact ⟨⟨[], by simp⟩, fun _ _ _ q _ => q, fun b o e q _ => by rw [upd_ne (show b ≠ a from fun z => q (by rw [z]; exact ma))]; exact e, fun b o u e => by rw [upd_ne (show b ≠ a from fun z => nf o u (by rw [← z]; exact e))]; exact e⟩
theorem Good.put (g : Good G π h H) {i : Nat} {a : Addr} {u : HO} {o : O} (m : π[i]? = some a) (nf : ∀ o u, H a ≠ some (.frz o u)) (w : OV G π (upd H a u) a o) : Good G π (h.set i o) (upd H a u) := by
  have s : Step π H π (upd H a u) := Step.put m nf
  have hi : i < h.length := by rw [← g.len]; exact (List.getElem?_eq_some_iff.mp m).1
  have tb : ∀ b v, b ∈ π → H b = some v → (¬ ∃ ps, v = .tbl ps) ∧ ∀ c q, v ≠ LamX.CodeO c q := fun b v hb e => by
    obtain ⟨j, hj, ej⟩ := List.mem_iff_getElem.mp hb
    have q : π[j]? = some b := by rw [List.getElem?_eq_getElem hj, ej]
    have ho : h[j]? = some (h[j]'(by rw [← g.len]; exact hj)) := List.getElem?_eq_getElem _
    have z := g.ob j b _ q ho
    generalize h[j]'(by rw [← g.len]; exact hj) = oo at z
    cases oo with
    | lst ds => obtain ⟨xs, z, _⟩ := z; rw [e] at z; cases z; exact ⟨fun ⟨ps, z⟩ => (by cases z), fun c q z => (by unfold LamX.CodeO at z; cases z)⟩
    | dic ds => obtain ⟨xs, z, _⟩ := z; rw [e] at z; cases z; exact ⟨fun ⟨ps, z⟩ => (by cases z), fun c q z => (by unfold LamX.CodeO at z; cases z)⟩
    | dicL ds => obtain ⟨o, xs, z, _⟩ := z; rw [e] at z; cases z; exact ⟨fun ⟨ps, z⟩ => (by cases z), fun c q z => (by unfold LamX.CodeO at z; cases z)⟩
    | ins c fs => obtain ⟨C, dx, xs, _, z, _⟩ := z; rw [e] at z; cases z; exact ⟨fun ⟨ps, z⟩ => (by cases z), fun c q z => (by unfold LamX.CodeO at z; cases z)⟩
  obtain ⟨v0, e0⟩ := g.in_ (List.mem_of_getElem? m)
  obtain ⟨t1, t2⟩ := tb a v0 (List.mem_of_getElem? m) e0
  refine ⟨by rw [List.length_set]; exact g.len, g.nd, fun j b v e1 e2 => ?_, g.tabs_upd (.inr ⟨v0, e0, t1, t2⟩), g.tout⟩
  by_cases hj : j = i
  · subst hj
    rw [m] at e1
    cases e1
    rw [List.getElem?_set_self hi] at e2
    cases e2
    exact w
  · rw [List.getElem?_set_ne (Ne.symm hj)] at e2
    have ne : b ≠ a := fun z => hj (nodup_ix' g.nd e1 (by rw [z]; exact m))
    exact (g.ob j b v e1 e2).step s (upd_ne ne)
end
end MM
namespace MM
open PySem L2
abbrev gx (X : Cx) (T : List (Addr × Str)) : Gx := ⟨X.K, X.mg, T⟩
structure EnvOk (G : Gx) (π : List Addr) (H : Hp) (env : Ev) (σ : L2.St) : Prop where
  len : σ.length = env.length
  get : ∀ (i : Nat) (d : D), env[i]? = some (some d) → ∃ v, σ[i]? = some (some v) ∧ DV G.K π H d v
structure S (G : Gx) (π : List Addr) (env : Ev) (h : Hm) (σ : L2.St) (H : Hp) : Prop where
  good : Good G π h H
  env : EnvOk G π H env σ
def ExV (G : Gx) (π : List Addr) (H : Hp) (x : Ex) (cls : Value) (d : Option Addr) : Prop :=
  ∃ C, G.mg x.cls = some (.ref C) ∧ cls = .ref C ∧ match d with
    | none => x.fs = []
    | some dx => ∃ xs, H dx = some (.xd xs) ∧ dx ∉ π ∧ DPs G.K π H x.fs xs
def Post (G : Gx) (W : WX) (π : List Addr) (σ : L2.St) (H : Hp) {α : Type} (r : R α) (Q : List Addr → Hp → Hm → α → Prop) : Prop := match r with
  | .ok a h' => ∀ π' H', Step π H π' H' → Good G π' h' H' → Q π' H' h' a
  | .exn x h' => ∀ π' H' cls d, Step π H π' H' → Good G π' h' H' → ExV G π' H' x cls d → W cls d σ H'
  | .bad => False
section
variable {G : Gx} {W : WX} {π π' : List Addr} {σ : L2.St} {H H' : Hp} {env : Ev} {h h' : Hm} {α β : Type}
theorem EnvOk.step (s : Step π H π' H') (e : EnvOk G π H env σ) : EnvOk G π' H' env σ := ⟨e.len, fun i d q => by
  obtain ⟨v, h1, h2⟩ := e.get i d q
  exact ⟨v, h1, h2.step s _ _⟩⟩
theorem EnvOk.set (e : EnvOk G π H env σ) {d : D} {v : V} (q : DV G.K π H d v) (i : Nat) : EnvOk G π H (env.set i (some d)) (σ.set i (some v)) := by
  refine ⟨by rw [List.length_set, List.length_set, e.len], fun j d' g => ?_⟩
  by_cases hj : j = i
  · subst hj
    have hl : j < env.length := by
      have z := (List.getElem?_eq_some_iff.mp g).1
      rw [List.length_set] at z
      exact z
    rw [List.getElem?_set_self hl] at g
    cases g
    exact ⟨v, List.getElem?_set_self (by rw [e.len]; exact hl), q⟩
  · rw [List.getElem?_set_ne (Ne.symm hj)] at g
    obtain ⟨w, h1, h2⟩ := e.get j d' g
    exact ⟨w, by rw [List.getElem?_set_ne (Ne.symm hj)]; exact h1, h2⟩
theorem EnvOk.gone (e : EnvOk G π H env σ) (i : Nat) : EnvOk G π H (env.set i none) (σ.set i none) := by
  refine ⟨by rw [List.length_set, List.length_set, e.len], fun j d' g => ?_⟩
  by_cases hj : j = i
  · subst hj
    have hl : j < env.length := by
      have z := (List.getElem?_eq_some_iff.mp g).1
      rw [List.length_set] at z
      exact z
    rw [List.getElem?_set_self hl] at g
    cases g
  · rw [List.getElem?_set_ne (Ne.symm hj)] at g
    obtain ⟨w, h1, h2⟩ := e.get j d' g
    exact ⟨w, by rw [List.getElem?_set_ne (Ne.symm hj)]; exact h1, h2⟩
theorem S.step (s : Step π H π' H') (g : Good G π' h' H') (x : S G π env h σ H) : S G π' env h' σ H' := ⟨g, x.env.step s⟩
theorem Post.mono {r : R α} {Q Q' : List Addr → Hp → Hm → α → Prop} (p : Post G W π σ H r Q) (w : ∀ π' H' h' a, Step π H π' H' → Good G π' h' H' → Q π' H' h' a → Q' π' H' h' a) : Post G W π σ H r Q' := by
  cases r with
  | ok a h' => exact fun π' H' s g => w _ _ _ _ s g (p π' H' s g)
  | exn x h' => exact p
  | bad => exact p
theorem Post.bind {r : R α} {k : α → Hm → R β} {Q : List Addr → Hp → Hm → β → Prop} (p : Post G W π σ H (r.bind k) Q) : Post G W π σ H r fun π' H' h' a => Post G W π' σ H' (k a h') Q := by
  cases r with
  | ok a h' =>
    intro π' H' s g
    have p' : Post G W π σ H (k a h') Q := p
    generalize k a h' = z at p' ⊢
    cases z with
    | ok b h2 => exact fun π2 H2 s2 g2 => p' π2 H2 (s.trans s2) g2
    | exn x h2 => exact fun π2 H2 cls d s2 g2 e => p' π2 H2 cls d (s.trans s2) g2 e
    | bad => exact p'
  | exn x h' => exact p
  | bad => exact p
end
/-- an expression's run, as a reading -/
def tE (G : Gx) (W : WX) (m : Ev → Hm → R D) : TE := fun σ H Q => ∃ π env h, S G π env h σ H ∧ Post G W π σ H (m env h) fun π' H' _ d => ∀ v, DV G.K π' H' d v → Q v H'
def tB' (G : Gx) (W : WX) (m : Ev → Hm → R Bool) : TT := fun σ H Q => ∃ π env h, S G π env h σ H ∧ Post G W π σ H (m env h) fun _ H' _ b => Q b H'
def tL (G : Gx) (W : WX) (m : Ev → Hm → R (List D)) : TA := fun σ H Q => ∃ π env h, S G π env h σ H ∧ Post G W π σ H (m env h) fun π' H' _ ds => ∀ vs, DVs G.K π' H' ds vs → Q vs H'
theorem PE.of {X : Cx} {e : Expr} {t t' : TE} (p : PE X e t) (w : ∀ σ H Q, t' σ H Q → t σ H Q) : PE X e t' := ⟨fun pins s σ H Q I h => p.run pins s σ H Q I (w σ H Q h)⟩
theorem PT.of {X : Cx} {e : Expr} {t t' : TT} (p : PT X e t) (w : ∀ σ H Q, t' σ H Q → t σ H Q) : PT X e t' := ⟨fun pins s σ H Q I h => p.run pins s σ H Q I (w σ H Q h)⟩
theorem PA.of {X : Cx} {e : List Expr} {t t' : TA} (p : PA X e t) (w : ∀ σ H Q, t' σ H Q → t σ H Q) : PA X e t' := ⟨fun pos pins s σ H Q I h => p.run pos pins s σ H Q I (w σ H Q h)⟩
theorem PS.of {X : Cx} {e : Stmt} {t t' : TS} (p : PS X e t) (w : ∀ D σ H, t' D σ H → t D σ H) : PS X e t' := ⟨fun pins s σ H D I h => p.run pins s σ H D I (w D σ H h)⟩
theorem PSs.of {X : Cx} {e : List Stmt} {t t' : TS} (p : PSs X e t) (w : ∀ D σ H, t' D σ H → t D σ H) : PSs X e t' := ⟨fun pins s σ H D I h => p.run pins s σ H D I (w D σ H h)⟩
abbrev Em (X : Cx) (T : List (Addr × Str)) (W : WX) (e : Expr) (m : Ev → Hm → R D) : Prop := PE X e (tE (gx X T) W m)
abbrev Tm (X : Cx) (T : List (Addr × Str)) (W : WX) (e : Expr) (m : Ev → Hm → R Bool) : Prop := PT X e (tB' (gx X T) W m)
abbrev Am (X : Cx) (T : List (Addr × Str)) (W : WX) (e : List Expr) (m : Ev → Hm → R (List D)) : Prop := PA X e (tL (gx X T) W m)
def mC (d : D) : Ev → Hm → R D := fun _ h => .ok d h
def mVar (i : Nat) : Ev → Hm → R D := fun env h => match env[i]? with
  | some (some d) => .ok d h
  | _ => .bad
/-- a two-place operation on data -/
abbrev F2 := D → D → Hm → R D
def m2 (f : F2) (a b : Ev → Hm → R D) : Ev → Hm → R D := fun env h => (a env h).bind fun x h1 => (b env h1).bind fun y h2 => f x y h2
def mNil : Ev → Hm → R (List D) := fun _ h => .ok [] h
def mCons (a : Ev → Hm → R D) (r : Ev → Hm → R (List D)) : Ev → Hm → R (List D) := fun env h => (a env h).bind fun x h1 => (r env h1).bind fun xs h2 => .ok (x :: xs) h2
def mTup (r : Ev → Hm → R (List D)) : Ev → Hm → R D := fun env h => (r env h).bind fun xs h1 => .ok (.tup xs) h1
def mLst (r : Ev → Hm → R (List D)) : Ev → Hm → R D := fun env h => (r env h).bind fun xs h1 => .ok (.ref h1.length) (h1 ++ [.lst xs])
section
variable {X : Cx} {T : List (Addr × Str)} {W : WX} {a b e : Expr} {es : List Expr} {ma mb me : Ev → Hm → R D} {mr : Ev → Hm → R (List D)} {pos : Pos}
theorem em_int {i j} : Em X T W (.Constant (.int i) j pos) (mC (.int i)) := PE.of pe_int fun σ H Q ⟨π, env, h, s, p⟩ => p π H Step.refl s.good _ rfl
theorem em_bl {i j} : Em X T W (.Constant (.bool i) j pos) (mC (.bl i)) := PE.of pe_bl fun σ H Q ⟨π, env, h, s, p⟩ => p π H Step.refl s.good _ rfl
theorem em_non {j} : Em X T W (.Constant .none j pos) (mC .non) := PE.of pe_non fun σ H Q ⟨π, env, h, s, p⟩ => p π H Step.refl s.good _ rfl
theorem em_str {i j} : Em X T W (.Constant (.str i) j pos) (mC (.str i)) := PE.of pe_str fun σ H Q ⟨π, env, h, s, p⟩ => p π H Step.refl s.good _ rfl
theorem em_var (i : Nat) {x : Str} (hN : X.N[i]? = some x := by rfl) (hv : Vis X.env.scope x := by first | exact Or.inl rfl | exact Or.inr (Or.inl rfl) | exact Or.inr (Or.inr rfl)) (hd : (x == ("__debug__" : Str)) = false := by rfl)
    (hcd : (x == ("__classdict__" : Str)) = false := by rfl) : Em X T W (.Name x pos) (mVar i) := PE.of (pe_var hN hv hd hcd) fun σ H Q ⟨π, env, h, s, p⟩ => by
  cases q : env[i]? with
  | none => simp only [mVar, q] at p; exact p.elim
  | some o =>
    cases o with
    | none => simp only [mVar, q] at p; exact p.elim
    | some d =>
      obtain ⟨v, h1, h2⟩ := s.env.get i d q
      simp only [mVar, q] at p
      exact ⟨v, h1, p π H Step.refl s.good v h2⟩
/-- a value of the module -/
theorem em_glob {x : Str} {d : D} {v : V} {u : Value} (hg : Gl X x) (hm : X.mg x = some u) (r : RelV v u) (hd : ∀ π H, DV X.K π H d v) (hdb : (x == ("__debug__" : Str)) = false := by rfl) : Em X T W (.Name x pos) (mC d) :=
  PE.of (pe_glob hg hm r hdb) fun σ H Q ⟨π, env, h, s, p⟩ => p π H Step.refl s.good _ (hd π H)
/-- what a rule of the hand layer does, in data -/
def Op2 (G : Gx) (r : R2) (f : F2) : Prop := ∀ (W : WX) (π : List Addr) (σ : L2.St) (h : Hm) (H : Hp) (d e : D) (x y : V) (Q : VK), Good G π h H → DV G.K π H d x → DV G.K π H e y → Post G W π σ H (f d e h) (fun π' H' _ z => ∀ v, DV G.K π' H' z v → Q v H') → r x y H Q
theorem chain2 {r : R2} {f : F2} (ho : Op2 (gx X T) r f) {σ : L2.St} {H : Hp} {Q : VK} (p : tE (gx X T) W (m2 f ma mb) σ H Q) : tOp r (tE (gx X T) W ma) (tE (gx X T) W mb) σ H Q := by
  obtain ⟨π, env, h, s, p⟩ := p
  refine ⟨π, env, h, s, p.bind.mono fun π1 H1 h1 d s1 g1 p1 x dx => ?_⟩
  refine ⟨π1, env, h1, s.step s1 g1, p1.bind.mono fun π2 H2 h2 e s2 g2 p2 y ey => ?_⟩
  exact ho W π2 σ h2 H2 d e x y Q g2 (dx.step s2 _ _) ey p2
theorem em_op {op : Operator} {r : R2} {f : F2} (hr : OpR X (binaryOp op) r) (ho : Op2 (gx X T) r f) (ha : Em X T W a ma) (hb : Em X T W b mb) : Em X T W (.BinOp a op b pos) (m2 f ma mb) :=
  PE.of (pe_op hr ha hb) fun σ H Q p => chain2 ho p
theorem em_cmp {op : CmpOp} {r : R2} {f : F2} (hr : OpR X (compareOp op) r) (ho : Op2 (gx X T) r f) (ha : Em X T W a ma) (hb : Em X T W b mb) (hm : behindInMarks op b = false) : Em X T W (.Compare a [op] [b] pos) (m2 f ma mb) :=
  PE.of (pe_cmpR hr ha hb hm) fun σ H Q p => chain2 ho p
theorem am_nil : Am X T W [] mNil := PA.of pa_nil fun σ H Q ⟨π, env, h, s, p⟩ => p π H Step.refl s.good _ rfl
theorem am_cons (ha : Em X T W e me) (hr : Am X T W es mr) (hs : starEach (e :: es) X.env = (false, eval e X.env) :: starEach es X.env := by rfl) : Am X T W (e :: es) (mCons me mr) :=
  PA.of (pa_cons ha hr hs) fun σ H Q ⟨π, env, h, s, p⟩ => by
    refine ⟨π, env, h, s, p.bind.mono fun π1 H1 h1 d s1 g1 p1 x dx => ?_⟩
    refine ⟨π1, env, h1, s.step s1 g1, p1.bind.mono fun π2 H2 h2 e s2 g2 p2 y ey => ?_⟩
    exact p2 π2 H2 Step.refl g2 _ ⟨x, y, rfl, dx.step s2 _ _, ey⟩
end
end MM
namespace MM
open PySem L2
theorem szl {n : Nat} (h : n ≤ 16777216) : n ≤ sizeLine := by rw [sizeLine_eq]; exact h
theorem szl' {n : Nat} (h : n < 16777216) : n < sizeLine := by rw [sizeLine_eq]; exact h
section
variable {G : Gx} {π : List Addr} {h : Hm} {H : Hp} {α : Type}
/-- an answer that stands by itself -/
theorem post_val {W : WX} {σ : L2.St} {d : D} {v : V} {Q : VK} (g : Good G π h H) (p : Post G W π σ H (.ok d h) fun π' H' _ z => ∀ v, DV G.K π' H' z v → Q v H') (e : DV G.K π H d v) : Q v H := p π H Step.refl g v e
/-- a new tuple -/
theorem post_tup {W : WX} {σ : L2.St} {ds : List D} {xs : List V} {Q : VK} (g : Good G π h H) (p : Post G W π σ H (.ok (.tup ds) h) fun π' H' _ z => ∀ v, DV G.K π' H' z v → Q v H') (e : DVs G.K π H ds xs) (a : Addr) (n : H a = none) : Q (.ref a) (upd H a (.tup xs)) :=
  p π _ (Step.other g n) (g.other n) _ ⟨a, xs, rfl, .inl ⟨upd_same, g.free n⟩, e.step (Step.other g n) _ _⟩
/-- a new list -/
theorem post_lst {W : WX} {σ : L2.St} {ds : List D} {xs : List V} {Q : VK} (g : Good G π h H) (p : Post G W π σ H (.ok (.ref h.length) (h ++ [.lst ds])) fun π' H' _ z => ∀ v, DV G.K π' H' z v → Q v H') (e : DVs G.K π H ds xs) (a : Addr) (n : H a = none) : Q (.ref a) (upd H a (.lst xs)) := by
  have s := Step.new (a := a) (u := .lst xs) g n
  refine p (π ++ [a]) _ s (g.new n ⟨xs, upd_same, e.step s _ _⟩) _ ⟨a, ?_, rfl⟩
  rw [List.getElem?_append_right (by rw [g.len]; exact Nat.le_refl _), g.len, Nat.sub_self] <;> rfl
/-- a list of ours, read -/
theorem Good.lst (g : Good G π h H) {i : Nat} {ds : List D} {a : Addr} (e : h[i]? = some (.lst ds)) (q : π[i]? = some a) : ∃ xs, H a = some (.lst xs) ∧ DVs G.K π H ds xs := g.obj e q
end
def fAdd : F2 := fun x y h => match x, y with
  | .int a, .int b => .ok (.int (a + b)) h
  | .str a, .str b => if a.length + b.length ≤ 16777216 then .ok (.str (a ++ b)) h else .bad
  | .tup a, .tup b => if a.length + b.length ≤ 16777216 then .ok (.tup (a ++ b)) h else .bad
  | .ref i, .ref j => match h[i]?, h[j]? with
    | some (.lst a), some (.lst b) => if a.length + b.length ≤ 16777216 then .ok (.ref h.length) (h ++ [.lst (a ++ b)]) else .bad
    | _, _ => .bad
  | _, _ => .bad
def rAddM (K : PySem.W.Frag) : R2 := fun x y H Q => rI0 (fun i j => .int (i + j)) x y H Q ∨ (∃ i j, x = .str i ∧ y = .str j ∧ i.length + j.length ≤ sizeLine ∧ Q (.str (i ++ j)) H) ∨ rCatA K x y H Q ∨ rCat x y H Q
theorem or_add {X : Cx} : OpR X (binaryOp .Add) (rAddM X.K) := op_add.or (op_add_str.or (op_catA.or op_cat))
theorem o2_add {G : Gx} : Op2 G (rAddM G.K) fAdd := by
  intro W π σ h H d e x y Q g dx ey p
  unfold fAdd at p
  split at p
  · obtain rfl := (show x = _ from dx)
    obtain rfl := (show y = _ from ey)
    exact .inl ⟨_, _, rfl, rfl, post_val g p rfl⟩
  · obtain rfl := (show x = _ from dx)
    obtain rfl := (show y = _ from ey)
    split at p
    · rename_i hl
      exact .inr (.inl ⟨_, _, rfl, rfl, szl hl, post_val g p rfl⟩)
    · exact p.elim
  · obtain ⟨a, xs, rfl, ta, da⟩ := dx
    obtain ⟨b, ys, rfl, tb, db⟩ := ey
    split at p
    · rename_i hl
      refine .inr (.inr (.inl ⟨a, b, xs, ys, rfl, rfl, ta.sq, tb.sq, szl (by rw [da.len, db.len]; exact hl), fun z => ?_, fun z1 z2 => ?_, fun z1 z2 q n => ?_⟩))
      · subst z
        have e0 := da.len
        have e1 : _ = [] := List.length_eq_zero_iff.mp e0.symm
        subst e1
        exact post_val g p ⟨b, ys, rfl, tb, db⟩
      · subst z2
        have e0 := db.len
        have e1 : _ = [] := List.length_eq_zero_iff.mp e0.symm
        subst e1
        rw [List.append_nil] at p
        exact post_val g p ⟨a, xs, rfl, ta, da⟩
      · exact post_tup g p (da.app db) q n
    · exact p.elim
  · obtain ⟨a, qa, rfl⟩ := dx
    obtain ⟨b, qb, rfl⟩ := ey
    split at p
    · rename_i u v e1 e2
      split at p
      · rename_i hl
        obtain ⟨xs, ha, da⟩ := g.lst e1 qa
        obtain ⟨ys, hb, db⟩ := g.lst e2 qb
        exact .inr (.inr (.inr ⟨a, b, xs, ys, rfl, rfl, ha, hb, szl (by rw [da.len, db.len]; exact hl), fun q n => post_lst g p (da.app db) q n⟩))
      · exact p.elim
    · exact p.elim
  · exact p.elim
def fI (f : Int → Int → Option D) : F2 := fun x y h => match x, y with
  | .int a, .int b => match f a b with
    | some d => .ok d h
    | none => .bad
  | _, _ => .bad
theorem o2_int {G : Gx} {r : R2} {f : Int → Int → Option D} (w : ∀ i j d H Q v, f i j = some d → DV G.K [] H d v → Q v H → r (.int i) (.int j) H Q) (flat : ∀ i j d, f i j = some d → (∃ k, d = .int k) ∨ ∃ b, d = .bl b) : Op2 G r (fI f) := by
  intro W π σ h H d e x y Q g dx ey p
  unfold fI at p
  split at p
  · rename_i i j
    obtain rfl := (show x = _ from dx)
    obtain rfl := (show y = _ from ey)
    cases q : f i j with
    | none => rw [q] at p; exact p.elim
    | some z =>
      rw [q] at p
      rcases flat i j z q with ⟨k, rfl⟩ | ⟨b, rfl⟩
      · exact w i j _ H Q _ q rfl (post_val g p rfl)
      · exact w i j _ H Q _ q rfl (post_val g p rfl)
  · exact p.elim
theorem o2_I0 {G : Gx} {g : Int → Int → Int} : Op2 G (rI0 fun i j => .int (g i j)) (fI fun i j => some (.int (g i j))) :=
  o2_int (fun i j d H Q v e dv q => by cases e; obtain rfl := (show v = _ from dv); exact ⟨i, j, rfl, rfl, q⟩) (fun i j d e => by cases e; exact .inl ⟨_, rfl⟩)
theorem o2_B0 {G : Gx} {g : Int → Int → Bool} : Op2 G (rI0 fun i j => .bl (g i j)) (fI fun i j => some (.bl (g i j))) :=
  o2_int (fun i j d H Q v e dv q => by cases e; obtain rfl := (show v = _ from dv); exact ⟨i, j, rfl, rfl, q⟩) (fun i j d e => by cases e; exact .inr ⟨_, rfl⟩)
theorem o2_IC {G : Gx} {C : Int → Int → Prop} [∀ i j, Decidable (C i j)] {g : Int → Int → Int} : Op2 G (rI C fun i j => .int (g i j)) (fI fun i j => if C i j then some (.int (g i j)) else none) :=
  o2_int (fun i j d H Q v e dv q => by
    by_cases hc : C i j
    · rw [if_pos hc] at e
      cases e
      obtain rfl := (show v = _ from dv)
      exact ⟨i, j, rfl, rfl, hc, q⟩
    · rw [if_neg hc] at e
      cases e) (fun i j d e => by
    by_cases hc : C i j
    · rw [if_pos hc] at e
      cases e
      exact .inl ⟨_, rfl⟩
    · rw [if_neg hc] at e
      cases e)
def fSub : F2 := fI fun i j => some (.int (i - j))
instance {i j : Int} : Decidable (CMul i j) := inferInstanceAs (Decidable ((-(2 ^ 64) < i ∧ i < 2 ^ 64) ∨ (-(2 ^ 64) < j ∧ j < 2 ^ 64)))
instance {i j : Int} : Decidable (CDivN i j) := inferInstanceAs (Decidable (j ≠ 0 ∧ j.natAbs < 1073741824))
instance {i j : Int} : Decidable (CPow i j) := inferInstanceAs (Decidable (0 ≤ j ∧ j ≤ 1000000 ∧ i.natAbs < 2 ^ 64))
def fMulI : F2 := fI fun i j => if CMul i j then some (.int (i * j)) else none
def fDiv : F2 := fI fun i j => if CDivN i j then some (.int (i.fdiv j)) else none
def fMod : F2 := fI fun i j => if j ≠ 0 then some (.int (i.fmod j)) else none
def fPow : F2 := fI fun i j => if CPow i j then some (.int (i ^ j.toNat)) else none
def fLt : F2 := fI fun i j => some (.bl (decide (i < j)))
def fLe : F2 := fI fun i j => some (.bl (decide (i ≤ j)))
def fGt : F2 := fI fun i j => some (.bl (decide (j < i)))
def fGe : F2 := fI fun i j => some (.bl (decide (j ≤ i)))
/-- * of numbers, of a list by a number, of a tuple by a number -/
def fMul : F2 := fun x y h => match x, y with
  | .int _, .int _ => fMulI x y h
  | .ref i, .int k => match h[i]? with
    | some (.lst a) => if -(2 ^ 63) ≤ k ∧ k < 2 ^ 63 ∧ a.length * k.toNat ≤ 16777216 then .ok (.ref h.length) (h ++ [.lst (List.replicate k.toNat a).flatten]) else .bad
    | _ => .bad
  | .tup a, .int k => if a ≠ [] ∧ 2 ≤ k ∧ k ≤ 1000 ∧ a.length ≤ 1000 then .ok (.tup (List.replicate k.toNat a).flatten) h else .bad
  | _, _ => .bad
theorem DVs.rep {K : PySem.W.Frag} {π : List Addr} {H : Hp} {ds : List D} {xs : List V} (h : DVs K π H ds xs) : ∀ n : Nat, DVs K π H (List.replicate n ds).flatten (List.replicate n xs).flatten
  | 0 => rfl
  | n + 1 => by
    rw [List.replicate_succ, List.replicate_succ, List.flatten_cons, List.flatten_cons]
    exact h.app (DVs.rep h n)
def rMulM (K : PySem.W.Frag) : R2 := fun x y H Q => rI CMul (fun i j => .int (i * j)) x y H Q ∨ rRep x y H Q ∨ rRepT K x y H Q
theorem or_mul {X : Cx} : OpR X (binaryOp .Mult) (rMulM X.K) := op_mul.or (op_rep.or op_repT)
theorem o2_mul {G : Gx} : Op2 G (rMulM G.K) fMul := by
  intro W π σ h H d e x y Q g dx ey p
  unfold fMul at p
  split at p
  · exact .inl (o2_IC W π σ h H _ _ x y Q g dx ey p)
  · obtain ⟨a, qa, rfl⟩ := dx
    obtain rfl := (show y = _ from ey)
    split at p
    · rename_i e1
      split at p
      · rename_i hl
        obtain ⟨xs, ha, da⟩ := g.lst e1 qa
        exact .inr (.inl ⟨a, _, xs, rfl, rfl, ha, hl.1, hl.2.1, szl (by rw [da.len]; exact hl.2.2), fun q n => post_lst g p (da.rep _) q n⟩)
      · exact p.elim
    · exact p.elim
  · obtain ⟨a, xs, rfl, ta, da⟩ := dx
    obtain rfl := (show y = _ from ey)
    split at p
    · rename_i hl
      refine .inr (.inr ⟨a, _, xs, rfl, rfl, ta.sq, fun z => hl.1 ?_, hl.2.1, hl.2.2.1, by rw [da.len]; exact hl.2.2.2, fun q n => post_tup g p (da.rep _) q n⟩)
      subst z
      exact List.length_eq_zero_iff.mp da.len.symm
    · exact p.elim
  · exact p.elim
section
variable {X : Cx} {T : List (Addr × Str)} {W : WX} {a b : Expr} {ma mb : Ev → Hm → R D} {pos : Pos}
theorem em_add (ha : Em X T W a ma) (hb : Em X T W b mb) : Em X T W (.BinOp a .Add b pos) (m2 fAdd ma mb) := em_op or_add o2_add ha hb
theorem em_sub (ha : Em X T W a ma) (hb : Em X T W b mb) : Em X T W (.BinOp a .Sub b pos) (m2 fSub ma mb) := em_op op_sub o2_I0 ha hb
theorem em_mul (ha : Em X T W a ma) (hb : Em X T W b mb) : Em X T W (.BinOp a .Mult b pos) (m2 fMul ma mb) := em_op or_mul o2_mul ha hb
theorem em_div (ha : Em X T W a ma) (hb : Em X T W b mb) : Em X T W (.BinOp a .FloorDiv b pos) (m2 fDiv ma mb) := em_op op_fdivN o2_IC ha hb
theorem em_mod (ha : Em X T W a ma) (hb : Em X T W b mb) : Em X T W (.BinOp a .Mod b pos) (m2 fMod ma mb) := em_op op_modN o2_IC ha hb
theorem em_pow (ha : Em X T W a ma) (hb : Em X T W b mb) : Em X T W (.BinOp a .Pow b pos) (m2 fPow ma mb) := em_op op_pow o2_IC ha hb
theorem em_lt (ha : Em X T W a ma) (hb : Em X T W b mb) : Em X T W (.Compare a [.Lt] [b] pos) (m2 fLt ma mb) := em_cmp op_lt o2_B0 ha hb (nomark _)
theorem em_ge (ha : Em X T W a ma) (hb : Em X T W b mb) : Em X T W (.Compare a [.GtE] [b] pos) (m2 fGe ma mb) := em_cmp op_ge o2_B0 ha hb (nomark _)
end
end MM
namespace MM
open PySem L2
def mapO {α β : Type} (f : α → Option β) : List α → Option (List β)
  | [] => some []
  | a :: as => match f a with
    | some b => match mapO f as with
      | some bs => some (b :: bs)
      | none => none
    | none => none
/-- a datum as the library's plain data -/
def py (h : Hm) : Nat → D → Option PyData
  | 0, _ => none
  | n + 1, d => match d with
    | .non => some .none
    | .bl b => some (.bool b)
    | .int i => some (.int i)
    | .str x => if PyData.canLay0 (.str x) = true then some (.str x) else none
    | .tup ds => (mapO (py h n) ds).map .tuple
    | .rol ds => (mapO (py h n) ds).map .list
    | .ref i => match h[i]? with
      | some (.lst ds) => (mapO (py h n) ds).map .list
      | _ => none
section
variable {G : Gx} {π : List Addr} {h : Hm} {H : Hp}
def PyOk (q : PyData) (n : Nat) : Prop := q.canLay0 = true ∧ q.depth ≤ n
theorem pys_ok {n : Nat} (ih : ∀ d v q, DV G.K π H d v → py h n d = some q → Dp G.K H v q ∧ PyOk q n) : ∀ (ds : List D) (vs : List V) (qs : List PyData), DVs G.K π H ds vs → mapO (py h n) ds = some qs → DpAll G.K H vs qs ∧ PyData.canLayAll0 qs = true ∧ PyData.depthAll qs ≤ n
  | [], vs, qs, dv, e => by
    obtain rfl := (show vs = [] from dv)
    cases e
    exact ⟨.nil, rfl, Nat.zero_le _⟩
  | d :: ds, vs, qs, ⟨v, ws, ev, h1, h2⟩, e => by
    subst ev
    unfold mapO at e
    cases q1 : py h n d with
    | none => rw [q1] at e; cases e
    | some a =>
      cases q2 : mapO (py h n) ds with
      | none => rw [q1, q2] at e; cases e
      | some as =>
        rw [q1, q2] at e
        cases e
        obtain ⟨i1, i2, i3⟩ := ih d v a h1 q1
        obtain ⟨j1, j2, j3⟩ := pys_ok ih ds ws as h2 q2
        refine ⟨.cons i1 j1, ?_, ?_⟩
        · simp only [PyData.canLayAll0, i2, j2, Bool.and_self]
        · simp only [PyData.depthAll]
          omega
theorem map_some {α β : Type} {f : α → β} {o : Option α} {b : β} (e : o.map f = some b) : ∃ a, o = some a ∧ f a = b := by
  cases o with
  | none => cases e
  | some a => exact ⟨a, rfl, Option.some.inj e⟩
theorem py_ok (g : Good G π h H) : ∀ (n : Nat) (d : D) (v : V) (q : PyData), DV G.K π H d v → py h n d = some q → Dp G.K H v q ∧ PyOk q n
  | 0, _, _, _, _, e => by cases e
  | n + 1, d, v, q, dv, e => by
    have ih := pys_ok (G := G) (π := π) (h := h) (H := H) (py_ok g n)
    cases d with
    | non => cases e; obtain rfl := (show v = _ from dv); exact ⟨.non, rfl, Nat.zero_le _⟩
    | bl b => cases e; obtain rfl := (show v = _ from dv); exact ⟨.bl b, rfl, Nat.zero_le _⟩
    | int b => cases e; obtain rfl := (show v = _ from dv); exact ⟨.int b, rfl, Nat.zero_le _⟩
    | str x =>
      obtain rfl := (show v = _ from dv)
      have e' : (if PyData.canLay0 (.str x) = true then some (PyData.str x) else none) = some q := e
      by_cases hc : PyData.canLay0 (.str x) = true
      · rw [if_pos hc] at e'
        cases e'
        exact ⟨.str x, hc, Nat.zero_le _⟩
      · rw [if_neg hc] at e'
        cases e'
    | tup ds =>
      obtain ⟨a, xs, rfl, t, ds'⟩ := dv
      have e' : (mapO (py h n) ds).map PyData.tuple = some q := e
      obtain ⟨qs, e1, rfl⟩ := map_some e'
      obtain ⟨i1, i2, i3⟩ := ih ds xs qs ds' e1
      exact ⟨.tup t.sq i1, by simp only [PyData.canLay0]; exact i2, by simp only [PyData.depth]; omega⟩
    | rol ds =>
      obtain ⟨a, xs, rfl, t, ds'⟩ := dv
      have e' : (mapO (py h n) ds).map PyData.list = some q := e
      obtain ⟨qs, e1, rfl⟩ := map_some e'
      obtain ⟨i1, i2, i3⟩ := ih ds xs qs ds' e1
      exact ⟨.lst t.sq i1, by simp only [PyData.canLay0]; exact i2, by simp only [PyData.depth]; omega⟩
    | ref i =>
      obtain ⟨a, qa, rfl⟩ := dv
      have e' : (match h[i]? with
        | some (.lst ds) => (mapO (py h n) ds).map PyData.list
        | _ => none) = some q := e
      split at e'
      · rename_i ds e0
        obtain ⟨xs, ha, ds'⟩ := g.lst e0 qa
        obtain ⟨qs, e1, rfl⟩ := map_some e'
        obtain ⟨i1, i2, i3⟩ := ih ds xs qs ds' e1
        exact ⟨.lst (SqL.of ha) i1, by simp only [PyData.canLay0]; exact i2, by simp only [PyData.depth]; omega⟩
      · cases e'
theorem shaped_of {q : PyData} (p : PyOk q 60) : SeqAt.shaped q = true := by
  unfold SeqAt.shaped
  rw [p.1, Bool.true_and]
  exact decide_eq_true (Nat.le_trans p.2 (by decide))
end
/-- data that compare without looking at the heap -/
def flat2 : D → D → Bool
  | .non, .non => true | .non, .int _ => true | .int _, .non => true | .non, .bl _ => true | .bl _, .non => true | .non, .str _ => true | .str _, .non => true
  | .int _, .int _ => true | .bl _, .bl _ => true | .str _, .str _ => true
  | .int _, .str _ => true | .str _, .int _ => true | .bl _, .str _ => true | .str _, .bl _ => true
  | _, _ => false
def fEq : F2 := fun x y h => if flat2 x y = true then .ok (.bl (decide (x = y))) h else match py h 60 x, py h 60 y with
  | some a, some b => .ok (.bl (PyData.eqv a b)) h
  | _, _ => .bad
def fNe : F2 := fun x y h => if flat2 x y = true then .ok (.bl (!decide (x = y))) h else match py h 60 x, py h 60 y with
  | some a, some b => .ok (.bl (!PyData.eqv a b)) h
  | _, _ => .bad
def rEqM (K : PySem.W.Frag) : R2 := fun x y H Q => rEq x y H Q ∨ rEqD K x y H Q
def rNeM (K : PySem.W.Frag) : R2 := fun x y H Q => rNe x y H Q ∨ rNeD K x y H Q
theorem flat2_scal {K : PySem.W.Frag} {π : List Addr} {H : Hp} {d e : D} {x y : V} (f : flat2 d e = true) (dx : DV K π H d x) (ey : DV K π H e y) : scal x y = true ∧ decide (x = y) = decide (d = e) := by
  cases d <;> cases e <;> first
    | exact absurd f Bool.false_ne_true
    | (obtain rfl := (show x = _ from dx)
       obtain rfl := (show y = _ from ey)
       exact ⟨rfl, by simp⟩)
theorem o2_eq {G : Gx} : Op2 G (rEqM G.K) fEq := by
  intro W π σ h H d e x y Q g dx ey p
  unfold fEq at p
  split at p
  · rename_i f
    obtain ⟨h1, h2⟩ := flat2_scal f dx ey
    exact .inl ⟨h1, post_val g p (by rw [h2]; rfl)⟩
  · split at p
    · rename_i a b e1 e2
      obtain ⟨i1, i2⟩ := py_ok g _ _ _ _ dx e1
      obtain ⟨j1, j2⟩ := py_ok g _ _ _ _ ey e2
      exact .inr ⟨a, b, i1, j1, shaped_of i2, shaped_of j2, post_val g p rfl⟩
    · exact p.elim
theorem o2_ne {G : Gx} : Op2 G (rNeM G.K) fNe := by
  intro W π σ h H d e x y Q g dx ey p
  unfold fNe at p
  split at p
  · rename_i f
    obtain ⟨h1, h2⟩ := flat2_scal f dx ey
    exact .inl ⟨h1, post_val g p (by rw [h2]; rfl)⟩
  · split at p
    · rename_i a b e1 e2
      obtain ⟨i1, i2⟩ := py_ok g _ _ _ _ dx e1
      obtain ⟨j1, j2⟩ := py_ok g _ _ _ _ ey e2
      exact .inr ⟨a, b, i1, j1, shaped_of i2, shaped_of j2, post_val g p rfl⟩
    · exact p.elim
def flatD : D → Bool
  | .non => true | .bl _ => true | .int _ => true | .str _ => true
  | _ => false
def eqF : D → D → Bool
  | .non, .non => true
  | .bl a, .bl b => a == b
  | .bl a, .int b => (if a then 1 else 0) == b
  | .int a, .bl b => a == (if b then 1 else 0)
  | .int a, .int b => a == b
  | .str a, .str b => a == b
  | _, _ => false
def inF (x : D) (ds : List D) : Bool := ds.any fun y => eqF y x
def keyD : D → Option Key
  | .int i => some (.inl i)
  | .str x => some (.inr x)
  | _ => none
def getK (kvs : List (Key × D)) (k : Key) : Option D := (kvs.find? fun p => decide (p.1 = k)).map (·.2)
def fIn (neg : Bool) : F2 := fun x y h => match y with
  | .tup ds => if flatD x = true ∧ ds.all flatD = true then .ok (.bl (if neg then !inF x ds else inF x ds)) h else .bad
  | .rol ds => if flatD x = true ∧ ds.all flatD = true then .ok (.bl (if neg then !inF x ds else inF x ds)) h else .bad
  | .ref i => match h[i]? with
    | some (.lst ds) => if flatD x = true ∧ ds.all flatD = true then .ok (.bl (if neg then !inF x ds else inF x ds)) h else match py h 60 x, py h 60 (.ref i) with
      | some a, some (.list bs) => .ok (.bl (if neg then !bs.any fun z => PyData.eqv z a else bs.any fun z => PyData.eqv z a)) h
      | _, _ => .bad
    | some (.dic kvs) => match keyD x with
      | some k => .ok (.bl (if neg then !(getK kvs k).isSome else (getK kvs k).isSome)) h
      | none => .bad
    | some (.dicL kvs) => match keyD x with
      | some k => .ok (.bl (if neg then !(getK kvs k).isSome else (getK kvs k).isSome)) h
      | none => .bad
    | _ => .bad
  | .str b => match x with
    | .str a => .ok (.bl (if neg then !(!(Builtin.Str.occurrences b a 0 b.length 1).isEmpty) else !(Builtin.Str.occurrences b a 0 b.length 1).isEmpty)) h
    | _ => .bad
  | _ => .bad
section
variable {K : PySem.W.Frag} {π : List Addr} {H : Hp}
theorem flatD_V : ∀ {d : D} {x : V}, flatD d = true → DV K π H d x → flatV x = true := by
  intro d x f dx
  cases d <;> first
    | exact absurd f Bool.false_ne_true
    | (obtain rfl := (show x = _ from dx); rfl)
theorem eqF_V {d e : D} {x y : V} (f : flatD d = true) (f' : flatD e = true) (dx : DV K π H d x) (ey : DV K π H e y) : eqV x y = eqF d e := by
  cases d <;> cases e <;> first
    | exact absurd f Bool.false_ne_true
    | exact absurd f' Bool.false_ne_true
    | (obtain rfl := (show x = _ from dx)
       obtain rfl := (show y = _ from ey)
       rfl)
theorem flatDs_V : ∀ {ds : List D} {xs : List V}, ds.all flatD = true → DVs K π H ds xs → xs.all flatV = true
  | [], _, _, h => by rw [show _ = [] from h] <;> rfl
  | d :: ds, _, f, ⟨v, vs, e, h, q⟩ => by
    rw [List.all_cons, Bool.and_eq_true] at f
    rw [e, List.all_cons, flatD_V f.1 h, flatDs_V f.2 q] <;> rfl
theorem inF_V {d : D} {x : V} (f : flatD d = true) (dx : DV K π H d x) : ∀ {ds : List D} {xs : List V}, ds.all flatD = true → DVs K π H ds xs → inV x xs = inF d ds
  | [], _, _, h => by rw [show _ = [] from h] <;> rfl
  | e :: ds, _, fs, ⟨v, vs, ev, h, q⟩ => by
    rw [List.all_cons, Bool.and_eq_true] at fs
    have ih := inF_V f dx fs.2 q
    unfold inV inF at ih ⊢
    rw [ev, List.any_cons, List.any_cons, ih, eqF_V fs.1 f h dx]
theorem keyD_V {d : D} {x : V} {k : Key} (e : keyD d = some k) (dx : DV K π H d x) : x = kV k := by
  cases d <;> first
    | (cases e; obtain rfl := (show x = _ from dx); rfl)
    | cases e
theorem getK_V {κ : Key} : ∀ {kvs : List (Key × D)} {xs : List (Key × V)}, DPs K π H kvs xs → match getK kvs κ with
    | some d => ∃ v, valV xs κ = some v ∧ DV K π H d v
    | none => valV xs κ = none
  | [], _, h => by rw [show _ = [] from h] <;> rfl
  | p :: ps, _, ⟨v, vs, e, h, q⟩ => by
    have ih := getK_V (κ := κ) q
    rw [e]
    unfold getK valV at ih ⊢
    by_cases hk : p.1 = κ
    · simp only [List.find?_cons, hk, decide_true, Option.map_some]
      first
        | exact ⟨v, rfl, h⟩
        | (refine ⟨v, ?_, h⟩; simp)
    · simp only [List.find?_cons, hk, decide_false]
      first
        | exact ih
        | (simp [hk]; exact ih)
end
end MM
namespace MM
open PySem L2
def rDin (neg : Bool) : R2 := fun x y H Q => ∃ a o, y = .ref a ∧ DGet H a x o ∧ Q (.bl (if neg then !o.isSome else o.isSome)) H
theorem op_din {X : Cx} (hu : X.A.units + 1 < cLine) : OpR X (compareOp .In) (rDin false) := by
  intro pins s σ H x y v u Q I rx ry h
  obtain ⟨a, o, rfl, g, q⟩ := h
  obtain rfl : u = Value.ref a := ry
  exact d_in hu I g rx fun s3 I3 => ⟨.bl o.isSome, H, I3, rfl, q⟩
theorem op_dnotin {X : Cx} (hu : X.A.units + 1 < cLine) : OpR X (compareOp .NotIn) (rDin true) := by
  intro pins s σ H x y v u Q I rx ry h
  obtain ⟨a, o, rfl, g, q⟩ := h
  obtain rfl : u = Value.ref a := ry
  exact d_notIn hu I g rx fun s3 I3 => ⟨.bl (!o.isSome), H, I3, rfl, q⟩
def rInDn (K : PySem.W.Frag) (neg : Bool) : R2 := fun x y H Q => ∃ d ds, Dp K H x d ∧ Dp K H y (.list ds) ∧ SeqAt.shaped d = true ∧ SeqAt.shaped (.list ds) = true ∧ Q (.bl (if neg then !ds.any fun z => PyData.eqv z d else ds.any fun z => PyData.eqv z d)) H
def rInS (neg : Bool) : R2 := fun x y H Q => ∃ i j, x = .str i ∧ y = .str j ∧ Q (.bl (if neg then !(!(Builtin.Str.occurrences j i 0 j.length 1).isEmpty) else !(Builtin.Str.occurrences j i 0 j.length 1).isEmpty)) H
def rInM (K : PySem.W.Frag) (neg : Bool) : R2 := fun x y H Q => rIn K neg x y H Q ∨ rInDn K neg x y H Q ∨ rDin neg x y H Q ∨ rInS neg x y H Q
theorem or_in {X : Cx} (hu : X.A.units + 65 < cLine) : OpR X (compareOp .In) (rInM X.K false) := op_in_seq.or ((op_inD hu).or ((op_din (by omega)).or op_in_str))
theorem or_nin {X : Cx} (hu : X.A.units + 65 < cLine) : OpR X (compareOp .NotIn) (rInM X.K true) := op_notIn_seq.or ((op_notInD hu).or ((op_dnotin (by omega)).or op_notin_str))
theorem o2_in {G : Gx} {neg : Bool} : Op2 G (rInM G.K neg) (fIn neg) := by
  intro W π σ h H d e x y Q g dx ey p
  unfold fIn at p
  split at p
  · obtain ⟨a, xs, rfl, t, ds'⟩ := ey
    split at p
    · rename_i f
      refine .inl ⟨a, xs, rfl, .inr t.sq, flatD_V f.1 dx, flatDs_V f.2 ds', ?_⟩
      rw [inF_V f.1 dx f.2 ds']
      exact post_val g p rfl
    · exact p.elim
  · obtain ⟨a, xs, rfl, t, ds'⟩ := ey
    split at p
    · rename_i f
      refine .inl ⟨a, xs, rfl, .inl t.sq, flatD_V f.1 dx, flatDs_V f.2 ds', ?_⟩
      rw [inF_V f.1 dx f.2 ds']
      exact post_val g p rfl
    · exact p.elim
  · split at p
    · rename_i e0
      split at p
      · rename_i f
        obtain ⟨a, qa, rfl⟩ := ey
        obtain ⟨xs, ha, ds'⟩ := g.lst e0 qa
        refine .inl ⟨a, xs, rfl, .inl (SqL.of ha), flatD_V f.1 dx, flatDs_V f.2 ds', ?_⟩
        rw [inF_V f.1 dx f.2 ds']
        exact post_val g p rfl
      · split at p
        · rename_i a bs e1 e2
          obtain ⟨i1, i2⟩ := py_ok g _ _ _ _ dx e1
          obtain ⟨j1, j2⟩ := py_ok g _ _ _ _ ey e2
          exact .inr (.inl ⟨a, bs, i1, j1, shaped_of i2, shaped_of j2, post_val g p rfl⟩)
        · exact p.elim
    · rename_i kvs e0
      split at p
      · rename_i k ek
        obtain ⟨a, qa, rfl⟩ := ey
        obtain ⟨xs, ha, ds'⟩ := g.obj e0 qa
        obtain rfl := keyD_V ek dx
        refine .inr (.inr (.inl ⟨a, _, rfl, DGet.k ha, ?_⟩))
        have z := getK_V (κ := k) ds'
        cases q : getK kvs k with
        | none =>
          rw [q] at z p
          rw [show valV xs k = none from z]
          exact post_val g p rfl
        | some w =>
          rw [q] at z p
          obtain ⟨v, z1, z2⟩ := z
          rw [z1]
          exact post_val g p rfl
      · exact p.elim
    · rename_i kvs e0
      split at p
      · rename_i k ek
        obtain ⟨a, qa, rfl⟩ := ey
        obtain ⟨oo, xs, ha, ds'⟩ := g.obj e0 qa
        obtain rfl := keyD_V ek dx
        refine .inr (.inr (.inl ⟨a, _, rfl, Or.inl ⟨xs, _, .inr ⟨oo, ha⟩, rfl, rfl⟩, ?_⟩))
        have z := getK_V (κ := k) ds'
        cases q : getK kvs k with
        | none =>
          rw [q] at z p
          rw [show valV xs k = none from z]
          exact post_val g p rfl
        | some w =>
          rw [q] at z p
          obtain ⟨v, z1, z2⟩ := z
          rw [z1]
          exact post_val g p rfl
      · exact p.elim
    · exact p.elim
  · obtain rfl := (show y = _ from ey)
    split at p
    · obtain rfl := (show x = _ from dx)
      exact .inr (.inr (.inr ⟨_, _, rfl, rfl, post_val g p rfl⟩))
    · exact p.elim
  · exact p.elim
def fIs (neg : Bool) : F2 := fun x y h => match y with
  | .non => .ok (.bl (if neg then !decide (x = .non) else decide (x = .non))) h
  | .bl b => match x with
    | .bl a => .ok (.bl (if neg then !decide (a = b) else decide (a = b))) h
    | _ => .bad
  | _ => .bad
def rIsM (neg : Bool) : R2 := fun x y H Q => (y = .non ∧ Q (.bl (if neg then !decide (x = .non) else decide (x = .non))) H) ∨ ∃ a b : Bool, x = .bl a ∧ y = .bl b ∧ Q (.bl (if neg then !decide (a = b) else decide (a = b))) H
theorem or_is {X : Cx} : OpR X (compareOp .Is) (rIsM false) := op_isN.or op_isBl
theorem or_isnot {X : Cx} : OpR X (compareOp .IsNot) (rIsM true) := op_notN.or op_notBl
theorem non_iff {K : PySem.W.Frag} {π : List Addr} {H : Hp} {d : D} {x : V} (dx : DV K π H d x) : decide (x = .non) = decide (d = .non) := by
  cases d <;> first
    | (obtain rfl := (show x = _ from dx); simp)
    | (obtain ⟨a, _, rfl⟩ := dx; simp)
    | (obtain ⟨a, xs, rfl, _⟩ := dx; simp)
theorem o2_is {G : Gx} {neg : Bool} : Op2 G (rIsM neg) (fIs neg) := by
  intro W π σ h H d e x y Q g dx ey p
  unfold fIs at p
  split at p
  · obtain rfl := (show y = _ from ey)
    refine .inl ⟨rfl, ?_⟩
    rw [non_iff dx]
    exact post_val g p rfl
  · obtain rfl := (show y = _ from ey)
    split at p
    · obtain rfl := (show x = _ from dx)
      exact .inr ⟨_, _, rfl, rfl, post_val g p rfl⟩
    · exact p.elim
  · exact p.elim
section
variable {X : Cx} {T : List (Addr × Str)} {W : WX} {a b : Expr} {ma mb : Ev → Hm → R D} {pos : Pos}
theorem em_eq (hu : X.A.units + 64 < cLine) (ha : Em X T W a ma) (hb : Em X T W b mb) : Em X T W (.Compare a [.Eq] [b] pos) (m2 fEq ma mb) := em_cmp (op_eq.or (op_eqD hu)) o2_eq ha hb (nomark _)
theorem em_ne (hu : X.A.units + 64 < cLine) (ha : Em X T W a ma) (hb : Em X T W b mb) : Em X T W (.Compare a [.NotEq] [b] pos) (m2 fNe ma mb) := em_cmp (op_ne.or (op_neD hu)) o2_ne ha hb (nomark _)
end
def truD (h : Hm) : D → Option Bool
  | .non => some false
  | .bl b => some b
  | .int i => some (i != 0)
  | .str x => if x.length ≤ 16777216 then some ((x.length : Int) != 0) else none
  | .tup ds => some (!ds.isEmpty)
  | .rol ds => some (!ds.isEmpty)
  | .ref i => match h[i]? with
    | some (.lst ds) => some (!ds.isEmpty)
    | some (.dic kvs) => some (!kvs.isEmpty)
    | _ => none
def fTru (x : D) (h : Hm) : R Bool := match truD h x with
  | some b => .ok b h
  | none => .bad
theorem DVs.isEmpty {K : PySem.W.Frag} {π : List Addr} {H : Hp} : ∀ {ds : List D} {xs : List V}, DVs K π H ds xs → xs.isEmpty = ds.isEmpty
  | [], _, h => by rw [show _ = [] from h] <;> rfl
  | d :: ds, _, ⟨v, vs, e, _, _⟩ => by rw [e] <;> rfl
theorem DPs.isEmpty {κ : Type} {K : PySem.W.Frag} {π : List Addr} {H : Hp} : ∀ {ds : List (κ × D)} {xs : List (κ × V)}, DPs K π H ds xs → xs.isEmpty = ds.isEmpty
  | [], _, h => by rw [show _ = [] from h] <;> rfl
  | d :: ds, _, ⟨v, vs, e, _, _⟩ => by rw [e] <;> rfl
theorem tru_V {G : Gx} {π : List Addr} {h : Hm} {H : Hp} (g : Good G π h H) {d : D} {x : V} {k : Bool} (dx : DV G.K π H d x) (e : truD h d = some k) : TruV G.K x H k := by
  cases d with
  | non => obtain rfl := (show x = _ from dx); cases e; rfl
  | bl b => obtain rfl := (show x = _ from dx); cases e; rfl
  | int b => obtain rfl := (show x = _ from dx); cases e; rfl
  | str b =>
    obtain rfl := (show x = _ from dx)
    have e' : (if b.length ≤ 16777216 then some ((b.length : Int) != 0) else none) = some k := e
    by_cases hl : b.length ≤ 16777216
    · rw [if_pos hl] at e'
      cases e'
      exact ⟨szl hl, rfl⟩
    · rw [if_neg hl] at e'
      cases e'
  | tup ds => obtain ⟨a, xs, rfl, t, q⟩ := dx; cases e; exact .inr (.inl ⟨xs, t.sq, by rw [q.isEmpty]⟩)
  | rol ds => obtain ⟨a, xs, rfl, t, q⟩ := dx; cases e; exact .inl ⟨xs, t.sq, by rw [q.isEmpty]⟩
  | ref i =>
    obtain ⟨a, qa, rfl⟩ := dx
    have e' : (match h[i]? with
      | some (.lst ds) => some (!ds.isEmpty)
      | some (.dic kvs) => some (!kvs.isEmpty)
      | _ => none) = some k := e
    split at e'
    · rename_i ds e0
      obtain ⟨xs, ha, ds'⟩ := g.lst e0 qa
      cases e'
      exact .inl ⟨xs, SqL.of ha, by rw [ds'.isEmpty]⟩
    · rename_i kvs e0
      obtain ⟨xs, ha, ds'⟩ := g.obj e0 qa
      cases e'
      exact .inr (.inr ⟨xs, ha, by rw [ds'.isEmpty]⟩)
    · cases e'
def mTru (m : Ev → Hm → R D) : Ev → Hm → R Bool := fun env h => (m env h).bind fTru
/-- the answer is True or False -/
def mBool (m : Ev → Hm → R D) : Ev → Hm → R Bool := fun env h => (m env h).bind fun x h1 => match x with
  | .bl b => .ok b h1
  | _ => .bad
def mAnd (a b : Ev → Hm → R Bool) : Ev → Hm → R Bool := fun env h => (a env h).bind fun k h1 => if k = true then b env h1 else .ok false h1
def mOr (a b : Ev → Hm → R Bool) : Ev → Hm → R Bool := fun env h => (a env h).bind fun k h1 => if k = true then .ok true h1 else b env h1
def mNot (a : Ev → Hm → R Bool) : Ev → Hm → R Bool := fun env h => (a env h).bind fun k h1 => .ok (!k) h1
def mAndV (a b : Ev → Hm → R D) : Ev → Hm → R D := fun env h => (a env h).bind fun x h1 => (fTru x h1).bind fun k h2 => if k = true then b env h2 else .ok x h2
def mOrV (a b : Ev → Hm → R D) : Ev → Hm → R D := fun env h => (a env h).bind fun x h1 => (fTru x h1).bind fun k h2 => if k = true then .ok x h2 else b env h2
def mNotV (a : Ev → Hm → R D) : Ev → Hm → R D := fun env h => (a env h).bind fun x h1 => (fTru x h1).bind fun k h2 => .ok (.bl (!k)) h2
def mIf (c : Ev → Hm → R Bool) (a b : Ev → Hm → R D) : Ev → Hm → R D := fun env h => (c env h).bind fun k h1 => if k = true then a env h1 else b env h1
def mChain (f f' : F2) (a b c : Ev → Hm → R D) : Ev → Hm → R D := fun env h => (a env h).bind fun x h1 => (b env h1).bind fun y h2 => (f x y h2).bind fun z h3 => match z with
  | .bl k => if k = true then (c env h3).bind fun w h4 => f' y w h4 else .ok (.bl false) h3
  | _ => .bad
def mNeg (a : Ev → Hm → R D) : Ev → Hm → R D := fun env h => (a env h).bind fun x h1 => match x with
  | .int i => .ok (.int (-i)) h1
  | _ => .bad
abbrev Wm (X : Cx) (T : List (Addr × Str)) (W : WX) (e : Expr) (m : Ev → Hm → R Bool) : Prop := PW X e (tB' (gx X T) W m)
theorem PW.of {X : Cx} {e : Expr} {t t' : TT} (p : PW X e t) (w : ∀ σ H Q, t' σ H Q → t σ H Q) : PW X e t' := ⟨fun wh pins s σ H Q I h => p.run wh pins s σ H Q I (w σ H Q h)⟩
section
variable {X : Cx} {T : List (Addr × Str)} {W : WX} {a b c : Expr} {rest : List Expr} {ma mb mc : Ev → Hm → R D} {ta tb tc : Ev → Hm → R Bool} {pos : Pos}
theorem tm_tru (ha : Em X T W a ma) (he : ∀ whole, isTrue a X.env whole = (do let v ← whole; standAt a.pos; holding [v] (truthy v)) := by intro _; rfl) : Tm X T W a (mTru ma) := PT.of (pt_truth ha he) fun σ H Q ⟨π, env, h, s, p⟩ => by
  refine ⟨π, env, h, s, p.bind.mono fun π1 H1 h1 d s1 g1 p1 x dx => ?_⟩
  unfold fTru at p1
  cases q : truD h1 d with
  | none => rw [q] at p1; exact p1.elim
  | some k => rw [q] at p1; exact ⟨k, tru_V g1 dx q, p1 π1 H1 Step.refl g1⟩
/-- a comparison as a test -/
theorem tm_cmp {op : CmpOp} {r : R2} {f : F2} (hr : OpR X (compareOp op) r) (ho : Op2 (gx X T) r f) (ha : Em X T W a ma) (hb : Em X T W b mb) (hm : behindInMarks op b = false) : Tm X T W (.Compare a [op] [b] pos) (mBool (m2 f ma mb)) :=
  PT.of (pt_cmpR hr ha hb hm) fun σ H Q ⟨π, env, h, s, p⟩ => by
    refine chain2 ho ⟨π, env, h, s, p.bind.mono fun π1 H1 h1 d s1 g1 p1 x dx => ?_⟩
    cases d <;> first
      | exact p1.elim
      | (obtain rfl := (show x = _ from dx); exact ⟨_, rfl, p1 π1 H1 Step.refl g1⟩)
theorem tm_lt (ha : Em X T W a ma) (hb : Em X T W b mb) : Tm X T W (.Compare a [.Lt] [b] pos) (mBool (m2 fLt ma mb)) := tm_cmp op_lt o2_B0 ha hb (nomark _)
theorem tm_gt (ha : Em X T W a ma) (hb : Em X T W b mb) : Tm X T W (.Compare a [.Gt] [b] pos) (mBool (m2 fGt ma mb)) := tm_cmp op_gt o2_B0 ha hb (nomark _)
theorem tm_ge (ha : Em X T W a ma) (hb : Em X T W b mb) : Tm X T W (.Compare a [.GtE] [b] pos) (mBool (m2 fGe ma mb)) := tm_cmp op_ge o2_B0 ha hb (nomark _)
theorem tm_eq (hu : X.A.units + 64 < cLine) (ha : Em X T W a ma) (hb : Em X T W b mb) : Tm X T W (.Compare a [.Eq] [b] pos) (mBool (m2 fEq ma mb)) := tm_cmp (op_eq.or (op_eqD hu)) o2_eq ha hb (nomark _)
theorem tm_ne (hu : X.A.units + 64 < cLine) (ha : Em X T W a ma) (hb : Em X T W b mb) : Tm X T W (.Compare a [.NotEq] [b] pos) (mBool (m2 fNe ma mb)) := tm_cmp (op_ne.or (op_neD hu)) o2_ne ha hb (nomark _)
theorem tm_in (hu : X.A.units + 65 < cLine) (ha : Em X T W a ma) (hb : Em X T W b mb) (hm : behindInMarks .In b = false := by rfl) : Tm X T W (.Compare a [.In] [b] pos) (mBool (m2 (fIn false) ma mb)) := tm_cmp (or_in hu) o2_in ha hb hm
theorem tm_nin (hu : X.A.units + 65 < cLine) (ha : Em X T W a ma) (hb : Em X T W b mb) (hm : behindInMarks .NotIn b = false := by rfl) : Tm X T W (.Compare a [.NotIn] [b] pos) (mBool (m2 (fIn true) ma mb)) := tm_cmp (or_nin hu) o2_in ha hb hm
theorem tm_is (ha : Em X T W a ma) (hb : Em X T W b mb) : Tm X T W (.Compare a [.Is] [b] pos) (mBool (m2 (fIs false) ma mb)) := tm_cmp or_is o2_is ha hb (nomark _)
theorem tm_isnot (ha : Em X T W a ma) (hb : Em X T W b mb) : Tm X T W (.Compare a [.IsNot] [b] pos) (mBool (m2 (fIs true) ma mb)) := tm_cmp or_isnot o2_is ha hb (nomark _)
theorem wm_and1 (ha : Tm X T W a ta) : Wm X T W (.BoolOp .And [a] pos) ta := pw_and1 ha
theorem wm_or1 (ha : Tm X T W a ta) : Wm X T W (.BoolOp .Or [a] pos) ta := pw_or1 ha
theorem wm_and (ha : Tm X T W a ta) (hb : Wm X T W (.BoolOp .And (b :: rest) pos) tb) : Wm X T W (.BoolOp .And (a :: b :: rest) pos) (mAnd ta tb) := PW.of (pw_and ha hb) fun σ H Q ⟨π, env, h, s, p⟩ => by
  refine ⟨π, env, h, s, p.bind.mono fun π1 H1 h1 k s1 g1 p1 => ?_⟩
  cases k with
  | true => exact iteT ⟨π1, env, h1, s.step s1 g1, p1⟩
  | false => exact iteF (p1 π1 H1 Step.refl g1)
theorem wm_or (ha : Tm X T W a ta) (hb : Wm X T W (.BoolOp .Or (b :: rest) pos) tb) : Wm X T W (.BoolOp .Or (a :: b :: rest) pos) (mOr ta tb) := PW.of (pw_or ha hb) fun σ H Q ⟨π, env, h, s, p⟩ => by
  refine ⟨π, env, h, s, p.bind.mono fun π1 H1 h1 k s1 g1 p1 => ?_⟩
  cases k with
  | true => exact iteT (p1 π1 H1 Step.refl g1)
  | false => exact iteF ⟨π1, env, h1, s.step s1 g1, p1⟩
theorem tm_wm (h : Wm X T W a ta) : Tm X T W a ta := PW.pt h
theorem tm_not (ha : Tm X T W a ta) : Tm X T W (.UnaryOp .Not a pos) (mNot ta) := PT.of (pt_not ha) fun σ H Q ⟨π, env, h, s, p⟩ =>
  ⟨π, env, h, s, p.bind.mono fun π1 H1 h1 k s1 g1 p1 => p1 π1 H1 Step.refl g1⟩
theorem em_not (ha : Em X T W a ma) : Em X T W (.UnaryOp .Not a pos) (mNotV ma) := PE.of (pe_notT ha) fun σ H Q ⟨π, env, h, s, p⟩ => by
  refine ⟨π, env, h, s, p.bind.mono fun π1 H1 h1 d s1 g1 p1 x dx => ?_⟩
  unfold fTru at p1
  cases q : truD h1 d with
  | none => rw [q] at p1; exact p1.elim
  | some k => rw [q] at p1; exact ⟨k, tru_V g1 dx q, p1 π1 H1 Step.refl g1 _ rfl⟩
theorem em_if (hc : Tm X T W c tc) (ha : Em X T W a ma) (hb : Em X T W b mb) : Em X T W (.IfExp c a b pos) (mIf tc ma mb) := PE.of (pe_ifExp hc ha hb) fun σ H Q ⟨π, env, h, s, p⟩ => by
  refine ⟨π, env, h, s, p.bind.mono fun π1 H1 h1 k s1 g1 p1 => ?_⟩
  cases k with
  | true => exact iteT ⟨π1, env, h1, s.step s1 g1, p1⟩
  | false => exact iteF ⟨π1, env, h1, s.step s1 g1, p1⟩
theorem em_neg (ha : Em X T W a ma) : Em X T W (.UnaryOp .USub a pos) (mNeg ma) := PE.of (pe_un un_neg ha) fun σ H Q ⟨π, env, h, s, p⟩ => by
  refine ⟨π, env, h, s, p.bind.mono fun π1 H1 h1 d s1 g1 p1 x dx => ?_⟩
  cases d <;> first
    | exact p1.elim
    | (obtain rfl := (show x = _ from dx); exact ⟨_, rfl, p1 π1 H1 Step.refl g1 _ rfl⟩)
theorem chain3 {r r' : R2} {f f' : F2} (ho : Op2 (gx X T) r f) (ho' : Op2 (gx X T) r' f') {σ : L2.St} {H : Hp} {Q : VK} (p : tE (gx X T) W (mChain f f' ma mb mc) σ H Q) : tChain r r' (tE (gx X T) W ma) (tE (gx X T) W mb) (tE (gx X T) W mc) σ H Q := by
  obtain ⟨π, env, h, s, p⟩ := p
  refine ⟨π, env, h, s, p.bind.mono fun π1 H1 h1 d s1 g1 p1 x dx => ?_⟩
  refine ⟨π1, env, h1, s.step s1 g1, p1.bind.mono fun π2 H2 h2 e s2 g2 p2 y ey => ?_⟩
  refine ho W π2 σ h2 H2 d e x y _ g2 (dx.step s2 _ _) ey (p2.bind.mono fun π3 H3 h3 z s3 g3 p3 v zv => ?_)
  cases z <;> first
    | exact p3.elim
    | skip
  rename_i k
  obtain rfl := (show v = _ from zv)
  refine ⟨k, rfl, ?_⟩
  cases k with
  | true => exact iteT ⟨π3, env, h3, ((s.step s1 g1).step s2 g2).step s3 g3, p3.bind.mono fun π4 H4 h4 w s4 g4 p4 u wu => ho' W π4 σ h4 H4 e w y u Q g4 ((ey.step s3 _ _).step s4 _ _) wu p4⟩
  | false => exact iteF (p3 π3 H3 Step.refl g3 _ rfl)
theorem tm_chain {op op' : CmpOp} {r r' : R2} {f f' : F2} (hr : OpR X (compareOp op) r) (ho : Op2 (gx X T) r f) (hr' : OpR X (compareOp op') r') (ho' : Op2 (gx X T) r' f') (ha : Em X T W a ma) (hb : Em X T W b mb) (hc : Em X T W c mc) (hm : lastMarks [op, op'] [b, c] = false := by rfl) :
    Tm X T W (.Compare a [op, op'] [b, c] pos) (mBool (mChain f f' ma mb mc)) := PT.of (pt_chain hr hr' ha hb hc hm) fun σ H Q ⟨π, env, h, s, p⟩ => by
  refine chain3 ho ho' ⟨π, env, h, s, p.bind.mono fun π1 H1 h1 d s1 g1 p1 x dx => ?_⟩
  cases d <;> first
    | exact p1.elim
    | (obtain rfl := (show x = _ from dx); exact ⟨_, rfl, p1 π1 H1 Step.refl g1⟩)
end
end MM
namespace MM
open PySem L2
inductive SR where
  | next (env : Ev) (h : Hm)
  | ret (d : D) (h : Hm)
  | brk (env : Ev) (h : Hm)
  | cont (env : Ev) (h : Hm)
  | exn (x : Ex) (env : Ev) (h : Hm)
  | bad
def R.bindS {α : Type} (r : R α) (env : Ev) (k : α → Hm → SR) : SR := match r with
  | .ok a h => k a h
  | .exn x h => .exn x env h
  | .bad => .bad
/-- what stands behind a block -/
def SR.then (r : SR) (k : Ev → Hm → SR) : SR := match r with
  | .next env h => k env h
  | r => r
def PostS (G : Gx) (W : WX) (D : Ends) (π : List Addr) (H : Hp) (r : SR) : Prop := match r with
  | .next env h => ∀ π' σ' H', Step π H π' H' → S G π' env h σ' H' → D.nx σ' H'
  | .ret d h => ∀ π' H' v, Step π H π' H' → Good G π' h H' → DV G.K π' H' d v → D.rt v H'
  | .brk env h => ∀ π' σ' H', Step π H π' H' → S G π' env h σ' H' → D.bk σ' H'
  | .cont env h => ∀ π' σ' H', Step π H π' H' → S G π' env h σ' H' → D.ct σ' H'
  | .exn x env h => ∀ π' σ' H' cls d, Step π H π' H' → S G π' env h σ' H' → ExV G π' H' x cls d → W cls d σ' H'
  | .bad => False
def tS (G : Gx) (W : WX) (m : Ev → Hm → SR) : TS := fun D σ H => ∃ π env h, S G π env h σ H ∧ PostS G W D π H (m env h)
section
variable {G : Gx} {W : WX} {D : Ends} {π π' : List Addr} {σ : L2.St} {H H' : Hp} {env : Ev} {h h' : Hm} {α : Type}
theorem PostS.step {r : SR} (s : Step π H π' H') (p : PostS G W D π H r) : PostS G W D π' H' r := by
  cases r with
  | next env h => exact fun π2 σ2 H2 s2 x => p π2 σ2 H2 (s.trans s2) x
  | ret d h => exact fun π2 H2 v s2 x e => p π2 H2 v (s.trans s2) x e
  | brk env h => exact fun π2 σ2 H2 s2 x => p π2 σ2 H2 (s.trans s2) x
  | cont env h => exact fun π2 σ2 H2 s2 x => p π2 σ2 H2 (s.trans s2) x
  | exn y env h => exact fun π2 σ2 H2 cls d s2 x e => p π2 σ2 H2 cls d (s.trans s2) x e
  | bad => exact p
theorem PostS.bind {r : R α} {k : α → Hm → SR} (s : S G π env h σ H) (p : PostS G W D π H (r.bindS env k)) : Post G W π σ H r fun π' H' h' a => PostS G W D π' H' (k a h') := by
  cases r with
  | ok a h' => exact fun π' H' s' g => PostS.step s' p
  | exn x h' => exact fun π' H' cls d s' g e => p π' σ H' cls d s' ⟨g, s.env.step s'⟩ e
  | bad => exact p
theorem PostS.then {r : SR} {k : Ev → Hm → SR} (p : PostS G W D π H (r.then k)) : PostS G W { D with nx := tS G W k D } π H r := by
  cases r with
  | next env h => exact fun π2 σ2 H2 s2 x => ⟨π2, env, h, x, PostS.step s2 p⟩
  | ret d h => exact p
  | brk env h => exact p
  | cont env h => exact p
  | exn y env h => exact p
  | bad => exact p
theorem PostS.mono {D' : Ends} {r : SR} (p : PostS G W D π H r) (h1 : ∀ σ H, D.nx σ H → D'.nx σ H) (h2 : ∀ v H, D.rt v H → D'.rt v H) (h3 : ∀ σ H, D.bk σ H → D'.bk σ H) (h4 : ∀ σ H, D.ct σ H → D'.ct σ H) : PostS G W D' π H r := by
  cases r with
  | next env h => exact fun π2 σ2 H2 s2 x => h1 _ _ (p π2 σ2 H2 s2 x)
  | ret d h => exact fun π2 H2 v s2 x e => h2 _ _ (p π2 H2 v s2 x e)
  | brk env h => exact fun π2 σ2 H2 s2 x => h3 _ _ (p π2 σ2 H2 s2 x)
  | cont env h => exact fun π2 σ2 H2 s2 x => h4 _ _ (p π2 σ2 H2 s2 x)
  | exn y env h => exact p
  | bad => exact p
end
abbrev Sm (X : Cx) (T : List (Addr × Str)) (W : WX) (e : Stmt) (m : Ev → Hm → SR) : Prop := PS X e (tS (gx X T) W m)
abbrev Ssm (X : Cx) (T : List (Addr × Str)) (W : WX) (e : List Stmt) (m : Ev → Hm → SR) : Prop := PSs X e (tS (gx X T) W m)
/-- a store goes on, or is wrong -/
def SR.only (r : SR) : SR := match r with
  | .next env h => .next env h
  | .exn x env h => .exn x env h
  | _ => .bad
abbrev Gt := D → Ev → Hm → SR
abbrev Gts := List D → Ev → Hm → SR
def nxO (Q : L2.St → Hp → Prop) : Ends := { nx := Q, rt := fun _ _ => False }
def tG (G : Gx) (W : WX) (g : Gt) : TG := fun v σ H Q => ∃ π env h d, S G π env h σ H ∧ DV G.K π H d v ∧ PostS G W (nxO Q) π H (g d env h)
def tGs (G : Gx) (W : WX) (g : Gts) : TGs := fun vs σ H Q => ∃ π env h ds, S G π env h σ H ∧ DVs G.K π H ds vs ∧ PostS G W (nxO Q) π H (g ds env h)
theorem PG.of {X : Cx} {e : Expr} {t t' : TG} (p : PG X e t) (w : ∀ v σ H Q, t' v σ H Q → t v σ H Q) : PG X e t' := ⟨fun pins s σ H v u Q I r h => p.run pins s σ H v u Q I r (w v σ H Q h)⟩
theorem PGs.of {X : Cx} {e : List Expr} {t t' : TGs} (p : PGs X e t) (w : ∀ v σ H Q, t' v σ H Q → t v σ H Q) : PGs X e t' := ⟨fun pins s σ H v u Q I r h => p.run pins s σ H v u Q I r (w v σ H Q h)⟩
abbrev Gm (X : Cx) (T : List (Addr × Str)) (W : WX) (e : Expr) (g : Gt) : Prop := PG X e (tG (gx X T) W g)
abbrev Gsm (X : Cx) (T : List (Addr × Str)) (W : WX) (e : List Expr) (g : Gts) : Prop := PGs X e (tGs (gx X T) W g)
def gN (i : Nat) : Gt := fun d env h => .next (env.set i (some d)) h
def gsNil : Gts := fun ds env h => match ds with
  | [] => .next env h
  | _ => .bad
def gsCons (g : Gt) (r : Gts) : Gts := fun ds env h => match ds with
  | d :: ds => (g d env h).then (r ds)
  | [] => .bad
/-- a tuple is unpacked -/
def gT (n : Nat) (r : Gts) : Gt := fun d env h => match d with
  | .tup ds => if ds.length = n then r ds env h else .bad
  | _ => .bad
/-- a list is unpacked -/
def gL (n : Nat) (r : Gts) : Gt := fun d env h => match d with
  | .ref i => match h[i]? with
    | some (.lst ds) => if ds.length = n then r ds env h else .bad
    | _ => .bad
  | _ => .bad
section
variable {X : Cx} {T : List (Addr × Str)} {W : WX} {e : Expr} {es : List Expr} {g : Gt} {r : Gts} {pos : Pos}
theorem gm_name (i : Nat) {x : Str} (hN : X.N.Nodup) (hi : X.N[i]? = some x := by rfl) (hx : Loc X.env.scope x := by first | exact .inl rfl | exact .inr rfl) (hf : X.fn x = true ∨ X.env.scope.names.lookup x = some .local := by first | exact .inl rfl | exact .inr rfl | assumption) : Gm X T W (.Name x pos) (gN i) :=
  PG.of (pg_name hN hi hx hf) fun v σ H Q ⟨π, env, h, d, s, dv, p⟩ => p π _ H Step.refl ⟨s.good, s.env.set dv i⟩
theorem gsm_nil : Gsm X T W [] gsNil := PGs.of pgs_nil fun v σ H Q ⟨π, env, h, ds, s, dv, p⟩ => by
  cases ds with
  | nil => exact ⟨dv, p π σ H Step.refl s⟩
  | cons d ds => exact p.elim
theorem gsm_cons (h1 : Gm X T W e g) (h2 : Gsm X T W es r) (hs : (assignEach (e :: es) X.env).map (·.2) = assign e X.env :: (assignEach es X.env).map (·.2) := by rfl) : Gsm X T W (e :: es) (gsCons g r) := PGs.of (pgs_cons h1 h2 hs) fun v σ H Q ⟨π, env, h, ds, s, dv, p⟩ => by
  cases ds with
  | nil => exact p.elim
  | cons d ds =>
    obtain ⟨v, vs, rfl, d1, d2⟩ := dv
    refine ⟨v, vs, rfl, π, env, h, d, s, d1, ?_⟩
    have p' : PostS (gx X T) W (nxO Q) π H ((g d env h).then (r ds)) := p
    generalize g d env h = z at p' ⊢
    cases z with
    | next env' h' => exact fun π2 σ2 H2 s2 x => ⟨π2, env', h', ds, x, d2.step s2 _ _, PostS.step s2 p'⟩
    | ret d h => exact p'
    | brk env h => exact p'
    | cont env h => exact p'
    | exn y env h => exact p'
    | bad => exact p'
theorem gm_tup {k n : Nat} (hc : X.calm = true) (hr : Gsm X T W es r) (hn : (assignEach es X.env).length = n := by rfl) (hst : (assignEach es X.env).findIdx? (·.1) = none := by rfl) : Gm X T W (.Tuple es k pos) (gT n r) :=
  PG.of (pg_tup hc hr hn hst) fun v σ H Q ⟨π, env, h, d, s, dv, p⟩ => by
    unfold gT at p
    split at p
    · obtain ⟨a, xs, rfl, t, q⟩ := dv
      split at p
      · rename_i hl
        exact ⟨a, xs, rfl, t.sq, by rw [q.len]; exact hl, π, env, h, _, s, q, p⟩
      · exact p.elim
    · exact p.elim
theorem gm_lst {k n : Nat} (hc : X.calm = true) (hr : Gsm X T W es r) (hn : (assignEach es X.env).length = n := by rfl) (hst : (assignEach es X.env).findIdx? (·.1) = none := by rfl) : Gm X T W (.Tuple es k pos) (gL n r) :=
  PG.of (pg_lst hc hr hn hst) fun v σ H Q ⟨π, env, h, d, s, dv, p⟩ => by
    unfold gL at p
    split at p
    · obtain ⟨a, qa, rfl⟩ := dv
      split at p
      · rename_i e0
        obtain ⟨xs, ha, q⟩ := s.good.lst e0 qa
        split at p
        · rename_i hl
          exact ⟨a, xs, rfl, SqL.of ha, by rw [q.len]; exact hl, π, env, h, _, s, q, p⟩
        · exact p.elim
      · exact p.elim
    · exact p.elim
end
def sNil : Ev → Hm → SR := fun env h => .next env h
def sSeq (a b : Ev → Hm → SR) : Ev → Hm → SR := fun env h => (a env h).then b
def sDrop (m : Ev → Hm → R D) : Ev → Hm → SR := fun env h => (m env h).bindS env fun _ h1 => .next env h1
def sRet (m : Ev → Hm → R D) : Ev → Hm → SR := fun env h => (m env h).bindS env fun d h1 => .ret d h1
def sRetN : Ev → Hm → SR := fun _ h => .ret .non h
def sIf (c : Ev → Hm → R Bool) (a b : Ev → Hm → SR) : Ev → Hm → SR := fun env h => (c env h).bindS env fun k h1 => if k = true then a env h1 else b env h1
def sAsg (g : Gt) (m : Ev → Hm → R D) : Ev → Hm → SR := fun env h => (m env h).bindS env fun d h1 => (g d env h1).only
def sBrk : Ev → Hm → SR := fun env h => .brk env h
def sCont : Ev → Hm → SR := fun env h => .cont env h
/-- a, b = x, y of names of one's own -/
def sPar (i j : Nat) (m : Ev → Hm → R (List D)) : Ev → Hm → SR := fun env h => (m env h).bindS env fun ds h1 => match ds with
  | [a, b] => .next ((env.set i (some a)).set j (some b)) h1
  | _ => .bad
def sPar3 (i j l : Nat) (m : Ev → Hm → R (List D)) : Ev → Hm → SR := fun env h => (m env h).bindS env fun ds h1 => match ds with
  | [a, b, c] => .next (((env.set i (some a)).set j (some b)).set l (some c)) h1
  | _ => .bad
def sAug (i : Nat) (f : F2) (m : Ev → Hm → R D) : Ev → Hm → SR := fun env h => match env[i]? with
  | some (some x) => (m env h).bindS env fun y h1 => (f x y h1).bindS env fun z h2 => .next (env.set i (some z)) h2
  | _ => .bad
def sWhile (c : Ev → Hm → R Bool) (b : Ev → Hm → SR) : Nat → Ev → Hm → SR
  | 0, _, _ => .bad
  | n + 1, env, h => (c env h).bindS env fun k h1 => if k = true then (match b env h1 with
      | .next e h2 => sWhile c b n e h2
      | .cont e h2 => sWhile c b n e h2
      | .brk e h2 => .next e h2
      | r => r) else .next env h1
section
variable {X : Cx} {T : List (Addr × Str)} {W : WX} {st : Stmt} {sts sts' : List Stmt} {e c tg : Expr} {me : Ev → Hm → R D} {tc : Ev → Hm → R Bool} {ms ms' : Ev → Hm → SR} {pos : Pos}
theorem ssm_nil : Ssm X T W [] sNil := PSs.of pss_nil fun D σ H ⟨π, env, h, s, p⟩ => p π σ H Step.refl s
theorem ssm_cons (h1 : Sm X T W st ms) (h2 : Ssm X T W sts ms') : Ssm X T W (st :: sts) (sSeq ms ms') := PSs.of (pss_cons h1 h2) fun D σ H ⟨π, env, h, s, p⟩ => ⟨π, env, h, s, PostS.then p⟩
theorem ssm_one (h1 : Sm X T W st ms) : Ssm X T W [st] ms := pss_one h1
theorem sm_expr (he : Em X T W e me) (hs : swapsWith e none pos.line X.env = pure false := by rfl) : Sm X T W (.Expr e pos) (sDrop me) := PS.of (ps_expr he hs) fun D σ H ⟨π, env, h, s, p⟩ =>
  ⟨π, env, h, s, (PostS.bind s p).mono fun π1 H1 h1 d s1 g1 p1 v dv => p1 π1 σ H1 Step.refl (s.step s1 g1)⟩
theorem sm_ret (he : Em X T W e me) : Sm X T W (.Return (some e) pos) (sRet me) := PS.of (ps_ret he) fun D σ H ⟨π, env, h, s, p⟩ =>
  ⟨π, env, h, s, (PostS.bind s p).mono fun π1 H1 h1 d s1 g1 p1 v dv => p1 π1 H1 v Step.refl g1 dv⟩
theorem sm_retN : Sm X T W (.Return none pos) sRetN := PS.of ps_retN fun D σ H ⟨π, env, h, s, p⟩ => p π H _ Step.refl s.good rfl
theorem sm_if (hc : Tm X T W c tc) (ha : Ssm X T W sts ms) (hb : Ssm X T W sts' ms') : Sm X T W (.If c sts sts' pos) (sIf tc ms ms') := PS.of (ps_if hc ha hb) fun D σ H ⟨π, env, h, s, p⟩ =>
  ⟨π, env, h, s, (PostS.bind s p).mono fun π1 H1 h1 k s1 g1 p1 => by
    cases k with
    | true => exact iteT ⟨π1, env, h1, s.step s1 g1, p1⟩
    | false => exact iteF ⟨π1, env, h1, s.step s1 g1, p1⟩⟩
theorem sm_set (i : Nat) {x : Str} {pos' : Pos} (hN : X.N.Nodup) (he : Em X T W e me) (hi : X.N[i]? = some x := by rfl) (hx : Loc X.env.scope x := by first | exact .inl rfl | exact .inr rfl) (hs : swapsWith e (some (.Name x pos')) pos.line X.env = pure false := by rfl)
    (hf : X.fn x = true ∨ X.env.scope.names.lookup x = some .local := by first | exact .inl rfl | exact .inr rfl | assumption) : Sm X T W (.Assign [.Name x pos'] e pos) (sAsg (gN i) me) := PS.of (ps_set hN hi hx he hs hf) fun D σ H ⟨π, env, h, s, p⟩ =>
  ⟨π, env, h, s, (PostS.bind s p).mono fun π1 H1 h1 d s1 g1 p1 v dv => p1 π1 _ H1 Step.refl ⟨g1, (s.step s1 g1).env.set dv i⟩⟩
theorem sm_asg {g : Gt} (hg : Gm X T W tg g) (he : Em X T W e me) (hs : swapsWithSole [tg] e pos.line X.env = pure false := by rfl) (hw : swappedStores [tg] e X.env = pure none := by rfl) (h1 : (assignEach [tg] X.env).map (·.2) = [assign tg X.env] := by rfl) : Sm X T W (.Assign [tg] e pos) (sAsg g me) :=
  PS.of (ps_asg he hg hs hw h1) fun D σ H ⟨π, env, h, s, p⟩ => ⟨π, env, h, s, (PostS.bind s p).mono fun π1 H1 h1 d s1 g1 p1 v dv => ⟨π1, env, h1, d, s.step s1 g1, dv, by
    generalize g d env h1 = z at p1 ⊢
    cases z with
    | next env' h' => exact p1
    | ret d h => exact (show False from p1).elim
    | brk env h => exact (show False from p1).elim
    | cont env h => exact (show False from p1).elim
    | exn y env h => exact p1
    | bad => exact p1⟩⟩
theorem sm_par (i j : Nat) {x y : Str} {a b : Expr} {ml : Ev → Hm → R (List D)} {px py pt : Pos} {kt k2 pt2} (hc : X.calm = true) (hN : X.N.Nodup) (ha : Am X T W [a, b] ml) (hi : X.N[i]? = some x := by rfl) (hj : X.N[j]? = some y := by rfl) (hij : i ≠ j := by decide)
    (hx : X.env.scope.names.lookup x = some .local := by rfl) (hy : X.env.scope.names.lookup y = some .local := by rfl)
    (hw : swappedStores [.Tuple [.Name x px, .Name y py] kt pt] (.Tuple [a, b] k2 pt2) X.env = pure (some [x, y]) := by rfl)
    (hs : swapsWithSole [.Tuple [.Name x px, .Name y py] kt pt] (.Tuple [a, b] k2 pt2) pos.line X.env = pure false := by rfl) :
    Sm X T W (.Assign [.Tuple [.Name x px, .Name y py] kt pt] (.Tuple [a, b] k2 pt2) pos) (sPar i j ml) := PS.of (ps_par hc hN hi hj hij hx hy ha hw hs) fun D σ H ⟨π, env, h, s, p⟩ =>
  ⟨π, env, h, s, (PostS.bind s p).mono fun π1 H1 h1 ds s1 g1 p1 vs dv => by
    split at p1
    · obtain ⟨v, vs, rfl, d1, w, ws, rfl, d2, e3⟩ := dv
      obtain rfl := (show ws = [] from e3)
      exact ⟨v, w, rfl, p1 π1 _ H1 Step.refl ⟨g1, ((s.step s1 g1).env.set d1 i).set d2 j⟩⟩
    · exact p1.elim⟩
theorem sm_aug (i : Nat) {x : Str} {op : Operator} {r : R2} {f : F2} {pos' : Pos} (hN : X.N.Nodup) (hr : OpR X (inplaceOp op) r) (ho : Op2 (gx X T) r f) (he : Em X T W e me) (hi : X.N[i]? = some x := by rfl) (hx : Loc X.env.scope x := by first | exact .inl rfl | exact .inr rfl)
    (hf : X.fn x = true ∨ X.env.scope.names.lookup x = some .local := by first | exact .inl rfl | exact .inr rfl | assumption) : Sm X T W (.AugAssign (.Name x pos') op e pos) (sAug i f me) :=
  PS.of (ps_aug (ti := fun x y H Q => r x y H Q) hN hi hx he (fun pins s σ H x y v u Q I r1 r2 h => hr pins s σ H x y v u Q I r1 r2 h) hf) fun D σ H ⟨π, env, h, s, p⟩ => by
    unfold sAug at p
    split at p
    · rename_i d e0
      obtain ⟨v, h1, h2⟩ := s.env.get i d e0
      refine ⟨v, h1, π, env, h, s, (PostS.bind s p).mono fun π1 H1 h1 y s1 g1 p1 w dw => ?_⟩
      exact ho W π1 σ h1 H1 d y v w _ g1 (h2.step s1 _ _) dw ((PostS.bind (s.step s1 g1) p1).mono fun π2 H2 h2 z s2 g2 p2 u du => p2 π2 _ H2 Step.refl ⟨g2, ((s.step s1 g1).step s2 g2).env.set du i⟩)
    · exact p.elim
theorem sm_while {n : Nat} (hp : PassesOwn (model X.prog X.w) X.A X.env X.xe) (hc : Tm X T W c tc) (hb : Ssm X T W sts ms) : Sm X T W (.While c sts [] pos) (sWhile tc ms n) := PS.of (ps_while hp hc hb) fun D σ H ⟨π, env, h, s, p⟩ => by
  refine ⟨fun m σ' H' => ∃ π' env' h', S (gx X T) π' env' h' σ' H' ∧ PostS (gx X T) W D π' H' (sWhile tc ms m env' h'), ⟨n, π, env, h, s, p⟩, ?_⟩
  rintro m σ1 H1 ⟨π1, env1, h1, s1, p1⟩
  cases m with
  | zero => exact p1.elim
  | succ m =>
    refine ⟨π1, env1, h1, s1, (PostS.bind s1 p1).mono fun π2 H2 h2 k s2 g2 p2 => ?_⟩
    cases k with
    | false => exact iteF (p2 π2 σ1 H2 Step.refl (s1.step s2 g2))
    | true =>
      refine iteT ⟨fun σ' H' => ∃ π' env' h', S (gx X T) π' env' h' σ' H' ∧ PostS (gx X T) W D π' H' (sWhile tc ms m env' h'), fun σ' H' z => ⟨m, Nat.lt_succ_self m, z⟩, π2, env1, h2, s1.step s2 g2, ?_⟩
      rw [if_pos rfl] at p2
      generalize ms env1 h2 = z at p2 ⊢
      cases z with
      | next env' h' => exact fun π3 σ3 H3 s3 x => ⟨π3, env', h', x, PostS.step s3 p2⟩
      | ret d h => exact p2
      | brk env h => exact p2
      | cont env h => exact fun π3 σ3 H3 s3 x => ⟨π3, env, h, x, PostS.step s3 p2⟩
      | exn y env h => exact p2
      | bad => exact p2
end
end MM
namespace MM
open PySem L2
def rIxD : R2 := fun x y H Q => ∃ a v, x = .ref a ∧ DGet H a y (some v) ∧ Q v H
theorem ix_dict {X : Cx} (hu : X.A.units + 1 < cLine) : IxR X rIxD := by
  intro value slice pins s σ H x y v u Q I rx ry h hs
  obtain ⟨a, z, rfl, g, q⟩ := h
  obtain rfl : v = Value.ref a := rx
  have hT := dict_typeIs I g
  unfold PyProof.Rows.subscriptTail
  refine wpAny_bind ?_
  rw [getitemInPython_of_ne hT.not_modules]
  refine wpAny_bind (wpAny_specialOf hT PySem.F.slot_dict_getitem.lookup ?_)
  have fin : wpAny (model X.prog X.w) X.A (subscripted slice false (.ref a) u) (fun r s₃ => wpAny (model X.prog X.w) X.A (letTemporaryGo value (.ref a) r >>= fun _ => pure r) (EP X pins σ Q) X.xe s₃) X.xe s := by
    rw [hs]
    exact wpAny_operating (wpAny_mono (d_getItem (Q := fun r s3 => EP X pins σ Q r s3) hu I g ry fun w' s3 I3 rw' => ⟨z, H, I3, rw', q⟩) (fun r s₃ h₃ => wpAny_bind (wpAny_letTemporaryGo (wpAny_pure h₃))) fun _ _ x => x)
  first
    | exact wpAny_pure (wpAny_bind fin)
    | exact wpAny_bind (wpAny_pure (wpAny_bind fin))
    | exact wpAny_bind fin
def rIxM (K : PySem.W.Frag) : R2 := fun x y H Q => rIxL K x y H Q ∨ rIxT K x y H Q ∨ rIxS x y H Q ∨ rIxD x y H Q
theorem or_ix {X : Cx} (hu : X.A.units + 1 < cLine) : IxR X (rIxM X.K) := ix_list.or (ix_tup.or (ix_str.or (ix_dict hu)))
def fIx : F2 := fun x y h => match x, y with
  | .tup ds, .int i => match atI ds i with
    | some d => .ok d h
    | none => .bad
  | .rol ds, .int i => match atI ds i with
    | some d => .ok d h
    | none => .bad
  | .str z, .int i => if z.length ≤ 16777216 then match atI z.cps.toList i with
      | some c => .ok (.str ⟨#[c]⟩) h
      | none => .bad else .bad
  | .ref r, y => match h[r]? with
    | some (.lst ds) => match y with
      | .int i => match atI ds i with
        | some d => .ok d h
        | none => .bad
      | _ => .bad
    | some (.dic kvs) => match keyD y with
      | some k => match getK kvs k with
        | some d => .ok d h
        | none => .bad
      | none => .bad
    | some (.dicL kvs) => match keyD y with
      | some k => match getK kvs k with
        | some d => .ok d h
        | none => .bad
      | none => .bad
    | _ => .bad
  | _, _ => .bad
section
variable {K : PySem.W.Frag} {π : List Addr} {H : Hp}
theorem DVs.atI {ds : List D} {xs : List V} {i : Int} {d : D} (h : DVs K π H ds xs) (e : L2.atI ds i = some d) : ∃ v, L2.atI xs i = some v ∧ DV K π H d v := by
  unfold L2.atI at e ⊢
  rw [h.len]
  cases q : ixN ds.length i with
  | none => rw [q] at e; cases e
  | some j =>
    rw [q] at e
    exact h.get e
end
theorem o2_ix {G : Gx} : Op2 G (rIxM G.K) fIx := by
  intro W π σ h H d e x y Q g dx ey p
  unfold fIx at p
  split at p
  · obtain ⟨a, xs, rfl, t, q⟩ := dx
    obtain rfl := (show y = _ from ey)
    split at p
    · rename_i e0
      obtain ⟨v, h1, h2⟩ := q.atI e0
      exact .inr (.inl ⟨a, xs, _, v, rfl, rfl, t.sq, h1, post_val g p h2⟩)
    · exact p.elim
  · obtain ⟨a, xs, rfl, t, q⟩ := dx
    obtain rfl := (show y = _ from ey)
    split at p
    · rename_i e0
      obtain ⟨v, h1, h2⟩ := q.atI e0
      exact .inl ⟨a, xs, _, v, rfl, rfl, t.sq, h1, post_val g p h2⟩
    · exact p.elim
  · obtain rfl := (show x = _ from dx)
    obtain rfl := (show y = _ from ey)
    split at p
    · rename_i hl
      split at p
      · rename_i e0
        exact .inr (.inr (.inl ⟨_, _, _, rfl, rfl, szl hl, e0, post_val g p rfl⟩))
      · exact p.elim
    · exact p.elim
  · obtain ⟨a, qa, rfl⟩ := dx
    split at p
    · rename_i e1
      obtain ⟨xs, ha, q⟩ := g.lst e1 qa
      split at p
      · obtain rfl := (show y = _ from ey)
        split at p
        · rename_i e0
          obtain ⟨v, h1, h2⟩ := q.atI e0
          exact .inl ⟨a, xs, _, v, rfl, rfl, SqL.of ha, h1, post_val g p h2⟩
        · exact p.elim
      · exact p.elim
    · rename_i e1
      obtain ⟨xs, ha, q⟩ := g.obj e1 qa
      split at p
      · rename_i k ek
        obtain rfl := keyD_V ek ey
        have z := getK_V (κ := k) q
        split at p
        · rename_i w ew
          rw [ew] at z
          obtain ⟨v, z1, z2⟩ := z
          refine .inr (.inr (.inr ⟨a, v, rfl, ?_, post_val g p z2⟩))
          rw [← z1]
          exact DGet.k ha
        · exact p.elim
      · exact p.elim
    · rename_i e1
      obtain ⟨oo, xs, ha, q⟩ := g.obj e1 qa
      split at p
      · rename_i k ek
        obtain rfl := keyD_V ek ey
        have z := getK_V (κ := k) q
        split at p
        · rename_i w ew
          rw [ew] at z
          obtain ⟨v, z1, z2⟩ := z
          refine .inr (.inr (.inr ⟨a, v, rfl, ?_, post_val g p z2⟩))
          rw [← z1]
          exact Or.inl ⟨xs, k, .inr ⟨oo, ha⟩, rfl, rfl⟩
        · exact p.elim
      · exact p.elim
    · exact p.elim
  · exact p.elim
theorem em_ix {X : Cx} {T : List (Addr × Str)} {W : WX} {a b : Expr} {ma mb : Ev → Hm → R D} {pos : Pos} (hu : X.A.units + 1 < cLine) (ha : Em X T W a ma) (hb : Em X T W b mb) (hs : PlainIx b := by exact fun _ _ => rfl) : Em X T W (.Subscript a b pos) (m2 fIx ma mb) :=
  PE.of (pe_ix (or_ix hu) ha hb hs) fun σ H Q p => chain2 o2_ix p
def cutD (xs : List D) (lo hi : Option Int) : List D := (xs.drop (HT.sIx xs.length 0 lo)).take (HT.sIx xs.length xs.length hi - HT.sIx xs.length 0 lo)
def fSl (x : D) (lo hi : Option Int) (h : Hm) : R D := match x with
  | .tup ds => .ok (.tup (cutD ds lo hi)) h
  | .rol ds => .ok (.ref h.length) (h ++ [.lst (cutD ds lo hi)])
  | .ref r => match h[r]? with
    | some (.lst ds) => .ok (.ref h.length) (h ++ [.lst (cutD ds lo hi)])
    | _ => .bad
  | .str z => if z.length ≤ 16777216 then .ok (.str (cutS z lo hi)) h else .bad
  | _ => .bad
def mNo : Ev → Hm → R (Option Int) := fun _ h => .ok none h
def mSome (m : Ev → Hm → R D) : Ev → Hm → R (Option Int) := fun env h => (m env h).bind fun x h1 => match x with
  | .int i => .ok (some i) h1
  | _ => .bad
def mSl (a : Ev → Hm → R D) (l u : Ev → Hm → R (Option Int)) : Ev → Hm → R D := fun env h => (a env h).bind fun x h1 => (l env h1).bind fun lo h2 => (u env h2).bind fun hi h3 => fSl x lo hi h3
def tO (G : Gx) (W : WX) (m : Ev → Hm → R (Option Int)) : TO := fun σ H Q => ∃ π env h, S G π env h σ H ∧ Post G W π σ H (m env h) fun _ H' _ o => Q o H'
abbrev Om (X : Cx) (T : List (Addr × Str)) (W : WX) (e : Option Expr) (m : Ev → Hm → R (Option Int)) : Prop := PO X e (tO (gx X T) W m)
theorem PO.of {X : Cx} {e : Option Expr} {t t' : TO} (p : PO X e t) (w : ∀ σ H Q, t' σ H Q → t σ H Q) : PO X e t' := ⟨fun pins s σ H Q I h => p.run pins s σ H Q I (w σ H Q h)⟩
theorem cutD_V {K : PySem.W.Frag} {π : List Addr} {H : Hp} {ds : List D} {xs : List V} (h : DVs K π H ds xs) (lo hi : Option Int) : DVs K π H (cutD ds lo hi) (cutV xs lo hi) := by
  unfold cutD cutV
  rw [h.len]
  exact (h.drop _).take _
theorem cut_whole {ds : List D} {lo hi : Option Int} (e : HT.sIx ds.length 0 lo = 0 ∧ HT.sIx ds.length ds.length hi = ds.length) : cutD ds lo hi = ds := by
  unfold cutD
  rw [e.1, e.2, List.drop_zero, Nat.sub_zero, List.take_length]
def rSlM (K : PySem.W.Frag) : V → Option Int → Option Int → Hp → VK → Prop := fun x lo hi H Q => rSlA K x lo hi H Q ∨ rSlL K x lo hi H Q ∨ rSlS x lo hi H Q
theorem or_sl {X : Cx} : SlR X (rSlM X.K) := sl_tupA.or (sl_list.or sl_str)
section
variable {X : Cx} {T : List (Addr × Str)} {W : WX} {e : Expr} {lo hi : Option Expr} {me : Ev → Hm → R D} {ml mh : Ev → Hm → R (Option Int)} {p2 pos : Pos}
theorem om_none : Om X T W none mNo := PO.of po_none fun σ H Q ⟨π, env, h, s, p⟩ => p π H Step.refl s.good
theorem om_some (he : Em X T W e me) : Om X T W (some e) (mSome me) := PO.of (po_some he) fun σ H Q ⟨π, env, h, s, p⟩ => by
  refine ⟨π, env, h, s, p.bind.mono fun π1 H1 h1 d s1 g1 p1 x dx => ?_⟩
  cases d <;> first
    | exact p1.elim
    | (obtain rfl := (show x = _ from dx); exact ⟨_, rfl, p1 π1 H1 Step.refl g1⟩)
theorem em_sl (he : Em X T W e me) (hl : Om X T W lo ml) (hh : Om X T W hi mh) : Em X T W (.Subscript e (.Slice lo hi none p2) pos) (mSl me ml mh) := PE.of (pe_slice or_sl he hl hh) fun σ H Q ⟨π, env, h, s, p⟩ => by
  refine ⟨π, env, h, s, p.bind.mono fun π1 H1 h1 d s1 g1 p1 x dx => ?_⟩
  refine ⟨π1, env, h1, s.step s1 g1, p1.bind.mono fun π2 H2 h2 lo s2 g2 p2 => ?_⟩
  refine ⟨π2, env, h2, (s.step s1 g1).step s2 g2, p2.bind.mono fun π3 H3 h3 hi s3 g3 p3 => ?_⟩
  have dx' := (dx.step s2 _ _).step s3 _ _
  unfold fSl at p3
  split at p3
  · obtain ⟨a, xs, rfl, t, q⟩ := dx'
    refine .inl ⟨a, xs, rfl, t.sq, fun z => ?_, fun z b n => post_tup g3 p3 (cutD_V q lo hi) b n⟩
    rw [q.len] at z
    rw [cut_whole z] at p3
    exact post_val g3 p3 ⟨a, xs, rfl, t, q⟩
  · obtain ⟨a, xs, rfl, t, q⟩ := dx'
    exact .inr (.inl ⟨a, xs, rfl, t.sq, fun b n => post_lst g3 p3 (cutD_V q lo hi) b n⟩)
  · obtain ⟨a, qa, rfl⟩ := dx'
    split at p3
    · rename_i e1
      obtain ⟨xs, ha, q⟩ := g3.lst e1 qa
      exact .inr (.inl ⟨a, xs, rfl, SqL.of ha, fun b n => post_lst g3 p3 (cutD_V q lo hi) b n⟩)
    · exact p3.elim
  · obtain rfl := (show x = _ from dx')
    split at p3
    · rename_i hl
      exact .inr (.inr ⟨_, rfl, szl hl, post_val g3 p3 rfl⟩)
    · exact p3.elim
  · exact p3.elim
theorem am_tup {es : List Expr} {x1} {mr : Ev → Hm → R (List D)} (ha : Am X T W es mr) (hl : es.length ≤ 1000) (hm : ∀ env h ds h', mr env h = .ok ds h' → ds.length = es.length) : Em X T W (.Tuple es x1 pos) (mTup mr) := PE.of (pe_tup ha) fun σ H Q ⟨π, env, h, s, p⟩ => by
  refine ⟨π, env, h, s, ?_⟩
  unfold mTup at p
  cases q : mr env h with
  | ok ds h' =>
    rw [q] at p
    have p' : Post (gx X T) W π σ H (R.ok (D.tup ds) h') (fun π' H' _ z => ∀ v, DV (gx X T).K π' H' z v → Q v H') := p
    intro π1 H1 s1 g1 vs dv
    refine ⟨szl (by rw [dv.len, hm _ _ _ _ q]; omega), fun a n => post_tup (W := W) (σ := σ) g1 ?_ dv a n⟩
    exact fun π2 H2 s2 g2 => p' π2 H2 (s1.trans s2) g2
  | exn x h' => rw [q] at p; exact p
  | bad => rw [q] at p; exact p
theorem am_lst {es : List Expr} {mr : Ev → Hm → R (List D)} (ha : Am X T W es mr) (hl : es.length ≤ 1000) (hm : ∀ env h ds h', mr env h = .ok ds h' → ds.length = es.length) : Em X T W (.List es pos) (mLst mr) := PE.of (pe_lst ha) fun σ H Q ⟨π, env, h, s, p⟩ => by
  refine ⟨π, env, h, s, ?_⟩
  unfold mLst at p
  cases q : mr env h with
  | ok ds h' =>
    rw [q] at p
    have p' : Post (gx X T) W π σ H (R.ok (D.ref h'.length) (h' ++ [O.lst ds])) (fun π' H' _ z => ∀ v, DV (gx X T).K π' H' z v → Q v H') := p
    intro π1 H1 s1 g1 vs dv
    refine ⟨szl (by rw [dv.len, hm _ _ _ _ q]; omega), fun a n => post_lst (W := W) (σ := σ) g1 ?_ dv a n⟩
    exact fun π2 H2 s2 g2 => p' π2 H2 (s1.trans s2) g2
  | exn x h' => rw [q] at p; exact p
  | bad => rw [q] at p; exact p
end
end MM
namespace MM
open PySem L2
abbrev Fc := List D → Hm → R D
def OpC (G : Gx) (r : List V → Hp → VK → Prop) (f : Fc) : Prop := ∀ (W : WX) (π : List Addr) (σ : L2.St) (h : Hm) (H : Hp) (ds : List D) (xs : List V) (Q : VK), Good G π h H → DVs G.K π H ds xs → Post G W π σ H (f ds h) (fun π' H' _ z => ∀ v, DV G.K π' H' z v → Q v H') → r xs H Q
def mCall (f : Fc) (mr : Ev → Hm → R (List D)) : Ev → Hm → R D := fun env h => (mr env h).bind f
section
variable {X : Cx} {T : List (Addr × Str)} {W : WX} {e : Expr} {es : List Expr} {x : Str} {id : String} {p pos : Pos} {r : List V → Hp → VK → Prop} {f : Fc} {mr : Ev → Hm → R (List D)}
theorem tCB_of (ho : OpC (gx X T) r f) {σ : L2.St} {H : Hp} {Q : VK} (q : tE (gx X T) W (mCall f mr) σ H Q) : tCB r (tL (gx X T) W mr) σ H Q := by
  obtain ⟨π, env, h, s, q⟩ := q
  refine ⟨π, env, h, s, q.bind.mono fun π1 H1 h1 ds s1 g1 p1 xs dx => ?_⟩
  exact ho W π1 σ h1 H1 ds xs Q g1 dx p1
theorem em_callB (hc : CallR X (.builtin id) r) (ho : OpC (gx X T) r f) (hg : Gl X x) (hm : X.mg x = none) (ha : Am X T W (e :: es) mr) (hv : bootBuiltins x = some (.builtin id)) (hn : x ≠ "__name__" := by decide) (hdb : (x == ("__debug__" : Str)) = false := by decide)
    (he : starEach (e :: es) X.env = (false, eval e X.env) :: starEach es X.env := by rfl) (hpl : (backTo pos (starEach es X.env)).any (·.1) = false := by rfl) : Em X T W (.Call (.Name x p) (e :: es) [] pos) (mCall f mr) :=
  PE.of (pe_callB hc hg hm hv ha hn hdb he hpl) fun σ H Q q => tCB_of ho q
theorem em_callTy (hc : CallR X (.type id) r) (ho : OpC (gx X T) r f) (hg : Gl X x) (hm : X.mg x = none) (ha : Am X T W (e :: es) mr) (hv : bootBuiltins x = some (.type id)) (hn : x ≠ "__name__" := by decide) (hdb : (x == ("__debug__" : Str)) = false := by decide)
    (he : starEach (e :: es) X.env = (false, eval e X.env) :: starEach es X.env := by rfl) (hpl : (backTo pos (starEach es X.env)).any (·.1) = false := by rfl) : Em X T W (.Call (.Name x p) (e :: es) [] pos) (mCall f mr) :=
  PE.of (pe_callTy hc hg hm hv ha hn hdb he hpl) fun σ H Q q => tCB_of ho q
end
theorem DVs.ofInts {K : PySem.W.Frag} {π : List Addr} {H : Hp} : ∀ {ns : List Int}, DVs K π H (ns.map D.int) (ns.map V.int)
  | [] => rfl
  | i :: r => ⟨.int i, _, rfl, rfl, DVs.ofInts⟩
def fAbs : Fc := fun ds h => match ds with
  | [.int i] => .ok (.int (if i < 0 then -i else i)) h
  | _ => .bad
def fMax2 : Fc := fun ds h => match ds with
  | [.int i, .int j] => .ok (.int (if j > i then j else i)) h
  | _ => .bad
def fMin2 : Fc := fun ds h => match ds with
  | [.int i, .int j] => .ok (.int (if j < i then j else i)) h
  | _ => .bad
def fInt : Fc := fun ds h => match ds with
  | [.int i] => .ok (.int i) h
  | [.bl k] => .ok (.int (if k then 1 else 0)) h
  | _ => .bad
def lenD (h : Hm) : D → Option Nat
  | .str x => if x.length ≤ 16777216 then some x.length else none
  | .tup ds => some ds.length
  | .rol ds => some ds.length
  | .ref i => match h[i]? with
    | some (.lst ds) => some ds.length
    | some (.dic kvs) => some kvs.length
    | _ => none
  | _ => none
def fLen : Fc := fun ds h => match ds with
  | [d] => match lenD h d with
    | some n => .ok (.int n) h
    | none => .bad
  | _ => .bad
/-- the items of a list or a tuple -/
def itemsD (h : Hm) : D → Option (List D)
  | .tup ds => some ds
  | .rol ds => some ds
  | .ref i => match h[i]? with
    | some (.lst ds) => some ds
    | _ => none
  | _ => none
def fList : Fc := fun ds h => match ds with
  | [d] => match itemsD h d with
    | some xs => .ok (.ref h.length) (h ++ [.lst xs])
    | none => .bad
  | _ => .bad
def fTuple : Fc := fun ds h => match ds with
  | [d] => match itemsD h d with
    | some xs => .ok (.tup xs) h
    | none => .bad
  | _ => .bad
section
variable {G : Gx} {π : List Addr} {h : Hm} {H : Hp}
theorem items_V (g : Good G π h H) {d : D} {x : V} {ds : List D} (dx : DV G.K π H d x) (e : itemsD h d = some ds) : ∃ a xs, x = .ref a ∧ (SqL G.K H a xs ∨ SqT G.K H a xs) ∧ DVs G.K π H ds xs := by
  cases d with
  | tup ds' => obtain ⟨a, xs, rfl, t, q⟩ := dx; cases e; exact ⟨a, xs, rfl, .inr t.sq, q⟩
  | rol ds' => obtain ⟨a, xs, rfl, t, q⟩ := dx; cases e; exact ⟨a, xs, rfl, .inl t.sq, q⟩
  | ref i =>
    obtain ⟨a, qa, rfl⟩ := dx
    have e' : (match h[i]? with
      | some (.lst ds) => some ds
      | _ => none) = some ds := e
    split at e'
    · rename_i e0
      cases e'
      obtain ⟨xs, ha, q⟩ := g.lst e0 qa
      exact ⟨a, xs, rfl, .inl (SqL.of ha), q⟩
    · cases e'
  | _ => cases e
theorem oc_abs : OpC G (fun xs H Q => ∃ i, xs = [.int i] ∧ Q (.int (if i < 0 then -i else i)) H) fAbs := by
  intro W π σ h H ds xs Q g dx p
  unfold fAbs at p
  split at p
  · obtain ⟨v, vs, rfl, d1, e⟩ := dx
    obtain rfl := (show vs = [] from e)
    obtain rfl := (show v = _ from d1)
    exact ⟨_, rfl, post_val g p rfl⟩
  · exact p.elim
theorem oc_max2 : OpC G (fun xs H Q => ∃ i j, xs = [.int i, .int j] ∧ Q (.int (if j > i then j else i)) H) fMax2 := by
  intro W π σ h H ds xs Q g dx p
  unfold fMax2 at p
  split at p
  · obtain ⟨v, vs, rfl, d1, w, ws, rfl, d2, e⟩ := dx
    obtain rfl := (show ws = [] from e)
    obtain rfl := (show v = _ from d1)
    obtain rfl := (show w = _ from d2)
    exact ⟨_, _, rfl, post_val g p rfl⟩
  · exact p.elim
theorem oc_int : OpC G (fun xs H Q => (∃ i, xs = [.int i] ∧ Q (.int i) H) ∨ ∃ k, xs = [.bl k] ∧ Q (.int (if k then 1 else 0)) H) fInt := by
  intro W π σ h H ds xs Q g dx p
  unfold fInt at p
  split at p
  · obtain ⟨v, vs, rfl, d1, e⟩ := dx
    obtain rfl := (show vs = [] from e)
    obtain rfl := (show v = _ from d1)
    exact .inl ⟨_, rfl, post_val g p rfl⟩
  · obtain ⟨v, vs, rfl, d1, e⟩ := dx
    obtain rfl := (show vs = [] from e)
    obtain rfl := (show v = _ from d1)
    exact .inr ⟨_, rfl, post_val g p rfl⟩
  · exact p.elim
def rLenM (K : PySem.W.Frag) : List V → Hp → VK → Prop := fun xs H Q => (∃ x n, xs = [x] ∧ LenV K x H n ∧ Q (.int n) H) ∨ ∃ a kvs, xs = [V.ref a] ∧ H a = some (.dK kvs) ∧ Q (.int kvs.length) H
theorem cr_len {X : Cx} : CallR X (.builtin "len") (rLenM X.K) := CallR.or call_len call_lenD
theorem oc_len : OpC G (rLenM G.K) fLen := by
  intro W π σ h H ds xs Q g dx p
  unfold fLen at p
  split at p
  · rename_i d
    obtain ⟨v, vs, rfl, d1, e⟩ := dx
    obtain rfl := (show vs = [] from e)
    split at p
    · rename_i n en
      cases d with
      | str x =>
        obtain rfl := (show v = _ from d1)
        have e' : (if x.length ≤ 16777216 then some x.length else none) = some n := en
        by_cases hl : x.length ≤ 16777216
        · rw [if_pos hl] at e'
          cases e'
          exact .inl ⟨_, _, rfl, ⟨szl hl, rfl⟩, post_val g p rfl⟩
        · rw [if_neg hl] at e'
          cases e'
      | tup ds =>
        cases en
        obtain ⟨a, xs, rfl, t, q⟩ := d1
        exact .inl ⟨_, _, rfl, .inr ⟨xs, t.sq, q.len.symm⟩, post_val g p rfl⟩
      | rol ds =>
        cases en
        obtain ⟨a, xs, rfl, t, q⟩ := d1
        exact .inl ⟨_, _, rfl, .inl ⟨xs, t.sq, q.len.symm⟩, post_val g p rfl⟩
      | ref i =>
        obtain ⟨a, qa, rfl⟩ := d1
        have e' : (match h[i]? with
          | some (.lst ds) => some ds.length
          | some (.dic kvs) => some kvs.length
          | _ => none) = some n := en
        split at e'
        · rename_i e0
          cases e'
          obtain ⟨xs, ha, q⟩ := g.lst e0 qa
          exact .inl ⟨_, _, rfl, .inl ⟨xs, SqL.of ha, q.len.symm⟩, post_val g p rfl⟩
        · rename_i e0
          cases e'
          obtain ⟨xs, ha, q⟩ := g.obj e0 qa
          refine .inr ⟨a, xs, rfl, ha, ?_⟩
          rw [q.len]
          exact post_val g p rfl
        · cases e'
      | _ => cases en
    · exact p.elim
  · exact p.elim
theorem oc_list : OpC G (fun xs H Q => ∃ p ys, xs = [.ref p] ∧ (SqL G.K H p ys ∨ SqT G.K H p ys) ∧ ∀ l, H l = none → Q (.ref l) (upd H l (.lst ys))) fList := by
  intro W π σ h H ds xs Q g dx p
  unfold fList at p
  split at p
  · obtain ⟨v, vs, rfl, d1, e⟩ := dx
    obtain rfl := (show vs = [] from e)
    split at p
    · rename_i e0
      obtain ⟨a, ys, rfl, k, q⟩ := items_V g d1 e0
      exact ⟨a, ys, rfl, k, fun l n => post_lst g p q l n⟩
    · exact p.elim
  · exact p.elim
theorem oc_tuple : OpC G (fun xs H Q => ∃ p ys, xs = [.ref p] ∧ ((SqL G.K H p ys ∧ ∀ l, H l = none → Q (.ref l) (upd H l (.tup ys))) ∨ (SqT G.K H p ys ∧ Q (.ref p) H))) fTuple := by
  intro W π σ h H ds xs Q g dx p
  unfold fTuple at p
  split at p
  · rename_i d
    obtain ⟨v, vs, rfl, d1, e⟩ := dx
    obtain rfl := (show vs = [] from e)
    split at p
    · rename_i ys0 e0
      by_cases ht : ∃ ds, d = .tup ds
      · obtain ⟨ds', rfl⟩ := ht
        obtain ⟨a, ys, rfl, t, q⟩ := d1
        cases e0
        exact ⟨a, ys, rfl, .inr ⟨t.sq, post_val g p ⟨a, ys, rfl, t, q⟩⟩⟩
      · have z : ∃ a xs, v = .ref a ∧ SqL G.K H a xs ∧ DVs G.K π H ys0 xs := by
          cases d with
          | tup ds' => exact absurd ⟨_, rfl⟩ ht
          | rol ds' => obtain ⟨a, xs, rfl, t, q⟩ := d1; cases e0; exact ⟨a, xs, rfl, t.sq, q⟩
          | ref i =>
            obtain ⟨a, qa, rfl⟩ := d1
            have e' : (match h[i]? with
              | some (.lst ds) => some ds
              | _ => none) = some ys0 := e0
            split at e'
            · rename_i e0
              cases e'
              obtain ⟨xs, ha, q⟩ := g.lst e0 qa
              exact ⟨a, xs, rfl, SqL.of ha, q⟩
            · cases e'
          | _ => cases e0
        obtain ⟨a, ys, rfl, k, q⟩ := z
        exact ⟨a, ys, rfl, .inl ⟨k, fun l n => post_tup g p q l n⟩⟩
    · exact p.elim
  · exact p.elim
end
abbrev Fm := D → List D → Hm → R D
def mMeth (tg : Hm → D → Bool) (f : Fm) (mo : Ev → Hm → R D) (mr : Ev → Hm → R (List D)) : Ev → Hm → R D := fun env h => (mo env h).bind fun x h1 => if tg h1 x = true then (mr env h1).bind fun ds h2 => f x ds h2 else .bad
def isL (h : Hm) : D → Bool
  | .rol _ => true
  | .ref i => match h[i]? with
    | some (.lst _) => true
    | _ => false
  | _ => false
def isD (h : Hm) : D → Bool
  | .ref i => match h[i]? with
    | some (.dic _) => true
    | _ => false
  | _ => false
def OpM (G : Gx) (r : V → List V → Hp → VK → Prop) (f : Fm) : Prop := ∀ (W : WX) (π : List Addr) (σ : L2.St) (h : Hm) (H : Hp) (d : D) (x : V) (ds : List D) (xs : List V) (Q : VK), Good G π h H → DV G.K π H d x → DVs G.K π H ds xs → Post G W π σ H (f d ds h) (fun π' H' _ z => ∀ v, DV G.K π' H' z v → Q v H') → r x xs H Q
def TyM (G : Gx) (tn : String) (tg : Hm → D → Bool) : Prop := ∀ (π : List Addr) (h : Hm) (H : Hp) (d : D) (x : V), Good G π h H → DV G.K π H d x → tg h d = true → tyV G.K tn x H
theorem tyL {G : Gx} : TyM G "list" isL := by
  intro π h H d x g dx e
  cases d with
  | rol ds => obtain ⟨a, xs, rfl, t, q⟩ := dx; exact .inl ⟨rfl, xs, t.sq⟩
  | ref i =>
    obtain ⟨a, qa, rfl⟩ := dx
    have e' : (match h[i]? with
      | some (.lst _) => true
      | _ => false) = true := e
    split at e'
    · rename_i e0
      obtain ⟨xs, ha, q⟩ := g.lst e0 qa
      exact .inl ⟨rfl, xs, SqL.of ha⟩
    · cases e'
  | _ => cases e
section
variable {X : Cx} {T : List (Addr × Str)} {W : WX} {o e : Expr} {es : List Expr} {mo : Ev → Hm → R D} {mr : Ev → Hm → R (List D)} {name : Str} {apos cpos : Pos} {tn id : String} {r : V → List V → Hp → VK → Prop} {f : Fm} {tg : Hm → D → Bool}
theorem em_bm (pa : PlainAttrs tn) (slot : Slot tn name id) (hty : typeOf (.builtin id) = pure (.type "method_descriptor")) (hm : MtR X id r) (ht : TyM (gx X T) tn tg) (hf : OpM (gx X T) r f) (ho : Em X T W o mo) (ha : Am X T W (e :: es) mr)
    (hbase : attributeBase o name X.env (eval o X.env) = eval o X.env := by rfl)
    (hfew : ((backTo cpos (starEach (e :: es) X.env)).all (fun x => !x.1) && (backToKw cpos (keywordEach [] X.env)).all (fun x => x.1.isSome)
      && decide ((e :: es).length + ([] : List Keyword).length + (if ([] : List Keyword).isEmpty then 0 else 1) < 30)) = true := by rfl)
    (hline : (apos.endLine == cpos.line) = true := by rfl) (hs : starEach (e :: es) X.env = (false, eval e X.env) :: starEach es X.env := by rfl) (hplain : (backTo cpos (starEach es X.env)).any (·.1) = false := by rfl) :
    Em X T W (.Call (.Attribute o name apos) (e :: es) [] cpos) (mMeth tg f mo mr) := PE.of (pe_bm pa slot hty hm ho ha hbase hfew hline hs hplain) fun σ H Q ⟨π, env, h, s, p⟩ => by
  refine ⟨π, env, h, s, p.bind.mono fun π1 H1 h1 d s1 g1 p1 x dx => ?_⟩
  by_cases q : tg h1 d = true
  · rw [if_pos q] at p1
    refine ⟨ht _ _ _ _ _ g1 dx q, π1, env, h1, s.step s1 g1, p1.bind.mono fun π2 H2 h2 ds s2 g2 p2 xs dxs => ?_⟩
    exact hf W π2 σ h2 H2 d x ds xs Q g2 (dx.step s2 _ _) dxs p2
  · rw [if_neg q] at p1
    exact p1.elim
end
section
variable {G : Gx} {π : List Addr} {h : Hm} {H : Hp}
/-- an object of ours is written -/
theorem post_put {W : WX} {σ : L2.St} {i : Nat} {a : Addr} {u : HO} {o : O} {d : D} {v : V} {Q : VK} (g : Good G π h H) (m : π[i]? = some a) (nf : ∀ o u, H a ≠ some (.frz o u)) (w : OV G π (upd H a u) a o) (p : Post G W π σ H (.ok d (h.set i o)) fun π' H' _ z => ∀ v, DV G.K π' H' z v → Q v H') (dv : DV G.K π (upd H a u) d v) : Q v (upd H a u) :=
  p π _ (Step.put m nf) (g.put m nf w) v dv
theorem post_putL {W : WX} {σ : L2.St} {i : Nat} {a : Addr} {ds : List D} {ys : List V} {d : D} {v : V} {Q : VK} (g : Good G π h H) (m : π[i]? = some a) (nf : ∀ o u, H a ≠ some (.frz o u)) (p : Post G W π σ H (.ok d (h.set i (.lst ds))) fun π' H' _ z => ∀ v, DV G.K π' H' z v → Q v H') (q : DVs G.K π H ds ys) (dv : DV G.K π H d v) : Q v (upd H a (.lst ys)) :=
  post_put (o := .lst ds) g m nf ⟨ys, upd_same, q.step (Step.put m nf) _ _⟩ p (dv.step (Step.put m nf) _ _)
def fAppend : Fm := fun x ds h => match x, ds with
  | .ref i, [y] => match h[i]? with
    | some (.lst a) => if a.length < 16777216 then .ok .non (h.set i (.lst (a ++ [y]))) else .bad
    | _ => .bad
  | _, _ => .bad
theorem om_append : OpM G rAppend fAppend := by
  intro W π σ h H d x ds xs Q g dx dxs p
  unfold fAppend at p
  split at p
  · obtain ⟨a, qa, rfl⟩ := dx
    obtain ⟨v, vs, rfl, d1, e⟩ := dxs
    obtain rfl := (show vs = [] from e)
    split at p
    · rename_i e0
      split at p
      · rename_i hl
        obtain ⟨ys, ha, q⟩ := g.lst e0 qa
        exact ⟨a, ys, v, rfl, rfl, ha, szl' (by rw [q.len]; exact hl), post_putL g qa (nfz ha fun _ _ z => (by cases z)) p (q.snoc d1) rfl⟩
      · exact p.elim
    · exact p.elim
  · exact p.elim
theorem DVs.getR {K : PySem.W.Frag} {π : List Addr} {H : Hp} {ds : List D} {xs : List V} {i : Nat} {v : V} (h : DVs K π H ds xs) (e : xs[i]? = some v) : ∃ d, ds[i]? = some d ∧ DV K π H d v := by
  have hi : i < ds.length := by rw [← h.len]; exact (List.getElem?_eq_some_iff.mp e).1
  have e1 : ds[i]? = some ds[i] := List.getElem?_eq_getElem hi
  obtain ⟨w, h1, h2⟩ := h.get e1
  rw [e] at h1
  cases h1
  exact ⟨_, e1, h2⟩
end
section
variable {X : Cx} {T : List (Addr × Str)} {W : WX} {o e e2 : Expr} {mo me me2 : Ev → Hm → R D} {mr : Ev → Hm → R (List D)} {apos cpos : Pos}
/-- d.get(k, x) -/
def mGet (mo a b : Ev → Hm → R D) : Ev → Hm → R D := fun env h => (mo env h).bind fun x h1 => if isD h1 x = true then (a env h1).bind fun k h2 => (b env h2).bind fun y h3 => match x, keyD k with
  | .ref i, some k => match h3[i]? with
    | some (.dic kvs) => .ok ((getK kvs k).getD y) h3
    | _ => .bad
  | _, _ => .bad else .bad
end
end MM
namespace MM
open PySem L2
/-- the class named c, and its fields f of fs that no class of it holds -/
def FOk (X : Cx) (cs : List Str) (f : Str) : Prop := ∀ c ∈ cs, ∀ C, X.mg c = some (.ref C) → Cls X.K C ∧ NoAttr X.K C f
def mFld (cs : List Str) (f : Str) (m : Ev → Hm → R D) : Ev → Hm → R D := fun env h => (m env h).bind fun x h1 => match x with
  | .ref i => match h1[i]? with
    | some (.ins c fs) => if c ∈ cs then match fs.lookup f with
        | some d => .ok d h1
        | none => .bad else .bad
    | _ => .bad
  | _ => .bad
def putD (f : Str) (v : D) : List (Str × D) → List (Str × D)
  | [] => [(f, v)]
  | (g, x) :: r => if g = f then (g, v) :: r else (g, x) :: putD f v r
section
variable {K : PySem.W.Frag} {π : List Addr} {H : Hp}
theorem DPs.lookup {f : Str} : ∀ {fs : List (Str × D)} {xs : List (Str × V)} {d : D}, DPs K π H fs xs → fs.lookup f = some d → ∃ v, xs.lookup f = some v ∧ DV K π H d v
  | p :: ps, _, d, ⟨v, vs, e, h, q⟩, l => by
    obtain ⟨k, y⟩ := p
    rw [e]
    by_cases hk : f = k
    · have hb : (f == k) = true := beq_iff_eq.mpr hk
      simp only [List.lookup, hb] at l ⊢
      cases l
      exact ⟨v, rfl, h⟩
    · have hb : (f == k) = false := beq_eq_false_iff_ne.mpr hk
      simp only [List.lookup, hb] at l ⊢
      exact DPs.lookup q l
theorem DPs.putF {f : Str} {d : D} {v : V} (dv : DV K π H d v) : ∀ {fs : List (Str × D)} {xs : List (Str × V)}, DPs K π H fs xs → DPs K π H (putD f d fs) (putF f v xs)
  | [], _, h => by rw [show _ = [] from h]; exact ⟨v, [], rfl, dv, rfl⟩
  | p :: ps, _, ⟨w, vs, e, h, q⟩ => by
    obtain ⟨k, y⟩ := p
    rw [e]
    unfold putD L2.putF
    by_cases hk : k = f
    · rw [if_pos hk, if_pos hk]
      exact ⟨v, vs, rfl, dv, q⟩
    · rw [if_neg hk, if_neg hk]
      exact ⟨w, _, rfl, h, DPs.putF dv q⟩
def putDK (kvs : List (Key × D)) (k : Key) (v : D) : List (Key × D) :=
  if (kvs.any fun kv => decide (kv.1 = k)) = true then kvs.map (fun kv => if kv.1 = k then (kv.1, v) else kv) else kvs ++ [(k, v)]
theorem DPs.anyK {k : Key} : ∀ {fs : List (Key × D)} {xs : List (Key × V)}, DPs K π H fs xs → (xs.any fun kv => decide (kv.1 = k)) = (fs.any fun kv => decide (kv.1 = k))
  | [], _, h => by rw [show _ = [] from h] <;> rfl
  | p :: ps, _, ⟨w, vs, e, h, q⟩ => by rw [e, List.any_cons, List.any_cons, DPs.anyK q]
theorem DPs.mapK {k : Key} {d : D} {v : V} (dv : DV K π H d v) : ∀ {fs : List (Key × D)} {xs : List (Key × V)}, DPs K π H fs xs → DPs K π H (fs.map fun kv => if kv.1 = k then (kv.1, d) else kv) (xs.map fun kv => if kv.1 = k then (kv.1, v) else kv)
  | [], _, h => by rw [show _ = [] from h]; rfl
  | p :: ps, _, ⟨w, vs, e, h, q⟩ => by
    rw [e, List.map_cons, List.map_cons]
    by_cases hk : p.1 = k
    · rw [if_pos hk, if_pos hk]; exact ⟨v, _, rfl, dv, DPs.mapK dv q⟩
    · rw [if_neg hk, if_neg hk]; exact ⟨w, _, rfl, h, DPs.mapK dv q⟩
theorem DPs.app {κ : Type} : ∀ {fs gs : List (κ × D)} {xs ys : List (κ × V)}, DPs K π H fs xs → DPs K π H gs ys → DPs K π H (fs ++ gs) (xs ++ ys)
  | [], _, _, _, h, q => by rw [show _ = [] from h]; exact q
  | p :: ps, _, _, _, ⟨w, vs, e, h, q⟩, r => ⟨w, vs ++ _, by rw [e] <;> rfl, h, DPs.app q r⟩
theorem DPs.putK {k : Key} {d : D} {v : V} (dv : DV K π H d v) {fs : List (Key × D)} {xs : List (Key × V)} (h : DPs K π H fs xs) : DPs K π H (putDK fs k d) (putK xs k v) := by
  unfold putDK L2.putK
  rw [h.anyK]
  by_cases hk : (fs.any fun kv => decide (kv.1 = k)) = true
  · rw [if_pos hk, if_pos hk]; exact h.mapK dv
  · rw [if_neg hk, if_neg hk]; exact h.app ⟨v, [], rfl, dv, rfl⟩
end
section
variable {X : Cx} {T : List (Addr × Str)} {W : WX} {o e : Expr} {mo me : Ev → Hm → R D} {f : Str} {cs : List Str} {pos pos' tpos : Pos}
theorem em_fld (hf : FOk X cs f) (he : Em X T W e me) (hb : attributeBase e f X.env (eval e X.env) = eval e X.env := by rfl) : Em X T W (.Attribute e f pos) (mFld cs f me) := PE.of (pe_fld he hb) fun σ H Q ⟨π, env, h, s, p⟩ => by
  refine ⟨π, env, h, s, p.bind.mono fun π1 H1 h1 d s1 g1 p1 x dx => ?_⟩
  split at p1
  · obtain ⟨a, qa, rfl⟩ := dx
    split at p1
    · rename_i c fs e0
      split at p1
      · rename_i hc
        split at p1
        · rename_i d e1
          obtain ⟨C, dx, xs, m1, ha, q⟩ := g1.obj e0 qa
          obtain ⟨c1, c2⟩ := hf c hc C m1
          obtain ⟨v, l, dv⟩ := q.lookup e1
          exact ⟨a, C, dx, xs, v, rfl, ha, c1, c2, l, post_val g1 p1 dv⟩
        · exact p1.elim
      · exact p1.elim
    · exact p1.elim
  · exact p1.elim
/-- an instance is written -/
def setF (cs : List Str) (f : Str) (x y : D) (h : Hm) : Option Hm := match x with
  | .ref i => match h[i]? with
    | some (.ins c fs) => if c ∈ cs ∧ fs.length < 1000 then some (h.set i (.ins c (putD f y fs))) else none
    | _ => none
  | _ => none
def sFldM (cs : List Str) (f : Str) (mo me : Ev → Hm → R D) : Ev → Hm → SR := fun env h => (me env h).bindS env fun y h1 => (mo env h1).bindS env fun x h2 => match setF cs f x y h2 with
  | some h3 => .next env h3
  | none => .bad
theorem setF_ok {G : Gx} {π : List Addr} {h h' : Hm} {H : Hp} {x y : D} {v w : V} (g : Good G π h H) (dx : DV G.K π H x v) (dy : DV G.K π H y w) (e : setF cs f x y h = some h') :
    ∃ c ∈ cs, ∃ a C dx fs, G.mg c = some (.ref C) ∧ v = .ref a ∧ H a = some (.ins C dx fs) ∧ fs.length < 1000 ∧ Step π H π (upd H a (.ins C dx (putF f w fs))) ∧ Good G π h' (upd H a (.ins C dx (putF f w fs))) := by
  unfold setF at e
  split at e
  · rename_i i
    obtain ⟨a, qa, rfl⟩ := dx
    split at e
    · rename_i c fs e0
      split at e
      · rename_i hc
        cases e
        obtain ⟨C, dx, xs, m1, ha, q⟩ := g.obj e0 qa
        exact ⟨c, hc.1, a, C, dx, xs, m1, rfl, ha, by rw [q.len]; exact hc.2, Step.put qa (nfz ha fun _ _ z => (by cases z)), g.put (o := .ins c (putD f y fs)) qa (nfz ha fun _ _ z => (by cases z)) ⟨C, dx, _, m1, upd_same, (q.putF dy).step (Step.put qa (nfz ha fun _ _ z => (by cases z))) _ _⟩⟩
      · cases e
    · cases e
  · cases e
theorem sm_fld (hf : FOk X cs f) (ho : Em X T W o mo) (he : Em X T W e me) (hs : swapsWith e (some (.Attribute o f pos')) pos.line X.env = pure false := by rfl) : Sm X T W (.Assign [.Attribute o f pos'] e pos) (sFldM cs f mo me) := PS.of (ps_fld ho he hs) fun D σ H ⟨π, env, h, s, p⟩ =>
  ⟨π, env, h, s, (PostS.bind s p).mono fun π1 H1 h1 y s1 g1 p1 w dw => ⟨π1, env, h1, s.step s1 g1, (PostS.bind (s.step s1 g1) p1).mono fun π2 H2 h2 x s2 g2 p2 v dv => by
    split at p2
    · rename_i h3 e3
      obtain ⟨c, hc, a, C, dx, fs, m1, rfl, ha, hl, st, g3⟩ := setF_ok g2 dv (dw.step s2 _ _) e3
      obtain ⟨c1, c2⟩ := hf c hc C m1
      exact ⟨a, C, dx, fs, rfl, ha, c1, c2, hl, p2 π2 σ _ st (((s.step s1 g1).step s2 g2).step st g3)⟩
    · exact p2.elim⟩⟩
/-- o.f op= e -/
def sFldA (cs : List Str) (f : Str) (fo : F2) (mo me : Ev → Hm → R D) : Ev → Hm → SR := fun env h => (mo env h).bindS env fun x h1 => match x with
  | .ref i => match h1[i]? with
    | some (.ins c fs) => if c ∈ cs then match fs.lookup f with
        | some v => (me env h1).bindS env fun y h2 => (fo v y h2).bindS env fun z h3 => match h3[i]? with
            | some (.ins c' fs') => if c' = c ∧ fs'.length < 1000 then .next env (h3.set i (.ins c (putD f z fs'))) else .bad
            | _ => .bad
        | none => .bad else .bad
    | _ => .bad
  | _ => .bad
theorem sm_flda {op : Operator} {r : R2} {fo : F2} (hf : FOk X cs f) (hr : OpR X (inplaceOp op) r) (hop : Op2 (gx X T) r fo) (ho : Em X T W o mo) (he : Em X T W e me) : Sm X T W (.AugAssign (.Attribute o f tpos) op e pos) (sFldA cs f fo mo me) :=
  PS.of (ps_fldaug (rd := r) ho he (fun pins s σ H x y u v Q I r1 r2 h => hr pins s σ H x y u v Q I r1 r2 h)) fun D σ H ⟨π, env, h, s, p⟩ =>
  ⟨π, env, h, s, (PostS.bind s p).mono fun π1 H1 h1 x s1 g1 p1 w dw => by
    split at p1
    · rename_i i
      obtain ⟨a, qa, rfl⟩ := dw
      split at p1
      · rename_i c fs e0
        split at p1
        · rename_i hc
          split at p1
          · rename_i d e1
            obtain ⟨C, dx, xs, m1, ha, q⟩ := g1.obj e0 qa
            obtain ⟨c1, c2⟩ := hf c hc C m1
            obtain ⟨v, l, dv⟩ := q.lookup e1
            refine ⟨a, C, dx, xs, v, rfl, ha, c1, c2, l, π1, env, h1, s.step s1 g1, (PostS.bind (s.step s1 g1) p1).mono fun π2 H2 h2 y s2 g2 p2 u du => ?_⟩
            refine hop W π2 σ h2 H2 d y v u _ g2 (dv.step s2 _ _) du ((PostS.bind ((s.step s1 g1).step s2 g2) p2).mono fun π3 H3 h3 z s3 g3 p3 t dt => ?_)
            split at p3
            · rename_i c' fs' e3
              split at p3
              · rename_i hc'
                obtain ⟨rfl, hl⟩ := hc'
                have qa3 := s3.get (s2.get qa)
                obtain ⟨C', dx', xs', m1', ha', q'⟩ := g3.obj e3 qa3
                rw [m1] at m1'
                cases m1'
                refine ⟨dx', xs', ha', by rw [q'.len]; exact hl, p3 π3 σ _ (Step.put qa3 (nfz ha' fun _ _ z => (by cases z))) ((((s.step s1 g1).step s2 g2).step s3 g3).step (Step.put qa3 (nfz ha' fun _ _ z => (by cases z))) (g3.put (o := .ins c' (putD f z fs')) qa3 (nfz ha' fun _ _ z => (by cases z)) ⟨C, dx', _, m1, upd_same, (q'.putF dt).step (Step.put qa3 (nfz ha' fun _ _ z => (by cases z))) _ _⟩))⟩
              · exact p3.elim
            · exact p3.elim
          · exact p1.elim
        · exact p1.elim
      · exact p1.elim
    · exact p1.elim⟩
end
def fSet (o i v : D) (h : Hm) : Option Hm := match o with
  | .ref r => match h[r]? with
    | some (.lst ds) => match i with
      | .int k => match ixN ds.length k with
        | some j => some (h.set r (.lst (ds.set j v)))
        | none => none
      | _ => none
    | some (.dic kvs) => match keyD i with
      | some k => if kvs.length < 16777216 then some (h.set r (.dic (putDK kvs k v))) else none
      | none => none
    | _ => none
  | _ => none
def OpS (G : Gx) (r : TSet) (f : D → D → D → Hm → Option Hm) : Prop := ∀ (π : List Addr) (h h' : Hm) (H : Hp) (o i d : D) (x y v : V) (Q : Hp → Prop), Good G π h H → DV G.K π H o x → DV G.K π H i y → DV G.K π H d v → f o i d h = some h' → (∀ H', Step π H π H' → Good G π h' H' → Q H') → r x y v H Q
def rSetM : TSet := fun o i v H Q => rSetL o i v H Q ∨ rSetD o i v H Q
theorem set_m {X : Cx} (hu : X.A.units + 1 < cLine) : PSet X rSetM := by
  intro pins s σ H o i v ov iv u Q I ro ri rv h
  rcases h with h | h
  · exact set_list pins s σ H o i v ov iv u Q I ro ri rv h
  · exact set_dict hu pins s σ H o i v ov iv u Q I ro ri rv h
theorem os_set {G : Gx} : OpS G rSetM fSet := by
  intro π h h' H o i d x y v Q g dx dy dv e q
  unfold fSet at e
  split at e
  · obtain ⟨a, qa, rfl⟩ := dx
    split at e
    · rename_i ds e0
      obtain ⟨xs, ha, k⟩ := g.lst e0 qa
      split at e
      · obtain rfl := (show y = _ from dy)
        split at e
        · rename_i j ej
          cases e
          refine .inl ⟨a, xs, _, j, rfl, rfl, ha, by rw [k.len]; exact ej, q _ (Step.put qa (nfz ha fun _ _ z => (by cases z))) (g.put (o := .lst (ds.set j d)) qa (nfz ha fun _ _ z => (by cases z)) ⟨_, upd_same, (k.set j dv).step (Step.put qa (nfz ha fun _ _ z => (by cases z))) _ _⟩)⟩
        · cases e
      · cases e
    · rename_i kvs e0
      obtain ⟨xs, ha, k⟩ := g.obj e0 qa
      split at e
      · rename_i κ ek
        obtain rfl := keyD_V ek dy
        split at e
        · rename_i hl
          cases e
          exact .inr ⟨a, _, rfl, DPut.k ha (szl' (by rw [k.len]; exact hl)), q _ (Step.put qa (nfz ha fun _ _ z => (by cases z))) (g.put (o := .dic (putDK kvs κ d)) qa (nfz ha fun _ _ z => (by cases z)) ⟨_, upd_same, (k.putK dv).step (Step.put qa (nfz ha fun _ _ z => (by cases z))) _ _⟩)⟩
        · cases e
      · cases e
    · cases e
  · cases e
def gSubM (mo mi : Ev → Hm → R D) : Gt := fun d env h => (mo env h).bindS env fun x h1 => (mi env h1).bindS env fun y h2 => match fSet x y d h2 with
  | some h3 => .next env h3
  | none => .bad
section
variable {X : Cx} {T : List (Addr × Str)} {W : WX} {o i e : Expr} {mo mi me : Ev → Hm → R D} {f : Str} {cs : List Str} {pos p2 tpos : Pos}
theorem gm_sub (hu : X.A.units + 1 < cLine) (ho : Em X T W o mo) (hi : Em X T W i mi) (ha : ∀ v, assign (.Subscript o i pos) X.env v = (do
      let ov ← holding [v] (eval o X.env)
      let iv ← holding [v, ov] (eval i X.env)
      standAt pos
      holding [v, ov, iv] (setItem ov iv v)
      release [v, ov, iv] []) := by intro _; rfl) : Gm X T W (.Subscript o i pos) (gSubM mo mi) := PG.of (pg_sub ho hi (set_m hu) ha) fun v σ H Q ⟨π, env, h, d, s, dv, p⟩ => by
  refine ⟨π, env, h, s, (PostS.bind s p).mono fun π1 H1 h1 x s1 g1 p1 u du => ⟨π1, env, h1, s.step s1 g1, (PostS.bind (s.step s1 g1) p1).mono fun π2 H2 h2 y s2 g2 p2 w dw => ?_⟩⟩
  split at p2
  · rename_i h3 e3
    exact os_set π2 h2 h3 H2 x y d u w v _ g2 (du.step s2 _ _) dw ((dv.step s1 _ _).step s2 _ _) e3 fun H' st g' => p2 π2 σ H' st (((s.step s1 g1).step s2 g2).step st g')
  · exact p2.elim
end
end MM
namespace MM
open PySem L2
abbrev Itr := List D × List (Nat × O)
def gdOk (gs : List (Nat × O)) (h : Hm) : Bool := gs.all fun p => decide (h[p.1]? = some p.2)
structure WalkD (G : Gx) (π0 : List Addr) (H0 : Hp) (J : It) (it : Itr) : Prop where
  go : ∀ i π h H, Step π0 H0 π H → Good G π h H → gdOk it.2 h = true → i < it.1.length → J.go i H
  stop : ∀ i π h H, Step π0 H0 π H → Good G π h H → gdOk it.2 h = true → i = it.1.length → J.stop i H
  yld : ∀ i π h H x H', Step π0 H0 π H → Good G π h H → gdOk it.2 h = true → i < it.1.length → J.yld i H x H' → Step π H π H' ∧ Good G π h H' ∧ ∃ d, it.1[i]? = some d ∧ DV G.K π H' d x
def tI (G : Gx) (W : WX) (m : Ev → Hm → R Itr) : TI := fun σ H Rr => ∃ π env h, S G π env h σ H ∧ Post G W π σ H (m env h) fun π' H' _ it => ∀ J, WalkD G π' H' J it → Rr J H'
abbrev Im (X : Cx) (T : List (Addr × Str)) (W : WX) (tg e : Expr) (m : Ev → Hm → R Itr) : Prop := PI X tg e (tI (gx X T) W m)
theorem PI.of {X : Cx} {tg e : Expr} {t t' : TI} (p : PI X tg e t) (w : ∀ σ H Q, t' σ H Q → t σ H Q) : PI X tg e t' := ⟨fun pins s σ H Q I h => p.run pins s σ H Q I (w σ H Q h)⟩
section
variable {G : Gx} {π0 : List Addr} {H0 : Hp} {a b : Addr} {i r : Nat} {ds es : List D} {xs : List V}
theorem gd1 {gs : List (Nat × O)} {h : Hm} {p : Nat × O} (e : gdOk gs h = true) (m : p ∈ gs) : h[p.1]? = some p.2 := of_decide_eq_true (List.all_eq_true.mp e p m)
theorem walk_lst (q : π0[r]? = some a) : WalkD G π0 H0 (Itl G.K a) (ds, [(r, .lst ds)]) := by
  refine ⟨fun i π h H s g e hi => ?_, fun i π h H s g e hi => ?_, fun i π h H x H' s g e hi y => ?_⟩
  · obtain ⟨xs, ha, k⟩ := g.lst (gd1 e List.mem_cons_self) (s.get q)
    obtain ⟨v, h1, _⟩ := k.get (List.getElem?_eq_getElem hi)
    exact ⟨xs, v, SqL.of ha, h1⟩
  · obtain ⟨xs, ha, k⟩ := g.lst (gd1 e List.mem_cons_self) (s.get q)
    exact ⟨xs, SqL.of ha, by rw [k.len, hi]; exact Nat.le_refl _⟩
  · obtain ⟨xs, ha, k⟩ := g.lst (gd1 e List.mem_cons_self) (s.get q)
    obtain ⟨rfl, y⟩ := y
    obtain ⟨d, h1, h2⟩ := k.getR (y xs (SqL.of ha))
    exact ⟨Step.refl, g, d, h1, h2⟩
theorem walk_rol (t : LstAt G.K π0 H0 a xs) (k : DVs G.K π0 H0 ds xs) : WalkD G π0 H0 (Itl G.K a) (ds, []) := by
  refine ⟨fun i π h H s g e hi => ?_, fun i π h H s g e hi => ?_, fun i π h H x H' s g e hi y => ?_⟩
  · obtain ⟨v, h1, _⟩ := k.get (List.getElem?_eq_getElem hi)
    exact ⟨xs, v, (t.step s).sq, h1⟩
  · exact ⟨xs, (t.step s).sq, by rw [k.len, hi]; exact Nat.le_refl _⟩
  · obtain ⟨rfl, y⟩ := y
    obtain ⟨d, h1, h2⟩ := k.getR (y xs (t.step s).sq)
    exact ⟨Step.refl, g, d, h1, h2.step s _ _⟩
theorem walk_tp (t : TupAt G.K π0 H0 a xs) (k : DVs G.K π0 H0 ds xs) : WalkD G π0 H0 (Itt G.K a) (ds, []) := by
  refine ⟨fun i π h H s g e hi => ?_, fun i π h H s g e hi => ?_, fun i π h H x H' s g e hi y => ?_⟩
  · obtain ⟨v, h1, _⟩ := k.get (List.getElem?_eq_getElem hi)
    exact ⟨xs, v, (t.step s).sq, h1⟩
  · exact ⟨xs, (t.step s).sq, by rw [k.len, hi]; exact Nat.le_refl _⟩
  · obtain ⟨rfl, y⟩ := y
    obtain ⟨d, h1, h2⟩ := k.getR (y xs (t.step s).sq)
    exact ⟨Step.refl, g, d, h1, h2.step s _ _⟩
theorem get_map_range {f : Nat → D} {n i : Nat} (hi : i < n) : ((List.range n).map f)[i]? = some (f i) := by simp [hi]
def rng1 (lo : Int) (n : Nat) : List D := (List.range n).map fun i : Nat => D.int (lo + (i : Int))
theorem walk_rg {lo : Int} {n : Nat} : WalkD G π0 H0 (L2.Itr lo n) (rng1 lo n, []) := by
  refine ⟨fun i π h H s g e hi => ?_, fun i π h H s g e hi => ?_, fun i π h H x H' s g e hi y => ?_⟩
  · have hi' : i < n := by simpa [rng1] using hi
    exact hi'
  · have : n ≤ i := by simp [rng1] at hi; omega
    exact this
  · obtain ⟨rfl, y⟩ := y
    have hi' : i < n := by simpa [rng1] using hi
    exact ⟨Step.refl, g, _, get_map_range hi', y⟩
/-- reversed(list): the length is the one at the start -/
theorem walk_rv (q : π0[r]? = some a) {n : Nat} (hn : n = ds.length) : WalkD G π0 H0 (Itv G.K a n) (ds.reverse, [(r, .lst ds)]) := by
  subst hn
  refine ⟨fun i π h H s g e hi => ?_, fun i π h H s g e hi => ?_, fun i π h H x H' s g e hi y => ?_⟩
  · rw [List.length_reverse] at hi
    obtain ⟨xs, ha, k⟩ := g.lst (gd1 e List.mem_cons_self) (s.get q)
    obtain ⟨v, h1, _⟩ := k.get (List.getElem?_eq_getElem (show ds.length - 1 - i < ds.length by omega))
    exact ⟨hi, xs, v, SqL.of ha, h1⟩
  · rw [List.length_reverse] at hi
    exact Nat.le_of_eq hi.symm
  · rw [List.length_reverse] at hi
    obtain ⟨xs, ha, k⟩ := g.lst (gd1 e List.mem_cons_self) (s.get q)
    obtain ⟨rfl, y⟩ := y
    obtain ⟨d, h1, h2⟩ := k.getR (y xs (SqL.of ha))
    exact ⟨Step.refl, g, d, by rw [List.getElem?_reverse hi]; exact h1, h2⟩
theorem walk_rvK (t : LstAt G.K π0 H0 a xs) (k : DVs G.K π0 H0 ds xs) : WalkD G π0 H0 (Itv G.K a xs.length) (ds.reverse, []) := by
  refine ⟨fun i π h H s g e hi => ?_, fun i π h H s g e hi => ?_, fun i π h H x H' s g e hi y => ?_⟩
  · rw [List.length_reverse] at hi
    obtain ⟨v, h1, _⟩ := k.get (List.getElem?_eq_getElem (show xs.length - 1 - i < ds.length by rw [k.len]; omega))
    exact ⟨by rw [k.len]; exact hi, xs, v, (t.step s).sq, h1⟩
  · rw [List.length_reverse] at hi
    show xs.length ≤ i
    rw [k.len]
    omega
  · rw [List.length_reverse] at hi
    obtain ⟨rfl, y⟩ := y
    obtain ⟨d, h1, h2⟩ := k.getR (y xs (t.step s).sq)
    rw [k.len] at h1
    exact ⟨Step.refl, g, d, by rw [List.getElem?_reverse hi]; exact h1, h2.step s _ _⟩
theorem walk_rvT (t : TupAt G.K π0 H0 a xs) (k : DVs G.K π0 H0 ds xs) : WalkD G π0 H0 (RT.ItvT G.K a xs.length) (ds.reverse, []) := by
  refine ⟨fun i π h H s g e hi => ?_, fun i π h H s g e hi => ?_, fun i π h H x H' s g e hi y => ?_⟩
  · rw [List.length_reverse] at hi
    obtain ⟨v, h1, _⟩ := k.get (List.getElem?_eq_getElem (show xs.length - 1 - i < ds.length by rw [k.len]; omega))
    exact ⟨by rw [k.len]; exact hi, xs, v, (t.step s).sq, h1⟩
  · rw [List.length_reverse] at hi
    show xs.length ≤ i
    rw [k.len]
    omega
  · rw [List.length_reverse] at hi
    obtain ⟨rfl, y⟩ := y
    obtain ⟨d, h1, h2⟩ := k.getR (y xs (t.step s).sq)
    rw [k.len] at h1
    exact ⟨Step.refl, g, d, by rw [List.getElem?_reverse hi]; exact h1, h2.step s _ _⟩
def enumD (n : Nat) : List D → List D
  | [] => []
  | d :: ds => .tup [.int n, d] :: enumD (n + 1) ds
theorem enumD_len : ∀ (ds : List D) (n : Nat), (enumD n ds).length = ds.length
  | [], _ => rfl
  | d :: ds, n => by unfold enumD; rw [List.length_cons, List.length_cons, enumD_len ds]
theorem enumD_get : ∀ (ds : List D) (n i : Nat) (d : D), ds[i]? = some d → (enumD n ds)[i]? = some (.tup [.int ((n + i : Nat) : Int), d])
  | d :: ds, n, 0, d', e => by cases e; rfl
  | d :: ds, n, i + 1, d', e => by
    have := enumD_get ds (n + 1) i d' e
    unfold enumD
    rw [List.getElem?_cons_succ, this, show n + 1 + i = n + (i + 1) by omega]
/-- a new pair -/
theorem new_pair {π : List Addr} {h : Hm} {H : Hp} (g : Good G π h H) {P : Addr} (n : H P = none) {x y : V} {d e : D} (dx : DV G.K π H d x) (ey : DV G.K π H e y) : Step π H π (upd H P (.tup [x, y])) ∧ Good G π h (upd H P (.tup [x, y])) ∧ DV G.K π (upd H P (.tup [x, y])) (.tup [d, e]) (.ref P) := by
  have s := Step.other (o := .tup [x, y]) g n
  exact ⟨s, g.other n, P, [x, y], rfl, .inl ⟨upd_same, g.free n⟩, .two (dx.step s _ _) (ey.step s _ _)⟩
theorem walk_en (q : π0[r]? = some a) : WalkD G π0 H0 (Ite G.K a) (enumD 0 ds, [(r, .lst ds)]) := by
  refine ⟨fun i π h H s g e hi => ?_, fun i π h H s g e hi => ?_, fun i π h H x H' s g e hi y => ?_⟩
  · rw [enumD_len] at hi
    obtain ⟨xs, ha, k⟩ := g.lst (gd1 e List.mem_cons_self) (s.get q)
    obtain ⟨v, h1, _⟩ := k.get (List.getElem?_eq_getElem hi)
    exact ⟨xs, v, SqL.of ha, h1⟩
  · rw [enumD_len] at hi
    obtain ⟨xs, ha, k⟩ := g.lst (gd1 e List.mem_cons_self) (s.get q)
    exact ⟨xs, SqL.of ha, by rw [k.len, hi]; exact Nat.le_refl _⟩
  · obtain ⟨xs, ha, k⟩ := g.lst (gd1 e List.mem_cons_self) (s.get q)
    obtain ⟨P, z, rfl, hn, rfl, y⟩ := y
    obtain ⟨d, h1, h2⟩ := k.getR (y xs (SqL.of ha))
    obtain ⟨p1, p2, p3⟩ := new_pair (d := .int (i : Nat)) (x := .int (i : Nat)) g hn rfl h2
    refine ⟨p1, p2, _, enumD_get ds 0 i d h1, ?_⟩
    rw [Nat.zero_add]
    exact p3
theorem walk_enK (t : LstAt G.K π0 H0 a xs) (k : DVs G.K π0 H0 ds xs) : WalkD G π0 H0 (Ite G.K a) (enumD 0 ds, []) := by
  refine ⟨fun i π h H s g e hi => ?_, fun i π h H s g e hi => ?_, fun i π h H x H' s g e hi y => ?_⟩
  · rw [enumD_len] at hi
    obtain ⟨v, h1, _⟩ := k.get (List.getElem?_eq_getElem hi)
    exact ⟨xs, v, (t.step s).sq, h1⟩
  · rw [enumD_len] at hi
    exact ⟨xs, (t.step s).sq, by rw [k.len, hi]; exact Nat.le_refl _⟩
  · obtain ⟨P, z, rfl, hn, rfl, y⟩ := y
    obtain ⟨d, h1, h2⟩ := k.getR (y xs (t.step s).sq)
    obtain ⟨p1, p2, p3⟩ := new_pair (d := .int (i : Nat)) (x := .int (i : Nat)) g hn rfl (h2.step s _ _)
    refine ⟨p1, p2, _, enumD_get ds 0 i d h1, ?_⟩
    rw [Nat.zero_add]
    exact p3
def zipD (ds es : List D) : List D := (ds.zip es).map fun p => .tup [p.1, p.2]
theorem zipD_get {i : Nat} {d e : D} (h1 : ds[i]? = some d) (h2 : es[i]? = some e) : (zipD ds es)[i]? = some (.tup [d, e]) := by
  unfold zipD
  rw [List.getElem?_map, show (ds.zip es)[i]? = some (d, e) from List.getElem?_zip_eq_some.mpr ⟨h1, h2⟩] <;> rfl
theorem zipD_len : (zipD ds es).length = min ds.length es.length := by unfold zipD; rw [List.length_map, List.length_zip]
/-- the items of a list or a tuple, at every later heap -/
def SeqA (G : Gx) (π0 : List Addr) (H0 : Hp) (tup : Bool) (a : Addr) (ds : List D) (gs : List (Nat × O)) : Prop :=
  ∀ π h H, Step π0 H0 π H → Good G π h H → gdOk gs h = true → ∃ xs, (if tup = true then SqT G.K H a xs else SqL G.K H a xs) ∧ DVs G.K π H ds xs
theorem seqA_lst (q : π0[r]? = some a) : SeqA G π0 H0 false a ds [(r, .lst ds)] := fun π h H s g e => by
  obtain ⟨xs, ha, k⟩ := g.lst (gd1 e List.mem_cons_self) (s.get q)
  exact ⟨xs, SqL.of ha, k⟩
theorem seqA_rol (t : LstAt G.K π0 H0 a xs) (k : DVs G.K π0 H0 ds xs) : SeqA G π0 H0 false a ds [] := fun π h H s g e => ⟨xs, (t.step s).sq, k.step s _ _⟩
theorem seqA_tup (t : TupAt G.K π0 H0 a xs) (k : DVs G.K π0 H0 ds xs) : SeqA G π0 H0 true a ds [] := fun π h H s g e => ⟨xs, (t.step s).sq, k.step s _ _⟩
theorem gdOk_app {g1 g2 : List (Nat × O)} {h : Hm} (e : gdOk (g1 ++ g2) h = true) : gdOk g1 h = true ∧ gdOk g2 h = true := by
  unfold gdOk at e ⊢
  rw [List.all_append, Bool.and_eq_true] at e
  exact e
theorem walk_zp {g1 g2 : List (Nat × O)} (w1 : SeqA G π0 H0 false a ds g1) (w2 : SeqA G π0 H0 false b es g2) : WalkD G π0 H0 (Itz G.K a b) (zipD ds es, g1 ++ g2) := by
  refine ⟨fun i π h H s g e hi => ?_, fun i π h H s g e hi => ?_, fun i π h H x H' s g e hi y => ?_⟩
  · obtain ⟨xs, ha, k⟩ := w1 π h H s g (gdOk_app e).1
    obtain ⟨ys, hb, k2⟩ := w2 π h H s g (gdOk_app e).2
    rw [zipD_len] at hi
    obtain ⟨v, h1, _⟩ := k.get (List.getElem?_eq_getElem (show i < ds.length by omega))
    obtain ⟨u, h2, _⟩ := k2.get (List.getElem?_eq_getElem (show i < es.length by omega))
    exact ⟨xs, ys, v, u, ha, hb, h1, h2⟩
  · obtain ⟨xs, ha, k⟩ := w1 π h H s g (gdOk_app e).1
    obtain ⟨ys, hb, k2⟩ := w2 π h H s g (gdOk_app e).2
    rw [zipD_len] at hi
    exact ⟨xs, ys, ha, hb, by rw [k.len, k2.len]; omega⟩
  · obtain ⟨xs, ha, k⟩ := w1 π h H s g (gdOk_app e).1
    obtain ⟨ys, hb, k2⟩ := w2 π h H s g (gdOk_app e).2
    obtain ⟨P, u, w, rfl, hn, rfl, y1, y2⟩ := y
    obtain ⟨d, h1, h2⟩ := k.getR (y1 xs ha)
    obtain ⟨d', h1', h2'⟩ := k2.getR (y2 ys hb)
    obtain ⟨p1, p2, p3⟩ := new_pair g hn h2 h2'
    exact ⟨p1, p2, _, zipD_get h1 h1', p3⟩
theorem walk_zpT {g1 g2 : List (Nat × O)} (w1 : SeqA G π0 H0 true a ds g1) (w2 : SeqA G π0 H0 true b es g2) : WalkD G π0 H0 (RZ.ItzT G.K a b) (zipD ds es, g1 ++ g2) := by
  refine ⟨fun i π h H s g e hi => ?_, fun i π h H s g e hi => ?_, fun i π h H x H' s g e hi y => ?_⟩
  · obtain ⟨xs, ha, k⟩ := w1 π h H s g (gdOk_app e).1
    obtain ⟨ys, hb, k2⟩ := w2 π h H s g (gdOk_app e).2
    rw [zipD_len] at hi
    obtain ⟨v, h1, _⟩ := k.get (List.getElem?_eq_getElem (show i < ds.length by omega))
    obtain ⟨u, h2, _⟩ := k2.get (List.getElem?_eq_getElem (show i < es.length by omega))
    exact ⟨xs, ys, v, u, ha, hb, h1, h2⟩
  · obtain ⟨xs, ha, k⟩ := w1 π h H s g (gdOk_app e).1
    obtain ⟨ys, hb, k2⟩ := w2 π h H s g (gdOk_app e).2
    rw [zipD_len] at hi
    exact ⟨xs, ys, ha, hb, by rw [k.len, k2.len]; omega⟩
  · obtain ⟨xs, ha, k⟩ := w1 π h H s g (gdOk_app e).1
    obtain ⟨ys, hb, k2⟩ := w2 π h H s g (gdOk_app e).2
    obtain ⟨P, u, w, rfl, hn, rfl, y1, y2⟩ := y
    obtain ⟨d, h1, h2⟩ := k.getR (y1 xs ha)
    obtain ⟨d', h1', h2'⟩ := k2.getR (y2 ys hb)
    obtain ⟨p1, p2, p3⟩ := new_pair g hn h2 h2'
    exact ⟨p1, p2, _, zipD_get h1 h1', p3⟩
end
/-- of a list, of a tuple -/
def itL (h : Hm) : D → Option Itr
  | .rol ds => some (ds, [])
  | .ref r => match h[r]? with
    | some (.lst ds) => some (ds, [(r, .lst ds)])
    | _ => none
  | _ => none
def itT : D → Option Itr
  | .tup ds => some (ds, [])
  | _ => none
def oR {α : Type} (o : Option α) (h : Hm) : R α := match o with
  | some a => .ok a h
  | none => .bad
def mItL (m : Ev → Hm → R D) : Ev → Hm → R Itr := fun env h => (m env h).bind fun x h1 => oR (itL h1 x) h1
def mItT (m : Ev → Hm → R D) : Ev → Hm → R Itr := fun env h => (m env h).bind fun x h1 => oR (itT x) h1
def sm62 (i : Int) : Bool := decide (-(2 ^ 62) ≤ i ∧ i < 2 ^ 62)
def mRg1 (m : Ev → Hm → R (List D)) : Ev → Hm → R Itr := fun env h => (m env h).bind fun ds h1 => match ds with
  | [.int j] => if sm62 j = true then .ok (rng1 0 j.toNat, []) h1 else .bad
  | _ => .bad
def itRev (h : Hm) : D → Option Itr
  | .rol ds => some (ds.reverse, [])
  | .tup ds => some (ds.reverse, [])
  | .ref r => match h[r]? with
    | some (.lst ds) => some (ds.reverse, [(r, .lst ds)])
    | _ => none
  | _ => none
def mRev (m : Ev → Hm → R D) : Ev → Hm → R Itr := fun env h => (m env h).bind fun x h1 => oR (itRev h1 x) h1
def mEnum (m : Ev → Hm → R (List D)) : Ev → Hm → R Itr := fun env h => (m env h).bind fun ds h1 => match ds with
  | [x] => match itL h1 x with
    | some it => .ok (enumD 0 it.1, it.2) h1
    | none => .bad
  | _ => .bad
def mZip (m : Ev → Hm → R (List D)) : Ev → Hm → R Itr := fun env h => (m env h).bind fun ds h1 => match ds with
  | [x, y] => match itL h1 x, itL h1 y with
    | some a, some b => .ok (zipD a.1 b.1, a.2 ++ b.2) h1
    | _, _ => match itT x, itT y with
      | some a, some b => .ok (zipD a.1 b.1, a.2 ++ b.2) h1
      | _, _ => .bad
  | _ => .bad
section
variable {G : Gx} {π : List Addr} {h : Hm} {H : Hp}
theorem itL_ok (g : Good G π h H) {d : D} {x : V} {it : Itr} (dx : DV G.K π H d x) (e : itL h d = some it) : ∃ a, x = .ref a ∧ (∃ xs, SqL G.K H a xs) ∧ WalkD G π H (Itl G.K a) it ∧ SeqA G π H false a it.1 it.2 ∧ WalkD G π H (Ite G.K a) (enumD 0 it.1, it.2) := by
  cases d with
  | rol ds =>
    cases e
    obtain ⟨a, xs, rfl, t, q⟩ := dx
    exact ⟨a, rfl, ⟨xs, t.sq⟩, walk_rol t q, seqA_rol t q, walk_enK t q⟩
  | ref r =>
    obtain ⟨a, qa, rfl⟩ := dx
    have e' : (match h[r]? with
      | some (.lst ds) => some (ds, [(r, O.lst ds)])
      | _ => none) = some it := e
    split at e'
    · rename_i e0
      cases e'
      obtain ⟨xs, ha, q⟩ := g.lst e0 qa
      exact ⟨a, rfl, ⟨xs, SqL.of ha⟩, walk_lst qa, seqA_lst qa, walk_en qa⟩
    · cases e'
  | _ => cases e
theorem itT_ok {d : D} {x : V} {it : Itr} (dx : DV G.K π H d x) (e : itT d = some it) : ∃ a, x = .ref a ∧ (∃ xs, SqT G.K H a xs) ∧ WalkD G π H (Itt G.K a) it ∧ SeqA G π H true a it.1 it.2 := by
  cases d with
  | tup ds =>
    cases e
    obtain ⟨a, xs, rfl, t, q⟩ := dx
    exact ⟨a, rfl, ⟨xs, t.sq⟩, walk_tp t q, seqA_tup t q⟩
  | _ => cases e
end
theorem sm62_ok {i : Int} (h : sm62 i = true) : -(2 ^ 62) ≤ i ∧ i < 2 ^ 62 := of_decide_eq_true h
section
variable {X : Cx} {T : List (Addr × Str)} {W : WX} {tg e e2 e3 : Expr} {es : List Expr} {me me2 : Ev → Hm → R D} {mr : Ev → Hm → R (List D)} {p p' pos pos' tpos : Pos} {kk : Nat} {elts : List Expr}
theorem im_list (he : Em X T W e me) : Im X T W tg e (mItL me) := PI.of (pi_list he) fun σ H Q ⟨π, env, h, s, p⟩ => by
  refine ⟨π, env, h, s, p.bind.mono fun π1 H1 h1 d s1 g1 p1 x dx => ?_⟩
  cases q : itL h1 d with
  | none => rw [q] at p1; exact p1.elim
  | some it =>
    rw [q] at p1
    obtain ⟨a, e1, e2, w, _⟩ := itL_ok g1 dx q
    exact ⟨a, e1, e2, p1 π1 H1 Step.refl g1 _ w⟩
theorem im_tup (he : Em X T W e me) : Im X T W tg e (mItT me) := PI.of (pi_tup he) fun σ H Q ⟨π, env, h, s, p⟩ => by
  refine ⟨π, env, h, s, p.bind.mono fun π1 H1 h1 d s1 g1 p1 x dx => ?_⟩
  cases q : itT d with
  | none => rw [q] at p1; exact p1.elim
  | some it =>
    rw [q] at p1
    obtain ⟨a, e1, e2, w, _⟩ := itT_ok (G := gx X T) dx q
    exact ⟨a, e1, e2, p1 π1 H1 Step.refl g1 _ w⟩
theorem im_range1 (hg : Gl X "range") (hm : X.mg "range" = none) (ha : Am X T W [e] mr) (hs : starEach [e] X.env = [(false, eval e X.env)] := by rfl) : Im X T W tg (.Call (.Name "range" p) [e] [] pos) (mRg1 mr) := PI.of (pi_range1 hg hm ha hs) fun σ H Q ⟨π, env, h, s, p⟩ => by
  refine ⟨π, env, h, s, p.bind.mono fun π1 H1 h1 ds s1 g1 p1 vs dv => ?_⟩
  split at p1
  · obtain ⟨v, vs, rfl, d1, e⟩ := dv
    obtain rfl := (show vs = [] from e)
    obtain rfl := (show v = _ from d1)
    split at p1
    · rename_i hc
      exact ⟨_, rfl, (sm62_ok hc).1, (sm62_ok hc).2, p1 π1 H1 Step.refl g1 _ walk_rg⟩
    · exact p1.elim
  · exact p1.elim
theorem im_reversed (hg : Gl X "reversed") (hm : X.mg "reversed" = none) (he : Em X T W e me) (hs : starEach [e] X.env = (false, eval e X.env) :: starEach [] X.env := by rfl) : Im X T W tg (.Call (.Name "reversed" p) [e] [] pos) (mRev me) := PI.of (RT.pi_revA hg hm he hs) fun σ H Q ⟨π, env, h, s, p⟩ => by
  refine ⟨π, env, h, s, p.bind.mono fun π1 H1 h1 d s1 g1 p1 x dx => ?_⟩
  cases q : itRev h1 d with
  | none => rw [q] at p1; exact p1.elim
  | some it =>
    rw [q] at p1
    cases d with
    | rol ds =>
      cases q
      obtain ⟨a, xs, rfl, t, q⟩ := dx
      exact ⟨a, xs, rfl, .inl ⟨t.sq, p1 π1 H1 Step.refl g1 _ (walk_rvK t q)⟩⟩
    | tup ds =>
      cases q
      obtain ⟨a, xs, rfl, t, q⟩ := dx
      exact ⟨a, xs, rfl, .inr ⟨t.sq, p1 π1 H1 Step.refl g1 _ (walk_rvT t q)⟩⟩
    | ref r =>
      obtain ⟨a, qa, rfl⟩ := dx
      have e' : (match h1[r]? with
        | some (.lst ds) => some (ds.reverse, [(r, O.lst ds)])
        | _ => none) = some it := q
      split at e'
      · rename_i e0
        cases e'
        obtain ⟨xs, ha, q⟩ := g1.lst e0 qa
        exact ⟨a, xs, rfl, .inl ⟨SqL.of ha, p1 π1 H1 Step.refl g1 _ (walk_rv qa q.len)⟩⟩
      · cases e'
    | _ => cases q
theorem im_zip (hg : Gl X "zip") (hm : X.mg "zip" = none) (ha : Am X T W [e, e2] mr) (hs : starEach [e, e2] X.env = (false, eval e X.env) :: starEach [e2] X.env := by rfl) (hpl : (backTo pos (starEach [e2] X.env)).any (·.1) = false := by rfl) : Im X T W (.Tuple elts kk tpos) (.Call (.Name "zip" p) [e, e2] [] pos) (mZip mr) := PI.of (RZ.pi_zipA hg hm ha hs hpl) fun σ H Q ⟨π, env, h, s, p⟩ => by
  refine ⟨π, env, h, s, p.bind.mono fun π1 H1 h1 ds s1 g1 p1 vs dv => ?_⟩
  split at p1
  · rename_i x y
    obtain ⟨v, vs, rfl, d1, w, ws, rfl, d2, e⟩ := dv
    obtain rfl := (show ws = [] from e)
    split at p1
    · rename_i ia ib ea eb
      obtain ⟨a, e1, ⟨xs, e2⟩, _, w2, _⟩ := itL_ok g1 d1 ea
      obtain ⟨b, e1', ⟨ys, e2'⟩, _, w2', _⟩ := itL_ok g1 d2 eb
      subst e1 e1'
      exact ⟨a, b, xs, ys, rfl, .inl ⟨e2, e2', p1 π1 H1 Step.refl g1 _ (walk_zp w2 w2')⟩⟩
    · split at p1
      · rename_i ia ib ea eb
        obtain ⟨a, e1, ⟨xs, e2⟩, _, w2⟩ := itT_ok (G := gx X T) d1 ea
        obtain ⟨b, e1', ⟨ys, e2'⟩, _, w2'⟩ := itT_ok (G := gx X T) d2 eb
        subst e1 e1'
        exact ⟨a, b, xs, ys, rfl, .inr ⟨e2, e2', p1 π1 H1 Step.refl g1 _ (walk_zpT w2 w2')⟩⟩
      · exact p1.elim
  · exact p1.elim
end
def forL (gs : List (Nat × O)) (g : Gt) (b : Ev → Hm → SR) : List D → Ev → Hm → SR
  | [], env, h => if gdOk gs h = true then .next env h else .bad
  | d :: ds, env, h => if gdOk gs h = true then (match (g d env h).only with
      | .next e1 h1 => (match b e1 h1 with
        | .next e2 h2 => forL gs g b ds e2 h2
        | .cont e2 h2 => forL gs g b ds e2 h2
        | .brk e2 h2 => .next e2 h2
        | r => r)
      | r => r) else .bad
def sFor (m : Ev → Hm → R Itr) (g : Gt) (b : Ev → Hm → SR) : Ev → Hm → SR := fun env h => (m env h).bindS env fun it h1 => forL it.2 g b it.1 env h1
section
variable {X : Cx} {T : List (Addr × Str)} {W : WX} {tg iter : Expr} {body : List Stmt} {m : Ev → Hm → R Itr} {g : Gt} {b : Ev → Hm → SR} {pos : Pos}
theorem sm_for (hp : PassesOwn (model X.prog X.w) X.A X.env X.xe) (hc : X.calm = true) (hi : Im X T W tg iter m) (hg : Gm X T W tg g) (hb : Ssm X T W body b) (hs : ∀ x, foldedSetIterable iter X.env x = pure x := by intro _; rfl) : Sm X T W (.For tg iter body [] pos) (sFor m g b) :=
  PS.of (ps_for hp hc hi hg hb hs) fun D σ H ⟨π, env, h, s, p⟩ => ⟨π, env, h, s, (PostS.bind s p).mono fun π1 H1 h1 it s1 g1 p1 J w => by
    refine ⟨fun i n σ' H' => i + n = it.1.length ∧ ∃ π' env' h', Step π1 H1 π' H' ∧ S (gx X T) π' env' h' σ' H' ∧ PostS (gx X T) W D π' H' (forL it.2 g b (it.1.drop i) env' h'), ⟨it.1.length, by simp, π1, env, h1, Step.refl, s.step s1 g1, by rw [List.drop_zero]; exact p1⟩, ?_⟩
    rintro i n σ2 H2 ⟨hin, π2, e2, h2, s2, x2, p2⟩
    by_cases hi : i < it.1.length
    · rw [List.drop_eq_getElem_cons hi] at p2
      unfold forL at p2
      by_cases hk : gdOk it.2 h2 = true
      · rw [if_pos hk] at p2
        refine .inr ⟨w.go i π2 h2 H2 s2 x2.good hk hi, fun σ' H' => (i + 1) + (n - 1) = it.1.length ∧ ∃ π' env' h', Step π1 H1 π' H' ∧ S (gx X T) π' env' h' σ' H' ∧ PostS (gx X T) W D π' H' (forL it.2 g b (it.1.drop (i + 1)) env' h'), fun σ' H' z => ⟨n - 1, by omega, z⟩, fun x H' y => ?_⟩
        obtain ⟨s3, g3, d, ed, dv⟩ := w.yld i π2 h2 H2 x H' s2 x2.good hk hi y
        rw [List.getElem?_eq_getElem hi] at ed
        cases ed
        have p3 := PostS.step s3 p2
        refine ⟨π2, e2, h2, _, x2.step s3 g3, dv, ?_⟩
        generalize g (it.1[i]) e2 h2 = z at p3 ⊢
        cases z with
        | next e4 h4 =>
          intro π4 σ4 H4 s4 x4
          refine ⟨π4, e4, h4, x4, ?_⟩
          have p4 := PostS.step s4 p3
          unfold SR.only at p4
          simp only at p4
          generalize b e4 h4 = z at p4 ⊢
          cases z with
          | next e5 h5 => exact fun π5 σ5 H5 s5 x5 => ⟨by omega, π5, e5, h5, ((s2.trans s3).trans s4).trans s5, x5, PostS.step s5 p4⟩
          | cont e5 h5 => exact fun π5 σ5 H5 s5 x5 => ⟨by omega, π5, e5, h5, ((s2.trans s3).trans s4).trans s5, x5, PostS.step s5 p4⟩
          | brk e5 h5 => exact p4
          | ret d h => exact p4
          | exn y e h => exact p4
          | bad => exact p4
        | ret d h => exact (show False from p3).elim
        | brk env h => exact (show False from p3).elim
        | cont env h => exact (show False from p3).elim
        | exn y env h => exact p3
        | bad => exact p3
      · rw [if_neg hk] at p2
        exact p2.elim
    · have hi' : i = it.1.length := by omega
      rw [List.drop_of_length_le (by omega)] at p2
      unfold forL at p2
      by_cases hk : gdOk it.2 h2 = true
      · rw [if_pos hk] at p2
        exact .inl ⟨w.stop i π2 h2 H2 s2 x2.good hk hi', p2 π2 σ2 H2 Step.refl x2⟩
      · rw [if_neg hk] at p2
        exact p2.elim⟩
end
end MM
namespace MM
open PySem L2
/-- what data need of a step -/
structure StepV (π : List Addr) (H : Hp) (π' : List Addr) (H' : Hp) : Prop where
  ext : ∃ more, π' = π ++ more
  tup : ∀ a xs, H a = some (.tup xs) → a ∉ π → H' a = some (.tup xs) ∧ a ∉ π'
  frz : ∀ a o xs, H a = some (.frz o (.lst xs)) → a ∉ π → H' a = some (.frz o (.lst xs)) ∧ a ∉ π'
section
variable {K : PySem.W.Frag} {π π' : List Addr} {H H' : Hp}
theorem StepV.get (s : StepV π H π' H') {i : Nat} {a : Addr} (h : π[i]? = some a) : π'[i]? = some a := by
  obtain ⟨m, e⟩ := s.ext
  rw [e, List.getElem?_append_left (List.getElem?_eq_some_iff.mp h).1]
  exact h
theorem TupAt.stepV (s : StepV π H π' H') {a : Addr} {xs : List V} (h : TupAt K π H a xs) : TupAt K π' H' a xs := by
  rcases h with ⟨h, n⟩ | h
  · exact .inl (s.tup a xs h n)
  · exact .inr h
theorem LstAt.stepV (s : StepV π H π' H') {a : Addr} {xs : List V} (h : LstAt K π H a xs) : LstAt K π' H' a xs := by
  rcases h with ⟨o, h, n⟩ | h
  · exact .inl ⟨o, s.frz a o xs h n⟩
  · exact .inr h
mutual
theorem DV.stepV (s : StepV π H π' H') : ∀ (d : D) (v : V), DV K π H d v → DV K π' H' d v
  | .non, _, h => h
  | .bl _, _, h => h
  | .int _, _, h => h
  | .str _, _, h => h
  | .ref _, _, ⟨a, h, e⟩ => ⟨a, s.get h, e⟩
  | .tup ds, _, ⟨a, xs, e, h, q⟩ => ⟨a, xs, e, h.stepV s, DVs.stepV s ds xs q⟩
  | .rol ds, _, ⟨a, xs, e, h, q⟩ => ⟨a, xs, e, h.stepV s, DVs.stepV s ds xs q⟩
theorem DVs.stepV (s : StepV π H π' H') : ∀ (ds : List D) (xs : List V), DVs K π H ds xs → DVs K π' H' ds xs
  | [], _, h => h
  | d :: ds, _, ⟨v, vs, e, h, q⟩ => ⟨v, vs, e, DV.stepV s d v h, DVs.stepV s ds vs q⟩
end
theorem DPs.stepV {κ : Type} (s : StepV π H π' H') : ∀ (ps : List (κ × D)) (xs : List (κ × V)), DPs K π H ps xs → DPs K π' H' ps xs
  | [], _, h => h
  | p :: ps, _, ⟨v, vs, e, h, q⟩ => ⟨v, vs, e, h.stepV s _ _, DPs.stepV s ps vs q⟩
theorem OV.stepV {G : Gx} {a : Addr} {o : O} (s : StepV π H π' H') (e : H' a = H a) (h : OV G π H a o) : OV G π' H' a o := by
  cases o with
  | lst ds => obtain ⟨xs, h, q⟩ := h; exact ⟨xs, e.trans h, q.stepV s _ _⟩
  | dic ds => obtain ⟨xs, h, q⟩ := h; exact ⟨xs, e.trans h, q.stepV s _ _⟩
  | dicL ds => obtain ⟨o, xs, h, q⟩ := h; exact ⟨o, xs, e.trans h, q.stepV s _ _⟩
  | ins c fs => obtain ⟨C, dx, xs, g, h, q⟩ := h; exact ⟨C, dx, xs, g, e.trans h, q.stepV s _ _⟩
/-- a list that is none of ours (yet) is written -/
theorem StepV.hid {P : Addr} {xs ys : List V} (e : H P = some (.lst xs)) : StepV π H π (upd H P (.lst ys)) :=
  ⟨⟨[], by simp⟩, fun a zs h n => ⟨by rw [upd_ne (show a ≠ P from fun z => by rw [z, e] at h; cases h)]; exact h, n⟩, fun a o zs h n => ⟨by rw [upd_ne (show a ≠ P from fun z => by rw [z, e] at h; cases h)]; exact h, n⟩⟩
theorem Step.hide {P : Addr} {o : HO} (s : Step π H π' H') (n : H P = none) : Step π H π' (upd H' P o) :=
  ⟨s.ext, s.out, fun a u e m t => by rw [upd_ne (show a ≠ P from fun z => by rw [z, n] at e; cases e)]; exact s.keep a u e m t, fun a o u e => by rw [upd_ne (show a ≠ P from fun z => by rw [z, n] at e; cases e)]; exact s.frz a o u e⟩
theorem Good.hid {G : Gx} {h : Hm} {P : Addr} {xs ys : List V} (g : Good G π h H) (e : H P = some (.lst xs)) (n : P ∉ π) : Good G π h (upd H P (.lst ys)) := by
  refine ⟨g.len, g.nd, fun i a o h1 h2 => (g.ob i a o h1 h2).stepV (StepV.hid e) (upd_ne (show a ≠ P from fun z => n (by rw [← z]; exact List.mem_of_getElem? h1))), g.tabs_upd (.inr ⟨_, e, fun ⟨ps, z⟩ => (by cases z), fun c q z => (by unfold LamX.CodeO at z; cases z)⟩), g.tout⟩
theorem StepV.adopt {P : Addr} {xs : List V} (e : H P = some (.lst xs)) : StepV π H (π ++ [P]) H := by
  refine ⟨⟨[P], rfl⟩, fun a zs h n => ⟨h, fun m => ?_⟩, fun a o zs h n => ⟨h, fun m => ?_⟩⟩
  · rcases List.mem_append.mp m with m | m
    · exact n m
    · rw [List.mem_singleton] at m
      rw [m, e] at h
      cases h
  · rcases List.mem_append.mp m with m | m
    · exact n m
    · rw [List.mem_singleton] at m
      rw [m, e] at h
      cases h
theorem Step.adopt {P : Addr} (s : Step π H π' H') (n : H P = none) : Step π H (π' ++ [P]) H' := by
  obtain ⟨m, e⟩ := s.ext
  refine ⟨⟨m ++ [P], by rw [e, List.append_assoc]⟩, fun a o h k t z => ?_, s.keep, s.frz⟩
  rcases List.mem_append.mp z with z | z
  · exact s.out a o h k t z
  · rw [List.mem_singleton] at z
    rw [z, n] at h
    cases h
theorem Good.adopt {G : Gx} {h : Hm} {P : Addr} {ds : List D} {xs : List V} (g : Good G π h H) (e : H P = some (.lst xs)) (n : P ∉ π) (q : DVs G.K π H ds xs) : Good G (π ++ [P]) (h ++ [.lst ds]) H := by
  have s : StepV π H (π ++ [P]) H := StepV.adopt e
  refine ⟨by rw [List.length_append, List.length_append, g.len] <;> rfl, ?_, fun i b v e1 e2 => ?_, g.tabs, fun p hp m => ?_⟩
  · rw [List.nodup_append]
    refine ⟨g.nd, by simp, fun x hx y hy z => ?_⟩
    rw [List.mem_singleton] at hy
    rw [z, hy] at hx
    exact n hx
  · by_cases hi : i < π.length
    · rw [List.getElem?_append_left hi] at e1
      rw [List.getElem?_append_left (by rw [← g.len]; exact hi)] at e2
      exact (g.ob i b v e1 e2).stepV s rfl
    · have h1 := (List.getElem?_eq_some_iff.mp e1).1
      have hi' : i = π.length := by
        rw [List.length_append, List.length_singleton] at h1
        omega
      subst hi'
      rw [List.getElem?_append_right (Nat.le_refl _), Nat.sub_self] at e1
      rw [List.getElem?_append_right (by rw [g.len]; exact Nat.le_refl _), g.len, Nat.sub_self] at e2
      have e1' : P = b := Option.some.inj e1
      have e2' : O.lst ds = v := Option.some.inj e2
      subst e1' e2'
      exact ⟨xs, e, q.stepV s _ _⟩
  · rcases List.mem_append.mp m with m | m
    · exact g.tout p hp m
    · rw [List.mem_singleton] at m
      obtain ⟨ps, z⟩ := tab_at (g.tabs p hp)
      rw [m, e] at z
      cases z
theorem EnvOk.stepV {G : Gx} {env : Ev} {σ : L2.St} (s : StepV π H π' H') (e : EnvOk G π H env σ) : EnvOk G π' H' env σ := ⟨e.len, fun i d q => by
  obtain ⟨v, h1, h2⟩ := e.get i d q
  exact ⟨v, h1, h2.stepV s _ _⟩⟩
end
def wipeE (env : Ev) : List Nat → Ev
  | [] => env
  | v :: vs => (wipeE env vs).set v none
theorem EnvOk.wipe {G : Gx} {π : List Addr} {H : Hp} {env : Ev} {σ : L2.St} (e : EnvOk G π H env σ) : ∀ vs : List Nat, EnvOk G π H (wipeE env vs) (wipe σ vs)
  | [] => e
  | v :: vs => (EnvOk.wipe e vs).gone v
theorem wipe_get {σ : L2.St} {i : Nat} : ∀ {vs : List Nat}, i ∈ vs → i < σ.length → (wipe σ vs)[i]? = some none
  | v :: vs, m, l => by
    unfold wipe
    by_cases h : i = v
    · subst h
      rw [List.getElem?_set_self (by rw [wipe_length]; exact l)]
    · rw [List.getElem?_set_ne (Ne.symm h)]
      exact wipe_get ((List.mem_cons.mp m).resolve_left h) l
theorem wipe_set {σ : L2.St} {i : Nat} {x : Option V} {vs : List Nat} (m : i ∈ vs) : wipe (σ.set i x) vs = wipe σ vs := by
  apply List.ext_getElem?
  intro j
  by_cases hj : j ∈ vs
  · by_cases hl : j < σ.length
    · rw [wipe_get hj hl, wipe_get hj (by rw [List.length_set]; exact hl)]
    · rw [List.getElem?_eq_none (by rw [wipe_length, List.length_set]; omega), List.getElem?_eq_none (by rw [wipe_length]; omega)]
  · rw [wipe_out hj, wipe_out hj, List.getElem?_set_ne (show i ≠ j from fun z => hj (by rw [← z]; exact m))]
theorem wipe_wipe {σ : L2.St} : ∀ {vs ws : List Nat}, (∀ v ∈ vs, v ∈ ws) → wipe (wipe σ vs) ws = wipe σ ws
  | [], _, _ => rfl
  | v :: vs, ws, h => by
    show wipe ((wipe σ vs).set v none) ws = _
    rw [wipe_set (h v List.mem_cons_self), wipe_wipe fun u hu => h u (List.mem_cons_of_mem _ hu)]
/-- as tG, the slots known outside vs -/
def tGw (G : Gx) (W : WX) (vs : List Nat) (g : Gt) : TG := fun v σ H Q => ∃ π env h d, S G π env h σ H ∧ DV G.K π H d v ∧ PostS G W (nxO fun σ' H' => wipe σ' vs = wipe σ vs → Q σ' H') π H (g d env h)
def tGsw (G : Gx) (W : WX) (vs : List Nat) (g : Gts) : TGs := fun us σ H Q => ∃ π env h ds, S G π env h σ H ∧ DVs G.K π H ds us ∧ PostS G W (nxO fun σ' H' => wipe σ' vs = wipe σ vs → Q σ' H') π H (g ds env h)
abbrev Gw (X : Cx) (T : List (Addr × Str)) (W : WX) (vs : List Nat) (e : Expr) (g : Gt) : Prop := PG X e (tGw (gx X T) W vs g)
abbrev Gsw (X : Cx) (T : List (Addr × Str)) (W : WX) (vs : List Nat) (e : List Expr) (g : Gts) : Prop := PGs X e (tGsw (gx X T) W vs g)
section
variable {X : Cx} {T : List (Addr × Str)} {W : WX} {vs : List Nat} {e : Expr} {es : List Expr} {g : Gt} {r : Gts} {pos : Pos}
theorem gw_name (i : Nat) {x : Str} (hN : X.N.Nodup) (hi : X.N[i]? = some x := by rfl) (hx : Loc X.env.scope x := by first | exact .inl rfl | exact .inr rfl) (hf : X.fn x = true ∨ X.env.scope.names.lookup x = some .local := by first | exact .inl rfl | exact .inr rfl | assumption) (hm : i ∈ vs := by decide) : Gw X T W vs (.Name x pos) (gN i) :=
  PG.of (pg_name hN hi hx hf) fun v σ H Q ⟨π, env, h, d, s, dv, p⟩ => p π _ H Step.refl ⟨s.good, s.env.set dv i⟩ (wipe_set hm)
theorem gsw_nil : Gsw X T W vs [] gsNil := PGs.of pgs_nil fun v σ H Q ⟨π, env, h, ds, s, dv, p⟩ => by
  cases ds with
  | nil => exact ⟨dv, p π σ H Step.refl s rfl⟩
  | cons d ds => exact p.elim
theorem gsw_cons (h1 : Gw X T W vs e g) (h2 : Gsw X T W vs es r) (hs : (assignEach (e :: es) X.env).map (·.2) = assign e X.env :: (assignEach es X.env).map (·.2) := by rfl) : Gsw X T W vs (e :: es) (gsCons g r) := PGs.of (pgs_cons h1 h2 hs) fun v σ H Q ⟨π, env, h, ds, s, dv, p⟩ => by
  cases ds with
  | nil => exact p.elim
  | cons d ds =>
    obtain ⟨v, us, rfl, d1, d2⟩ := dv
    refine ⟨v, us, rfl, π, env, h, d, s, d1, ?_⟩
    have p' : PostS (gx X T) W (nxO fun σ' H' => wipe σ' vs = wipe σ vs → Q σ' H') π H ((g d env h).then (r ds)) := p
    generalize g d env h = z at p' ⊢
    cases z with
    | next env' h' => exact fun π2 σ2 H2 s2 x e => ⟨π2, env', h', ds, x, d2.step s2 _ _, (PostS.step s2 p').mono (fun σ3 H3 z e2 => z (e2.trans e)) (fun _ _ z => z) (fun _ _ z => z) (fun _ _ z => z)⟩
    | ret d h => exact p'
    | brk env h => exact p'
    | cont env h => exact p'
    | exn y env h => exact p'
    | bad => exact p'
theorem gw_tup {k n : Nat} (hc : X.calm = true) (hr : Gsw X T W vs es r) (hn : (assignEach es X.env).length = n := by rfl) (hst : (assignEach es X.env).findIdx? (·.1) = none := by rfl) : Gw X T W vs (.Tuple es k pos) (gT n r) :=
  PG.of (pg_tup hc hr hn hst) fun v σ H Q ⟨π, env, h, d, s, dv, p⟩ => by
    unfold gT at p
    split at p
    · obtain ⟨a, xs, rfl, t, q⟩ := dv
      split at p
      · rename_i hl
        exact ⟨a, xs, rfl, t.sq, by rw [q.len]; exact hl, π, env, h, _, s, q, p⟩
      · exact p.elim
    · exact p.elim
theorem gw_lst {k n : Nat} (hc : X.calm = true) (hr : Gsw X T W vs es r) (hn : (assignEach es X.env).length = n := by rfl) (hst : (assignEach es X.env).findIdx? (·.1) = none := by rfl) : Gw X T W vs (.Tuple es k pos) (gL n r) :=
  PG.of (pg_lst hc hr hn hst) fun v σ H Q ⟨π, env, h, d, s, dv, p⟩ => by
    unfold gL at p
    split at p
    · obtain ⟨a, qa, rfl⟩ := dv
      split at p
      · rename_i e0
        obtain ⟨xs, ha, q⟩ := s.good.lst e0 qa
        split at p
        · rename_i hl
          exact ⟨a, xs, rfl, SqL.of ha, by rw [q.len]; exact hl, π, env, h, _, s, q, p⟩
        · exact p.elim
      · exact p.elim
    · exact p.elim
end
def lcL (gs : List (Nat × O)) (g : Gt) (t : Ev → Hm → R Bool) (e : Ev → Hm → R D) (env : Ev) : List D → Hm → R (List D)
  | [], h => if gdOk gs h = true then .ok [] h else .bad
  | d :: ds, h => if gdOk gs h = true then (match g d env h with
      | .next e1 h1 => (match t e1 h1 with
        | .ok true h2 => (match e e1 h2 with
          | .ok y h3 => (match lcL gs g t e env ds h3 with
            | .ok ys h4 => .ok (y :: ys) h4
            | _ => .bad)
          | _ => .bad)
        | .ok false h2 => lcL gs g t e env ds h2
        | _ => .bad)
      | _ => .bad) else .bad
def mLc (vs : List Nat) (m : Ev → Hm → R Itr) (g : Gt) (t : Ev → Hm → R Bool) (e : Ev → Hm → R D) : Ev → Hm → R D := fun env h => (m env h).bind fun it h1 => if it.1.length ≤ 16777216 then (match lcL it.2 g t e (wipeE env vs) it.1 h1 with
  | .ok ys h2 => .ok (.ref h2.length) (h2 ++ [.lst ys])
  | _ => .bad) else .bad
def tYesM : Ev → Hm → R Bool := fun _ h => .ok true h
def WF : WX := fun _ _ _ _ => False
abbrev Tsm (X : Cx) (T : List (Addr × Str)) (W : WX) (e : List Expr) (m : Ev → Hm → R Bool) : Prop := PTs X e (tB' (gx X T) W m)
theorem tsm_nil {X : Cx} {T : List (Addr × Str)} {W : WX} : Tsm X T W [] tYesM := ⟨fun pins s σ H Q I ⟨π, env, h, x, p⟩ => pts_nil.run pins s σ H Q I (p π H Step.refl x.good)⟩
theorem lc_of {G : Gx} {W : WX} {vs : List Nat} {m : Ev → Hm → R Itr} {g : Gt} {t : Ev → Hm → R Bool} {e : Ev → Hm → R D} {σ : L2.St} {H : Hp} {Q : VK} (p : tE G W (mLc vs m g t e) σ H Q) : tLc (tI G W m) (tGw G WF vs g) (tB' G WF t) (tE G WF e) vs σ H Q := by
  obtain ⟨π, env, h, s, p⟩ := p
  refine ⟨π, env, h, s, p.bind.mono fun π1 H1 h1 it s1 g1 p1 J w P hP => ?_⟩
  by_cases hlen : it.1.length ≤ 16777216
  · rw [if_pos hlen] at p1
    cases hr : lcL it.2 g t e (wipeE env vs) it.1 h1 with
    | exn x h' => rw [hr] at p1; exact p1.elim
    | bad => rw [hr] at p1; exact p1.elim
    | ok ys hF =>
      rw [hr] at p1
      have p1' : Post G W π1 σ H1 (R.ok (D.ref hF.length) (hF ++ [O.lst ys])) (fun π' H' _ d => ∀ v, DV G.K π' H' d v → Q v H') := p1
      have eW : EnvOk G π1 H1 (wipeE env vs) (wipe σ vs) := (s.env.step s1).wipe vs
      refine ⟨fun i n H' => i + n = it.1.length ∧ ∃ π' h' acc rest xs, Step π1 H1 π' H' ∧ Good G π' h' H' ∧ EnvOk G π' H' (wipeE env vs) (wipe σ vs) ∧ H' P = some (.lst xs) ∧ P ∉ π' ∧ DVs G.K π' H' acc xs ∧ acc.length ≤ i ∧ acc ++ rest = ys ∧ lcL it.2 g t e (wipeE env vs) (it.1.drop i) h' = .ok rest hF,
        ⟨it.1.length, by simp, π1, h1, [], ys, [], Step.other g1 hP, g1.other hP, eW.step (Step.other g1 hP), upd_same, g1.free hP, rfl, Nat.le_refl _, rfl, by rw [List.drop_zero]; exact hr⟩, ?_⟩
      rintro i n H2 ⟨hin, π2, h2, acc, rest, xs, st2, g2, e2, hx2, n2, da, la, eq, run⟩
      by_cases hi : i < it.1.length
      · rw [List.drop_eq_getElem_cons hi] at run
        unfold lcL at run
        by_cases hk : gdOk it.2 h2 = true
        · rw [if_pos hk] at run
          refine .inr ⟨w.go i π2 h2 H2 st2 g2 hk hi, fun H' => (i + 1) + (n - 1) = it.1.length ∧ ∃ π' h' acc rest xs, Step π1 H1 π' H' ∧ Good G π' h' H' ∧ EnvOk G π' H' (wipeE env vs) (wipe σ vs) ∧ H' P = some (.lst xs) ∧ P ∉ π' ∧ DVs G.K π' H' acc xs ∧ acc.length ≤ i + 1 ∧ acc ++ rest = ys ∧ lcL it.2 g t e (wipeE env vs) (it.1.drop (i + 1)) h' = .ok rest hF, fun H' z => ⟨n - 1, by omega, z⟩, fun x H' y => ?_⟩
          obtain ⟨s3, g3, d, ed, dv⟩ := w.yld i π2 h2 H2 x H' st2 g2 hk hi y
          rw [List.getElem?_eq_getElem hi] at ed
          cases ed
          have np : ∀ ps, HO.lst xs ≠ .tbl ps := fun ps z => by cases z
          refine ⟨π2, wipeE env vs, h2, _, ⟨g3, e2.step s3⟩, dv, ?_⟩
          generalize g (it.1[i]) (wipeE env vs) h2 = z at run ⊢
          cases z with
          | next e4 h4 =>
            intro π4 σ4 H4 s4 x4 hw4
            have hw4' : wipe σ4 vs = wipe σ vs := hw4.trans (wipe_wipe fun v hv => hv)
            refine ⟨hw4', π4, e4, h4, x4, ?_⟩
            simp only at run
            cases ht : t e4 h4 with
            | exn x h' => rw [ht] at run; cases run
            | bad => rw [ht] at run; cases run
            | ok k h5 =>
              rw [ht] at run
              intro π5 H5 s5 g5
              have s35 := (s3.trans s4).trans s5
              have hx5 : H5 P = some (.lst xs) := s35.keep P _ hx2 n2 np
              have n5 : P ∉ π5 := s35.out P _ hx2 n2 np
              cases k with
              | false =>
                refine iteF ⟨by omega, π5, h5, acc, rest, xs, st2.trans s35, g5, (e2.step s35), hx5, n5, da.step s35 _ _, by omega, eq, run⟩
              | true =>
                refine iteT ⟨π5, e4, h5, x4.step s5 g5, ?_⟩
                simp only at run
                cases he : e e4 h5 with
                | exn x h' => rw [he] at run; cases run
                | bad => rw [he] at run; cases run
                | ok y h6 =>
                  rw [he] at run
                  simp only at run
                  cases hr2 : lcL it.2 g t e (wipeE env vs) (it.1.drop (i + 1)) h6 with
                  | exn x h' => rw [hr2] at run; cases run
                  | bad => rw [hr2] at run; cases run
                  | ok ys2 h7 =>
                    rw [hr2] at run
                    simp only [R.ok.injEq] at run
                    obtain ⟨r1, r2⟩ := run
                    subst r1 r2
                    intro π6 H6 s6 g6 v dy
                    have s36 := s35.trans s6
                    have hx6 : H6 P = some (.lst xs) := s36.keep P _ hx2 n2 np
                    have n6 : P ∉ π6 := s36.out P _ hx2 n2 np
                    have sv : StepV π6 H6 π6 (upd H6 P (.lst (xs ++ [v]))) := StepV.hid hx6
                    have da6 := da.step s36 _ _
                    refine ⟨xs, hx6, szl' (by rw [da6.len]; omega), by omega, π6, h6, acc ++ [y], ys2, xs ++ [v], (st2.trans s36).hide hP, g6.hid hx6 n6, (e2.step s36).stepV sv, upd_same, n6, (da6.snoc dy).stepV sv _ _, by rw [List.length_append, List.length_singleton]; omega, by rw [List.append_assoc]; exact eq, hr2⟩
          | ret d h => cases run
          | brk env h => cases run
          | cont env h => cases run
          | exn y env h => cases run
          | bad => cases run
        · rw [if_neg hk] at run
          cases run
      · have hi' : i = it.1.length := by omega
        rw [List.drop_of_length_le (by omega)] at run
        unfold lcL at run
        by_cases hk : gdOk it.2 h2 = true
        · rw [if_pos hk] at run
          simp only [R.ok.injEq] at run
          obtain ⟨r1, r2⟩ := run
          subst r1 r2
          rw [List.append_nil] at eq
          subst eq
          refine .inl ⟨w.stop i π2 h2 H2 st2 g2 hk hi', p1' (π2 ++ [P]) H2 (st2.adopt hP) (g2.adopt hx2 n2 da) _ ⟨P, ?_, rfl⟩⟩
          rw [List.getElem?_append_right (by rw [g2.len]; exact Nat.le_refl _), g2.len, Nat.sub_self] <;> rfl
        · rw [if_neg hk] at run
          cases run
  · rw [if_neg hlen] at p1
    exact p1.elim
section
variable {X : Cx} {T : List (Addr × Str)} {W : WX} {elt tg iter : Expr} {ifs : List Expr} {scope : Scope} {pos : Pos} {m : Ev → Hm → R Itr} {g : Gt} {t : Ev → Hm → R Bool} {e : Ev → Hm → R D}
theorem em_lc (own : List (Str × Nat)) (hc : X.calm = true) (hN : X.N.Nodup) (hi : Im X T W tg iter m) (ok : BlkOk X.N X.env.scope scope own)
    (hg : ∀ (s : Shared) (H : Hp) (C : Addr) (cl : List (Str × Addr)) (fp : List Addr), Gw (X.blk s H scope (compEnvC scope cl C X.env) fp) T WF (own.map (·.2)) tg g)
    (ht : ∀ (s : Shared) (H : Hp) (C : Addr) (cl : List (Str × Addr)) (fp : List Addr), Tsm (X.blk s H scope (compEnvC scope cl C X.env) fp) T WF ifs t)
    (he : ∀ (s : Shared) (H : Hp) (C : Addr) (cl : List (Str × Addr)) (fp : List Addr), Em (X.blk s H scope (compEnvC scope cl C X.env) fp) T WF elt e) (hs : ∀ x, foldedSetIterable iter X.env x = pure x := by intro _; rfl) :
    Em X T W (.ListComp elt [⟨tg, iter, ifs, 0⟩] scope pos) (mLc (own.map (·.2)) m g t e) :=
  PE.of (pe_lc hc hN hi ok hg ht he hs) fun σ H Q p => lc_of p
end
end MM
namespace MM
open PySem L2
def startE (n : Nat) (ds : List D) : Ev := ds.map some ++ List.replicate (n - ds.length) none
def callM (n p : Nat) (m : Ev → Hm → SR) : Fc := fun ds h => if ds.length = p then (match m (startE n ds) h with
  | .next _ h' => .ok .non h'
  | .ret d h' => .ok d h'
  | .exn x _ h' => .exn x h'
  | _ => .bad) else .bad
/-- a def's promise: what the run of fn says -/
def spM (G : Gx) (fn : Fc) (n : Nat) : Sp := fun vs H Q E => ∃ π h ds, Good G π h H ∧ DVs G.K π H ds vs ∧ ds.length = n ∧ Post G (fun cls d _ H' => E cls d H') π [] H (fn ds h) fun π' H' _ d => ∀ v, DV G.K π' H' d v → Q v H'
structure FunM (P : Program) (w : World) (K : PySem.W.Frag) (mg : Str → Option Value) (base : Heap) (T : List (Addr × Str)) (k : Nat) (f : Addr) (p : Nat) (fn : Fc) : Prop where
  ex : ∃ fd ps, ps.length = p ∧ FnOk P w K mg base (L2.CX P w) k f fd ps (spM ⟨K, mg, T⟩ fn p) ∧ Binds K fd ps []
  kp : PySem.W.keepIn K (.ref f) = true
section
variable {P : Program} {w : World} {K : PySem.W.Frag} {mg : Str → Option Value} {base : Heap} {T : List (Addr × Str)}
theorem FunM.mono {j k : Nat} {f : Addr} {p : Nat} {fn : Fc} (F : FunM P w K mg base T j f p fn) (h : j ≤ k) : FunM P w K mg base T k f p fn := by
  obtain ⟨⟨fd, ps, e, F1, F2⟩, kp⟩ := F
  exact ⟨⟨fd, ps, e, F1.mono h, F2⟩, kp⟩
theorem envOk_start {G : Gx} {π : List Addr} {H : Hp} {N : List Str} {ds : List D} {vs : List V} (q : DVs G.K π H ds vs) : EnvOk G π H (startE N.length ds) (L2.start N vs) := by
  unfold startE L2.start
  refine ⟨by rw [List.length_append, List.length_append, List.length_map, List.length_map, List.length_replicate, List.length_replicate, q.len], fun i d e => ?_⟩
  by_cases hi : i < ds.length
  · rw [List.getElem?_append_left (by rw [List.length_map]; exact hi), List.getElem?_map, List.getElem?_eq_getElem hi] at e
    have e' : ds[i] = d := Option.some.inj (Option.some.inj e)
    subst e'
    obtain ⟨v, h1, h2⟩ := q.get (List.getElem?_eq_getElem hi)
    exact ⟨v, by rw [List.getElem?_append_left (by rw [List.length_map, q.len]; exact hi), List.getElem?_map, h1] <;> rfl, h2⟩
  · rw [List.getElem?_append_right (by rw [List.length_map]; omega)] at e
    have := List.mem_of_getElem? e
    rw [List.mem_replicate] at this
    cases this.2
theorem postS_fn {G : Gx} {π : List Addr} {H : Hp} {E : XK} {Q : VK} {n p : Nat} {m : Ev → Hm → SR} {ds : List D} {h : Hm} (q : Post G (fun cls d _ H' => E cls d H') π [] H (callM n p m ds h) fun π' H' _ d => ∀ v, DV G.K π' H' d v → Q v H') :
    PostS G (fun cls d _ H' => E cls d H') { nx := fun _ H' => Q .non H', rt := Q } π H (m (startE n ds) h) := by
  unfold callM at q
  by_cases hl : ds.length = p
  · rw [if_pos hl] at q
    generalize m (startE n ds) h = z at q ⊢
    cases z with
    | next env h => exact fun π2 σ2 H2 s2 x => q π2 H2 s2 x.good _ rfl
    | ret d h => exact fun π2 H2 v s2 x e => q π2 H2 s2 x _ e
    | brk env h => exact (show False from q).elim
    | cont env h => exact (show False from q).elim
    | exn y env h => exact fun π2 σ2 H2 cls d s2 x e => q π2 H2 cls d s2 x.good e
    | bad => exact q
  · rw [if_neg hl] at q
    exact q.elim
/-- THE RULE for a def -/
theorem def_m {x qual : Str} {params : Arguments} {body : List Stmt} {scope : Scope} {f : Addr} {fd : FuncData} {N ps : List Str} {k : Nat} {m : Ev → Hm → SR} (F : FunD K x qual params body scope [] [] f fd) (S : FnScope N ps scope)
    (hb : ∀ (kV doc pm : Value) (an : Option Addr) (cdv ct : Value) (us : List Value), us.length = ps.length → bindArgs (PySem.W.fnOf x qual params body scope .none kV doc pm an cdv ct) ⟨us, []⟩ = pure (ps.zip us))
    (hbody : ∀ (cdv : Value) (A : Around) (outer : List Env) (s : Shared) (H : Hp) (E : XK), Room k (cxOf (L2.CX P w) P w K mg base N qual scope f cdv A outer s H E).A → Takes (cxOf (L2.CX P w) P w K mg base N qual scope f cdv A outer s H E) (fun cls d _ H' => E cls d H') →
      PassesOwn (model P w) (cxOf (L2.CX P w) P w K mg base N qual scope f cdv A outer s H E).A (cxOf (L2.CX P w) P w K mg base N qual scope f cdv A outer s H E).env (cxOf (L2.CX P w) P w K mg base N qual scope f cdv A outer s H E).xe →
      Ssm (cxOf (L2.CX P w) P w K mg base N qual scope f cdv A outer s H E) T (fun cls d _ H' => E cls d H') body m) :
    FunM P w K mg base T (k + 1) f ps.length (callM N.length ps.length m) := by
  refine ⟨⟨fd, ps, rfl, ?_, F.bindsN hb⟩, F.kp⟩
  refine F.ok S (fun vs H Q E ⟨π, h, ds, g, q, hl, _⟩ => by rw [q.len]; exact hl) fun cdv A outer s H vs Q E hr ⟨π, h, ds, g, q, hl, p⟩ => ⟨_, hbody cdv A outer s H E hr (takes_of rfl rfl rfl rfl) (passes_of rfl), ?_⟩
  exact ⟨π, startE N.length ds, h, ⟨g, envOk_start q⟩, postS_fn p⟩
end
theorem takesF {X : Cx} : Takes X WF := takes0
section
variable {X : Cx} {T : List (Addr × Str)} {W : WX} {k j p : Nat} {f C : Addr} {fn : Fc} {x : Str} {pp pos apos : Pos} {e o : Expr} {es : List Expr} {mr : Ev → Hm → R (List D)} {mo : Ev → Hm → R D} {cn m : Str}
/-- a promise met -/
theorem sp_of {G : Gx} {π : List Addr} {σ : L2.St} {h : Hm} {H : Hp} {ds : List D} {vs : List V} {Q : VK} {n : Nat} (g : Good G π h H) (q : DVs G.K π H ds vs) (hl : ds.length = n) (p : Post G W π σ H (fn ds h) fun π' H' _ d => ∀ v, DV G.K π' H' d v → Q v H') : spM G fn n vs H Q (WE W σ) := by
  refine ⟨π, h, ds, g, q, hl, ?_⟩
  generalize fn ds h = z at p ⊢
  cases z with
  | ok a h' => exact p
  | exn x h' => exact p
  | bad => exact p
def mCallF (p : Nat) (fn : Fc) (mr : Ev → Hm → R (List D)) : Ev → Hm → R D := fun env h => (mr env h).bind fun ds h1 => if ds.length = p then fn ds h1 else .bad
theorem em_call (F : FunM X.prog X.w X.K X.mg X.base T j f p fn) (hr : Room k X.A) (hk : j ≤ k) (hg : Gl X x) (hm : X.mg x = some (.ref f)) (tk : Takes X W) (ha : Am X T W (e :: es) mr) (hdb : (x == ("__debug__" : Str)) = false := by rfl)
    (he : starEach (e :: es) X.env = (false, eval e X.env) :: starEach es X.env := by rfl) (hpl : (backTo pos (starEach es X.env)).any (·.1) = false := by rfl) : Em X T W (.Call (.Name x pp) (e :: es) [] pos) (mCallF p fn mr) := by
  obtain ⟨fd, ps, ep, F1, F2⟩ := F.ex
  refine PE.of (pe_callSD (dvs := []) (ds := []) (E := WE W) F1 (hr.mono hk) hg hm F.kp F2 .nil (fun σ => passAt tk σ) ha hdb he hpl) fun σ H Q ⟨π, env, h, s, q⟩ => ?_
  refine ⟨π, env, h, s, q.bind.mono fun π1 H1 h1 ds s1 g1 p1 vs dv => ?_⟩
  show spM _ fn p (vs ++ []) H1 Q (WE W σ)
  rw [List.append_nil]
  by_cases hl : ds.length = p
  · rw [if_pos hl] at p1
    exact sp_of g1 dv hl p1
  · rw [if_neg hl] at p1
    exact p1.elim
/-- o.m(..), o an instance of the class named cn -/
def mMethF (cn m : Str) (p : Nat) (fn : Fc) (mo : Ev → Hm → R D) (mr : Ev → Hm → R (List D)) : Ev → Hm → R D := fun env h => (mo env h).bind fun x h1 => match x with
  | .ref i => match h1[i]? with
    | some (.ins c fs) => if c = cn ∧ fs.lookup m = none then (mr env h1).bind fun ds h2 => if ds.length + 1 = p then fn (.ref i :: ds) h2 else .bad else .bad
    | _ => .bad
  | _ => .bad
theorem DPs.lookupN {K : PySem.W.Frag} {π : List Addr} {H : Hp} {f : Str} : ∀ {fs : List (Str × D)} {xs : List (Str × V)}, DPs K π H fs xs → fs.lookup f = none → xs.lookup f = none
  | [], _, h, _ => by rw [show _ = [] from h] <;> rfl
  | p :: ps, _, ⟨v, vs, e, h, q⟩, l => by
    obtain ⟨k, y⟩ := p
    rw [e]
    by_cases hk : f = k
    · have hb : (f == k) = true := beq_iff_eq.mpr hk
      simp only [List.lookup, hb] at l
      cases l
    · have hb : (f == k) = false := beq_eq_false_iff_ne.mpr hk
      simp only [List.lookup, hb] at l ⊢
      exact DPs.lookupN q l
theorem em_meth {pl : Sem Bool} (c : Cls X.K C) (hm : Meth X.K C m f) (F : FunM X.prog X.w X.K X.mg X.base T j f p fn) (hr : Room k X.A) (hk : j ≤ k) (hC : X.mg cn = some (.ref C)) (tk : Takes X W) (ho : Em X T W o mo) (ha : Am X T W (e :: es) mr)
    (hst : starEach (e :: es) X.env = (false, eval e X.env) :: starEach es X.env := by rfl) (hpl : (backTo pos (starEach es X.env)).any (·.1) = false := by rfl)
    (ht : eval (.Call (.Attribute o m apos) (e :: es) [] pos) X.env = (do
      let ov ← eval o X.env
      standAt apos.atName
      let (f, first) ← holding [ov] (getMethod ov m pl)
      callWith pos f first (backTo pos (starEach (e :: es) X.env)) (backToKw pos (keywordEach [] X.env))) := by rfl) :
    Em X T W (.Call (.Attribute o m apos) (e :: es) [] pos) (mMethF cn m p fn mo mr) := by
  obtain ⟨fd, ps, ep, F1, F2⟩ := F.ex
  refine ⟨fun pins s σ H Q I ⟨π, env, h, s0, q⟩ => ?_⟩
  refine PySem.W.methodCall_KW (pl := pl) (thn (ho.run pins s σ H (fun x H1 => ∃ a dx fs, x = V.ref a ∧ H1 a = some (.ins C dx fs) ∧ fs.lookup m = none ∧ tL (gx X T) W mr σ H1 fun vs H2 => spM (gx X T) fn p (x :: vs) H2 Q (WE W σ)) I ⟨π, env, h, s0, q.bind.mono fun π1 H1 h1 d s1 g1 p1 x dx => ?_⟩) fun u s1 ⟨x, H1, I1, rx, a, dx, fs, ex, ea, l, q⟩ => ?_) ht
  · split at p1
    · rename_i i
      obtain ⟨a, qa, rfl⟩ := dx
      split at p1
      · rename_i c' fs e0
        split at p1
        · rename_i hc
          obtain ⟨rfl, hlk⟩ := hc
          obtain ⟨C', dx, xs, m1, ha', q1⟩ := g1.obj e0 qa
          rw [show (gx X T).mg c' = some (.ref C) from hC] at m1
          cases m1
          refine ⟨a, dx, xs, rfl, ha', q1.lookupN hlk, π1, env, h1, s0.step s1 g1, p1.bind.mono fun π2 H2 h2 ds s2 g2 p2 vs dv => ?_⟩
          split at p2
          · rename_i hl
            exact sp_of (ds := .ref i :: ds) g2 ⟨_, _, rfl, ⟨a, s2.get qa, rfl⟩, dv⟩ hl p2
          · exact p2.elim
        · exact p1.elim
      · exact p1.elim
    · exact p1.elim
  · subst ex
    obtain rfl : u = Value.ref a := rx
    refine getmeth_ok I1 ea c hm l ?_
    refine PySem.W.callWith_K (first := [.ref a]) (h₀ := X.base) I.ok.mod.kin hm.kp (thn (ha.run pos pins s1 σ H1 _ I1 q) fun us s2 ⟨vs, H2, I2, r, q2⟩ => ⟨I2.kIn, ?_⟩) hst hpl
    exact run_fnSD (us := .ref a :: us) (vs := .ref a :: vs) (dvs := []) (ds := []) (E := WE W) F1 (hr.mono hk) F2 .nil (passAt tk σ) I2 (.cons rfl r) (by rw [List.append_nil]; exact q2)
theorem em_meth0 {pl : Sem Bool} (c : Cls X.K C) (hm : Meth X.K C m f) (F : FunM X.prog X.w X.K X.mg X.base T j f p fn) (hr : Room k X.A) (hk : j ≤ k) (hC : X.mg cn = some (.ref C)) (tk : Takes X W) (ho : Em X T W o mo)
    (ht : eval (.Call (.Attribute o m apos) [] [] pos) X.env = (do
      let ov ← eval o X.env
      standAt apos.atName
      let (f, first) ← holding [ov] (getMethod ov m pl)
      callWith pos f first (backTo pos (starEach [] X.env)) (backToKw pos (keywordEach [] X.env))) := by rfl) :
    Em X T W (.Call (.Attribute o m apos) [] [] pos) (mMethF cn m p fn mo mNil) := by
  obtain ⟨fd, ps, ep, F1, F2⟩ := F.ex
  refine ⟨fun pins s σ H Q I ⟨π, env, h, s0, q⟩ => ?_⟩
  refine PySem.W.methodCall_KW (pl := pl) (thn (ho.run pins s σ H (fun x H1 => ∃ a dx fs, x = V.ref a ∧ H1 a = some (.ins C dx fs) ∧ fs.lookup m = none ∧ spM (gx X T) fn p [x] H1 Q (WE W σ)) I ⟨π, env, h, s0, q.bind.mono fun π1 H1 h1 d s1 g1 p1 x dx => ?_⟩) fun u s1 ⟨x, H1, I1, rx, a, dx, fs, ex, ea, l, q⟩ => ?_) ht
  · split at p1
    · rename_i i
      obtain ⟨a, qa, rfl⟩ := dx
      split at p1
      · rename_i c' fs e0
        split at p1
        · rename_i hc
          obtain ⟨rfl, hlk⟩ := hc
          obtain ⟨C', dx, xs, m1, ha', q1⟩ := g1.obj e0 qa
          rw [show (gx X T).mg c' = some (.ref C) from hC] at m1
          cases m1
          refine ⟨a, dx, xs, rfl, ha', q1.lookupN hlk, ?_⟩
          have p2 : Post (gx X T) W π1 σ H1 (if ([] : List D).length + 1 = p then fn [.ref i] h1 else .bad) (fun π' H' _ d => ∀ v, DV (gx X T).K π' H' d v → Q v H') := p1
          split at p2
          · rename_i hl
            exact sp_of (ds := [.ref i]) g1 ⟨_, _, rfl, ⟨a, qa, rfl⟩, rfl⟩ hl p2
          · exact p2.elim
        · exact p1.elim
      · exact p1.elim
    · exact p1.elim
  · subst ex
    obtain rfl : u = Value.ref a := rx
    refine getmeth_ok I1 ea c hm l ?_
    exact PySem.W.callWith_K0 (first := [.ref a]) I1.kIn hm.kp (run_fnSD (us := [.ref a]) (vs := [.ref a]) (dvs := []) (ds := []) (E := WE W) F1 (hr.mono hk) F2 .nil (passAt tk σ) I1 (.cons rfl .nil) (by rw [List.append_nil]; exact q))
/-- C(..) of an own class with __init__ -/
def mMake (cn : Str) (p : Nat) (fn : Fc) (mr : Ev → Hm → R (List D)) : Ev → Hm → R D := fun env h => (mr env h).bind fun ds h1 => if ds.length + 1 = p then (match fn (.ref h1.length :: ds) (h1 ++ [.ins cn []]) with
  | .ok .non h2 => .ok (.ref h1.length) h2
  | .exn x h2 => .exn x h2
  | _ => .bad) else .bad
theorem run_makeS {pins : List (Addr × Obj)} {σ : L2.St} {H : Hp} {s : Shared} {Q : VK} {us : List Value} {vs : List V} {fd : FuncData} {ps : List Str} {sp : Sp} {E : XK} (M : Mk X.K C f) (F : FnOk X.prog X.w X.K X.mg X.base (L2.CX X.prog X.w) k f fd ps sp) (hr : Room (k + 1) X.A) (hb : Binds X.K fd ps [])
    (hx : PassesAt (L2.CX X.prog X.w) X σ E) (I : Inv X pins σ H s) (r : Vals vs us)
    (h : ∀ x dx, H x = none → H dx = none → dx ≠ x → sp (.ref x :: vs) (upd (upd H dx (.own x)) x (.ins C dx [])) (fun v H2 => v = .non ∧ Q (.ref x) H2) E) :
    wpAny (model X.prog X.w) X.A (call (.ref C) us) (EP X pins σ Q) X.xe s := by
  have hq := h (s.heap.objs.size + 1) s.heap.objs.size (I.hok.fresh (Nat.le_succ _)) (I.hok.fresh (Nat.le_refl _)) (Nat.ne_of_lt (Nat.lt_succ_self _))
  have I2 := Inv.made (C := C) I
  have r2 : Vals (V.ref (s.heap.objs.size + 1) :: vs) (Value.ref (s.heap.objs.size + 1) :: us) := .cons rfl r
  have hl : (Value.ref (s.heap.objs.size + 1) :: us ++ []).length = ps.length := by
    have e := r2.length
    rw [F.len _ _ _ _ hq] at e
    rw [List.append_nil]
    exact e.symm
  have hbb := hb _ (Value.ref (s.heap.objs.size + 1) :: us) I2.kIn hl
  rw [List.append_nil] at hbb
  refine wpAny_call (make_map (f := f) I.kIn M.makes M.init (beq_iff_eq.mp M.fn) (codeAny_mono (F.run _ X.stack _ _ ⟨Value.ref (s.heap.objs.size + 1) :: us, []⟩ (Value.ref (s.heap.objs.size + 1) :: us) _ _ E (hr.make C us [])
    (I2.env0.make C us []) hbb r2 hq) fun r s' hq' => ?_))
  cases r with
  | error e => exact hx pins _ _ e s' I2 hq'
  | ok fl =>
    cases fl with
    | ret u =>
      obtain ⟨v, H', I3, rv, ev, q3⟩ := I2.after hq'
      subst ev
      exact ⟨rv, ⟨V.ref (s.heap.objs.size + 1), H', I3, rfl, q3⟩⟩
    | next => exact False.elim hq'
    | brk => exact False.elim hq'
    | cont => exact False.elim hq'
theorem made_of {π : List Addr} {σ : L2.St} {h : Hm} {H : Hp} {ds : List D} {vs : List V} {Q : VK} (hC : X.mg cn = some (.ref C)) (g : Good (gx X T) π h H) (q : DVs X.K π H ds vs) (hl : ds.length + 1 = p)
    (pp : Post (gx X T) W π σ H (match fn (.ref h.length :: ds) (h ++ [.ins cn []]) with
      | .ok .non h2 => .ok (.ref h.length) h2
      | .exn x h2 => .exn x h2
      | _ => .bad) fun π' H' _ d => ∀ v, DV (gx X T).K π' H' d v → Q v H') : ∀ x dx, H x = none → H dx = none → dx ≠ x → spM (gx X T) fn p (.ref x :: vs) (upd (upd H dx (.own x)) x (.ins C dx [])) (fun v H2 => v = .non ∧ Q (.ref x) H2) (WE W σ) := by
  intro x dx nx nd ne
  have s1 := Step.other (o := .own x) g nd
  have g1 := g.other (o := .own x) nd
  have n1 : upd H dx (.own x) x = none := by rw [upd_ne (Ne.symm ne)]; exact nx
  have s2 := Step.new (u := .ins C dx []) g1 n1
  have g2 := g1.new (u := .ins C dx []) (o := .ins cn []) n1 ⟨C, dx, [], hC, upd_same, rfl⟩
  have s12 := s1.trans s2
  have ix : (π ++ [x])[h.length]? = some x := by
    rw [List.getElem?_append_right (by rw [g.len]; exact Nat.le_refl _), g.len, Nat.sub_self] <;> rfl
  refine ⟨π ++ [x], h ++ [.ins cn []], .ref h.length :: ds, g2, ⟨_, _, rfl, ⟨x, ix, rfl⟩, q.step s12 _ _⟩, hl, ?_⟩
  generalize fn (.ref h.length :: ds) (h ++ [.ins cn []]) = z at pp ⊢
  cases z with
  | ok a h' =>
    cases a <;> first
      | exact pp.elim
      | (intro π' H' s3 g3 v dv
         exact ⟨dv, pp π' H' (s12.trans s3) g3 _ ⟨x, s3.get ix, rfl⟩⟩)
  | exn y h' => exact fun π' H' cls d s3 g3 e => pp π' H' cls d (s12.trans s3) g3 e
  | bad => exact pp
theorem em_make (M : Mk X.K C f) (F : FunM X.prog X.w X.K X.mg X.base T j f p fn) (hr : Room k X.A) (hk : j + 1 ≤ k) (hg : Gl X cn) (hC : X.mg cn = some (.ref C)) (tk : Takes X W) (ha : Am X T W (e :: es) mr) (hdb : (cn == ("__debug__" : Str)) = false := by rfl)
    (he : starEach (e :: es) X.env = (false, eval e X.env) :: starEach es X.env := by rfl) (hpl : (backTo pos (starEach es X.env)).any (·.1) = false := by rfl) : Em X T W (.Call (.Name cn pp) (e :: es) [] pos) (mMake cn p fn mr) := by
  obtain ⟨fd, ps, ep, F1, F2⟩ := F.ex
  refine ⟨fun pins s σ H Q I ⟨π, env, h, s0, q⟩ => ?_⟩
  refine wpAny_Call_Name_kw (ld_glob I hg hC ?_ hdb)
  refine PySem.W.callWith_K (h₀ := X.base) I.ok.mod.kin M.kp (thn (ha.run pos pins s σ H (fun vs H1 => ∀ x dx, H1 x = none → H1 dx = none → dx ≠ x → spM (gx X T) fn p (.ref x :: vs) (upd (upd H1 dx (.own x)) x (.ins C dx [])) (fun v H2 => v = .non ∧ Q (.ref x) H2) (WE W σ)) I
    ⟨π, env, h, s0, q.bind.mono fun π1 H1 h1 ds s1 g1 p1 vs dv => ?_⟩) fun us s1 ⟨vs, H1, I1, r, q⟩ => ⟨I1.kIn, ?_⟩) he hpl
  · split at p1
    · rename_i hl
      exact made_of hC g1 dv hl p1
    · exact p1.elim
  · exact run_makeS M F1 (hr.mono hk) F2 (passAt tk σ) I1 r q
/-- raise C('..') of an own class without own __init__ -/
def sRaise (cn : Str) : Ev → Hm → SR := fun env h => .exn ⟨cn, []⟩ env h
theorem sm_raise {bmB : List Value} {B newId initId : String} {msg : Str} {jj : Nat} {p2 : Pos} (hc : X.calm = true) (tk : Takes X W) (F : ExcBaseFacts B newId initId bmB) (q : PySem.W.excIn X.K C bmB newId = true) (gC : X.mg cn = some (.ref C)) (kC : PySem.W.keepIn X.K (.ref C) = true) (r : Raises X (.ref C)) (hg : Gl X cn)
    (hdb : (cn == ("__debug__" : Str)) = false := by rfl) : Sm X T W (.Raise (some (.Call (.Name cn pp) [.Constant (.str msg) jj p2] [] pos)) none apos) (sRaise cn) :=
  PS.of (ps_raise hc tk (pmk_own F q gC kC r hg hdb)) fun D σ H ⟨π, env, h, s, p⟩ => p π σ H _ _ Step.refl s ⟨C, gC, rfl, rfl⟩
end
end MM
namespace MM
open PySem L2
theorem pi_or {X : Cx} {tg e : Expr} {t t' : TI} (p : PI X tg e t) (q : PI X tg e t') : PI X tg e (fun σ H R => t σ H R ∨ t' σ H R) := ⟨fun pins s σ H Q I h => h.elim (p.run pins s σ H Q I) (q.run pins s σ H Q I)⟩
theorem pg_or {X : Cx} {e : Expr} {t t' : TG} (p : PG X e t) (q : PG X e t') : PG X e (fun v σ H R => t v σ H R ∨ t' v σ H R) := ⟨fun pins s σ H v u Q I r h => h.elim (p.run pins s σ H v u Q I r) (q.run pins s σ H v u Q I r)⟩
/-- a list or a tuple is walked -/
def mItA (m : Ev → Hm → R D) : Ev → Hm → R Itr := fun env h => (m env h).bind fun x h1 => match x with
  | .tup ds => .ok (ds, []) h1
  | x => oR (itL h1 x) h1
theorem im_any {X : Cx} {T : List (Addr × Str)} {W : WX} {tg e : Expr} {me : Ev → Hm → R D} (he : Em X T W e me) : Im X T W tg e (mItA me) := PI.of (pi_or (im_list he) (im_tup (tg := tg) he)) fun σ H Q ⟨π, env, h, s, p⟩ => by
  unfold mItA at p
  cases q : me env h with
  | ok d h1 =>
    rw [q] at p
    by_cases ht : ∃ ds, d = .tup ds
    · obtain ⟨ds, rfl⟩ := ht
      refine .inr ⟨π, env, h, s, ?_⟩
      unfold mItT
      rw [q]
      exact p
    · refine .inl ⟨π, env, h, s, ?_⟩
      unfold mItL
      rw [q]
      cases d with
      | tup ds => exact (ht ⟨ds, rfl⟩).elim
      | _ => exact p
  | exn x h1 =>
    refine .inl ⟨π, env, h, s, ?_⟩
    unfold mItL
    rw [q] at p ⊢
    exact p
  | bad => rw [q] at p; exact p.elim
/-- a tuple or a list is unpacked -/
def gU (n : Nat) (r : Gts) : Gt := fun d env h => match d with
  | .tup ds => if ds.length = n then r ds env h else .bad
  | .ref i => match h[i]? with
    | some (.lst ds) => if ds.length = n then r ds env h else .bad
    | _ => .bad
  | _ => .bad
section
variable {X : Cx} {T : List (Addr × Str)} {W : WX} {vs : List Nat} {e : Expr} {es : List Expr} {g : Gt} {r : Gts} {pos : Pos}
theorem gm_unp {k n : Nat} (hc : X.calm = true) (hr : Gsm X T W es r) (hn : (assignEach es X.env).length = n := by rfl) (hst : (assignEach es X.env).findIdx? (·.1) = none := by rfl) : Gm X T W (.Tuple es k pos) (gU n r) :=
  PG.of (pg_or (gm_tup hc hr hn hst) (gm_lst hc hr hn hst)) fun v σ H Q ⟨π, env, h, d, s, dv, p⟩ => by
    cases d with
    | tup ds => exact .inl ⟨π, env, h, _, s, dv, p⟩
    | ref i => exact .inr ⟨π, env, h, _, s, dv, p⟩
    | _ => exact p.elim
theorem gw_unp {k n : Nat} (hc : X.calm = true) (hr : Gsw X T W vs es r) (hn : (assignEach es X.env).length = n := by rfl) (hst : (assignEach es X.env).findIdx? (·.1) = none := by rfl) : Gw X T W vs (.Tuple es k pos) (gU n r) :=
  PG.of (pg_or (gw_tup hc hr hn hst) (gw_lst hc hr hn hst)) fun v σ H Q ⟨π, env, h, d, s, dv, p⟩ => by
    cases d with
    | tup ds => exact .inl ⟨π, env, h, _, s, dv, p⟩
    | ref i => exact .inr ⟨π, env, h, _, s, dv, p⟩
    | _ => exact p.elim
end
instance {i j : Int} : Decidable (CDiv i j) := inferInstanceAs (Decidable (0 < j ∧ j < 1073741824))
def fIDiv : F2 := fI fun i j => if CDiv i j then some (.int (i / j)) else none
def fIMod : F2 := fI fun i j => if 0 < j then some (.int (i % j)) else none
def fIAdd : F2 := fI fun i j => some (.int (i + j))
/-- lengths of argument lists -/
def LenIs (m : Ev → Hm → R (List D)) (n : Nat) : Prop := ∀ env h ds h', m env h = .ok ds h' → ds.length = n
theorem len_nil : LenIs mNil 0 := fun env h ds h' e => by cases e; rfl
theorem len_cons {a : Ev → Hm → R D} {r : Ev → Hm → R (List D)} {n : Nat} (w : LenIs r n) : LenIs (mCons a r) (n + 1) := fun env h ds h' e => by
  unfold mCons at e
  cases q : a env h with
  | ok d h1 =>
    rw [q] at e
    cases q2 : r env h1 with
    | ok xs h2 =>
      have e' : (r env h1).bind (fun xs h2 => R.ok (d :: xs) h2) = .ok ds h' := e
      rw [q2] at e'
      cases e'
      rw [List.length_cons, w _ _ _ _ q2]
    | exn x h2 =>
      have e' : (r env h1).bind (fun xs h2 => R.ok (d :: xs) h2) = .ok ds h' := e
      rw [q2] at e'
      cases e'
    | bad =>
      have e' : (r env h1).bind (fun xs h2 => R.ok (d :: xs) h2) = .ok ds h' := e
      rw [q2] at e'
      cases e'
  | exn x h1 => rw [q] at e; cases e
  | bad => rw [q] at e; cases e
section
variable {X : Cx} {T : List (Addr × Str)} {W : WX} {es : List Expr} {mr : Ev → Hm → R (List D)} {pos : Pos}
theorem em_tup {x1} (ha : Am X T W es mr) (w : LenIs mr es.length) (hl : es.length ≤ 1000 := by decide) : Em X T W (.Tuple es x1 pos) (mTup mr) := am_tup ha hl w
theorem em_lst (ha : Am X T W es mr) (w : LenIs mr es.length) (hl : es.length ≤ 1000 := by decide) : Em X T W (.List es pos) (mLst mr) := am_lst ha hl w
end
theorem hu65 {k : Nat} {A : Around} (r : Room k A) : A.units + 65 < cLine := by have := r.un; omega
/-- a tuple of constants of the written part -/
theorem sqT_none {K : PySem.W.Frag} {a : Addr} {xs : List V} (h : SqT K (fun _ => none) a xs) : KTup K a xs := by
  rcases h with h | h
  · rcases h with h | ⟨_, h⟩ <;> cases h
  · exact h
/-- flat data -/
def flV : V → Option D
  | .non => some .non
  | .bl b => some (.bl b)
  | .int i => some (.int i)
  | .str x => some (.str x)
  | _ => none
theorem flV_ok {K : PySem.W.Frag} {π : List Addr} {H : Hp} {v : V} {d : D} (e : flV v = some d) : DV K π H d v := by
  cases v <;> first
    | (cases e; rfl)
    | cases e
def flVs : List V → Option (List D)
  | [] => some []
  | v :: vs => match flV v, flVs vs with
    | some d, some ds => some (d :: ds)
    | _, _ => none
theorem flVs_ok {K : PySem.W.Frag} {π : List Addr} {H : Hp} : ∀ {vs : List V} {ds : List D}, flVs vs = some ds → DVs K π H ds vs
  | [], ds, e => by cases e; rfl
  | v :: vs, ds, e => by
    unfold flVs at e
    cases q : flV v with
    | none => rw [q] at e; cases e
    | some d =>
      cases q2 : flVs vs with
      | none => rw [q, q2] at e; cases e
      | some es =>
        rw [q, q2] at e
        cases e
        exact ⟨v, vs, rfl, flV_ok q, flVs_ok q2⟩
theorem dv_tup {K : PySem.W.Frag} {π : List Addr} {H : Hp} {a : Addr} {xs : List V} {ds : List D} (h : SqT K (fun _ => none) a xs) (e : flVs xs = some ds) : DV K π H (.tup ds) (.ref a) := ⟨a, xs, rfl, .inr (sqT_none h), flVs_ok e⟩
end MM
namespace MM
open PySem L2
/-- how the script comes -/
def Scr (ns : List Int) (d : D) (h : Hm) : Prop := (d = .rol (ns.map D.int) ∧ h = []) ∨ (d = .ref 0 ∧ h = [.lst (ns.map D.int)])
/-- what is to be shown of the law's run -/
def PlainLaw (f : Fc) (n : Nat) : Prop := ∀ (ns : List Int) (d : D) (h : Hm), ns.length ≤ n → Scr ns d h → ∃ h', f [d] h = .ok (.bl true) h'
theorem cx_none {P : Program} {w : World} (H : Hp) (s : Shared) (e : Value) (s' : Shared) (h : L2.CX P w [] H s (fun _ _ _ => False) e s') : False := by
  obtain ⟨_, _, _, _, _, _, _, _, _, _, _, _, z⟩ := h
  exact z.elim
end MM
namespace MM
open PySem L2
section
variable {α β : Type} {a : α} {h : Hm} {x : Ex} {k : α → Hm → R β} {ks : α → Hm → SR} {env : Ev} {b : Ev → Hm → SR} {d e : D}
@[simp] theorem bind_ok : (R.ok a h).bind k = k a h := rfl
@[simp] theorem bind_exn : (R.exn x h : R α).bind k = .exn x h := rfl
@[simp] theorem bind_bad : (R.bad : R α).bind k = .bad := rfl
@[simp] theorem bindS_ok : (R.ok a h).bindS env ks = ks a h := rfl
@[simp] theorem bindS_exn : (R.exn x h : R α).bindS env ks = .exn x env h := rfl
@[simp] theorem bindS_bad : (R.bad : R α).bindS env ks = .bad := rfl
@[simp] theorem then_next : (SR.next env h).then b = b env h := rfl
@[simp] theorem then_ret : (SR.ret d h).then b = .ret d h := rfl
@[simp] theorem then_brk : (SR.brk env h).then b = .brk env h := rfl
@[simp] theorem then_cont : (SR.cont env h).then b = .cont env h := rfl
@[simp] theorem then_exn : (SR.exn x env h).then b = .exn x env h := rfl
@[simp] theorem then_bad : (SR.bad).then b = .bad := rfl
@[simp] theorem only_next : (SR.next env h).only = .next env h := rfl
@[simp] theorem only_exn : (SR.exn x env h).only = .exn x env h := rfl
end
section
variable {i j : Nat} {env : Ev} {h : Hm} {d e : D} {x y : Int} {s t : Str} {p q : Bool} {ds es : List D} {a b c : Ev → Hm → R D} {r : Ev → Hm → R (List D)} {sa sb : Ev → Hm → SR} {f f' : F2} {g : Gt} {gs : Gts} {ta tb : Ev → Hm → R Bool}
@[simp] theorem run_seq : sSeq sa sb env h = (sa env h).then sb := rfl
@[simp] theorem run_nil : sNil env h = .next env h := rfl
@[simp] theorem run_ret : sRet a env h = (a env h).bindS env fun d h1 => .ret d h1 := rfl
@[simp] theorem run_retN : sRetN env h = .ret .non h := rfl
@[simp] theorem run_drop : sDrop a env h = (a env h).bindS env fun _ h1 => .next env h1 := rfl
@[simp] theorem run_if : sIf ta sa sb env h = (ta env h).bindS env fun k h1 => if k = true then sa env h1 else sb env h1 := rfl
@[simp] theorem run_asg : sAsg g a env h = (a env h).bindS env fun d h1 => (g d env h1).only := rfl
@[simp] theorem run_brk : sBrk env h = .brk env h := rfl
@[simp] theorem run_cont : sCont env h = .cont env h := rfl
@[simp] theorem run_raise {cn : Str} : sRaise cn env h = .exn ⟨cn, []⟩ env h := rfl
@[simp] theorem run_gN : gN i d env h = .next (env.set i (some d)) h := rfl
@[simp] theorem run_C : mC d env h = .ok d h := rfl
@[simp] theorem run_var : mVar i env h = (match env[i]? with
  | some (some d) => .ok d h
  | _ => .bad) := rfl
@[simp] theorem run_m2 : m2 f a b env h = (a env h).bind fun x h1 => (b env h1).bind fun y h2 => f x y h2 := rfl
@[simp] theorem run_lnil : mNil env h = .ok [] h := rfl
@[simp] theorem run_lcons : mCons a r env h = (a env h).bind fun x h1 => (r env h1).bind fun xs h2 => .ok (x :: xs) h2 := rfl
@[simp] theorem run_tup : mTup r env h = (r env h).bind fun xs h1 => .ok (.tup xs) h1 := rfl
@[simp] theorem run_lst : mLst r env h = (r env h).bind fun xs h1 => .ok (.ref h1.length) (h1 ++ [.lst xs]) := rfl
@[simp] theorem run_bool : mBool a env h = (a env h).bind fun x h1 => (match x with
  | .bl b => .ok b h1
  | _ => .bad) := rfl
@[simp] theorem run_tru : mTru a env h = (a env h).bind fTru := rfl
@[simp] theorem run_and : mAnd ta tb env h = (ta env h).bind fun k h1 => if k = true then tb env h1 else .ok false h1 := rfl
@[simp] theorem run_or : mOr ta tb env h = (ta env h).bind fun k h1 => if k = true then .ok true h1 else tb env h1 := rfl
@[simp] theorem run_not : mNot ta env h = (ta env h).bind fun k h1 => .ok (!k) h1 := rfl
@[simp] theorem run_andV : mAndV a b env h = (a env h).bind fun x h1 => (fTru x h1).bind fun k h2 => if k = true then b env h2 else .ok x h2 := rfl
@[simp] theorem run_orV : mOrV a b env h = (a env h).bind fun x h1 => (fTru x h1).bind fun k h2 => if k = true then .ok x h2 else b env h2 := rfl
@[simp] theorem run_notV : mNotV a env h = (a env h).bind fun x h1 => (fTru x h1).bind fun k h2 => .ok (.bl (!k)) h2 := rfl
@[simp] theorem run_ifE : mIf ta a b env h = (ta env h).bind fun k h1 => if k = true then a env h1 else b env h1 := rfl
@[simp] theorem run_chain : mChain f f' a b c env h = (a env h).bind fun x h1 => (b env h1).bind fun y h2 => (f x y h2).bind fun z h3 => (match z with
  | .bl k => if k = true then (c env h3).bind fun w h4 => f' y w h4 else .ok (.bl false) h3
  | _ => .bad) := rfl
@[simp] theorem run_neg : mNeg a env h = (a env h).bind fun x h1 => (match x with
  | .int i => .ok (.int (-i)) h1
  | _ => .bad) := rfl
@[simp] theorem run_sl {l u : Ev → Hm → R (Option Int)} : mSl a l u env h = (a env h).bind fun x h1 => (l env h1).bind fun lo h2 => (u env h2).bind fun hi h3 => fSl x lo hi h3 := rfl
@[simp] theorem run_no : mNo env h = .ok none h := rfl
@[simp] theorem run_some : mSome a env h = (a env h).bind fun x h1 => (match x with
  | .int i => .ok (some i) h1
  | _ => .bad) := rfl
@[simp] theorem run_call {fc : Fc} : mCall fc r env h = (r env h).bind fc := rfl
@[simp] theorem run_callF {fc : Fc} {p : Nat} : mCallF p fc r env h = (r env h).bind fun ds h1 => if ds.length = p then fc ds h1 else .bad := rfl
@[simp] theorem run_meth {tg : Hm → D → Bool} {fm : Fm} : mMeth tg fm a r env h = (a env h).bind fun x h1 => if tg h1 x = true then (r env h1).bind fun ds h2 => fm x ds h2 else .bad := rfl
@[simp] theorem run_subM : gSubM a b d env h = (a env h).bindS env fun x h1 => (b env h1).bindS env fun y h2 => (match fSet x y d h2 with
  | some h3 => .next env h3
  | none => .bad) := rfl
@[simp] theorem run_par : sPar i j r env h = (r env h).bindS env fun ds h1 => (match ds with
  | [a, b] => .next ((env.set i (some a)).set j (some b)) h1
  | _ => .bad) := rfl
@[simp] theorem run_par3 {l : Nat} : sPar3 i j l r env h = (r env h).bindS env fun ds h1 => (match ds with
  | [a, b, c] => .next (((env.set i (some a)).set j (some b)).set l (some c)) h1
  | _ => .bad) := rfl
@[simp] theorem run_aug : sAug i f a env h = (match env[i]? with
  | some (some x) => (a env h).bindS env fun y h1 => (f x y h1).bindS env fun z h2 => .next (env.set i (some z)) h2
  | _ => .bad) := rfl
@[simp] theorem run_itA : mItA a env h = (a env h).bind fun x h1 => (match x with
  | .tup ds => .ok (ds, []) h1
  | x => oR (itL h1 x) h1) := rfl
@[simp] theorem run_rg1 : mRg1 r env h = (r env h).bind fun ds h1 => (match ds with
  | [.int j] => if sm62 j = true then .ok (rng1 0 j.toNat, []) h1 else .bad
  | _ => .bad) := rfl
@[simp] theorem run_enum : mEnum r env h = (r env h).bind fun ds h1 => (match ds with
  | [x] => (match itL h1 x with
    | some it => .ok (enumD 0 it.1, it.2) h1
    | none => .bad)
  | _ => .bad) := rfl
@[simp] theorem run_for {m : Ev → Hm → R Itr} : sFor m g sa env h = (m env h).bindS env fun it h1 => forL it.2 g sa it.1 env h1 := rfl
@[simp] theorem run_lc {vs : List Nat} {m : Ev → Hm → R Itr} : mLc vs m g ta a env h = (m env h).bind fun it h1 => if it.1.length ≤ 16777216 then (match lcL it.2 g ta a (wipeE env vs) it.1 h1 with
  | .ok ys h2 => .ok (.ref h2.length) (h2 ++ [.lst ys])
  | _ => .bad) else .bad := rfl
@[simp] theorem run_fld {cs : List Str} {s : Str} : mFld cs s a env h = (a env h).bind fun x h1 => (match x with
  | .ref i => (match h1[i]? with
    | some (.ins c fs) => if c ∈ cs then (match fs.lookup s with
        | some d => .ok d h1
        | none => .bad) else .bad
    | _ => .bad)
  | _ => .bad) := rfl
@[simp] theorem run_fldM {cs : List Str} {s : Str} : sFldM cs s a b env h = (b env h).bindS env fun y h1 => (a env h1).bindS env fun x h2 => (match setF cs s x y h2 with
  | some h3 => .next env h3
  | none => .bad) := rfl
@[simp] theorem run_tyes : tYesM env h = .ok true h := rfl
@[simp] theorem fAdd_i : fAdd (.int x) (.int y) h = .ok (.int (x + y)) h := rfl
@[simp] theorem fSub_i : fSub (.int x) (.int y) h = .ok (.int (x - y)) h := rfl
@[simp] theorem fLt_i : fLt (.int x) (.int y) h = .ok (.bl (decide (x < y))) h := rfl
@[simp] theorem fLe_i : fLe (.int x) (.int y) h = .ok (.bl (decide (x ≤ y))) h := rfl
@[simp] theorem fGt_i : fGt (.int x) (.int y) h = .ok (.bl (decide (y < x))) h := rfl
@[simp] theorem fGe_i : fGe (.int x) (.int y) h = .ok (.bl (decide (y ≤ x))) h := rfl
theorem fMulI_ok (c : CMul x y) : fMulI (.int x) (.int y) h = .ok (.int (x * y)) h := by
  unfold fMulI fI
  simp only [if_pos c]
theorem fMul_ok (c : CMul x y) : fMul (.int x) (.int y) h = .ok (.int (x * y)) h := fMulI_ok c
theorem fDiv_ok (c : y ≠ 0 ∧ y.natAbs < 1073741824) : fDiv (.int x) (.int y) h = .ok (.int (x.fdiv y)) h := by
  unfold fDiv fI
  simp only [if_pos (show CDivN x y from c)]
theorem fMod_ok (c : y ≠ 0) : fMod (.int x) (.int y) h = .ok (.int (x.fmod y)) h := by
  unfold fMod fI
  simp only [if_pos c]
theorem fPow_ok (c : 0 ≤ y ∧ y ≤ 1000000 ∧ x.natAbs < 2 ^ 64) : fPow (.int x) (.int y) h = .ok (.int (x ^ y.toNat)) h := by
  unfold fPow fI
  simp only [if_pos (show CPow x y from c)]
@[simp] theorem fEq_i : fEq (.int x) (.int y) h = .ok (.bl (decide (x = y))) h := by
  show R.ok (D.bl (decide (D.int x = D.int y))) h = _
  simp
@[simp] theorem fNe_i : fNe (.int x) (.int y) h = .ok (.bl (!decide (x = y))) h := by
  show R.ok (D.bl (!decide (D.int x = D.int y))) h = _
  simp
@[simp] theorem fAbs_i : fAbs [.int x] h = .ok (.int (if x < 0 then -x else x)) h := rfl
@[simp] theorem fInt_i : fInt [.int x] h = .ok (.int x) h := rfl
@[simp] theorem fInt_b : fInt [.bl p] h = .ok (.int (if p then 1 else 0)) h := rfl
end
theorem ofString_inj {a b : String} : (Str.ofString a = Str.ofString b) ↔ a = b := by
  refine ⟨fun h => ?_, fun h => by rw [h]⟩
  rw [Str.ofString_eq_toList, Str.ofString_eq_toList] at h
  have h1 : a.toList.map Char.toNat = b.toList.map Char.toNat := by
    have := congrArg (fun z : Str => z.cps.toList) h
    simpa using this
  have h2 : a.toList = b.toList := by
    refine (List.map_inj_right ?_).mp h1
    intro x y hxy
    exact Char.toNat_inj.mp hxy
  exact String.toList_inj.mp h2
@[simp] theorem str_eq {a b : String} : (Str.ofString a = Str.ofString b) = (a = b) := propext ofString_inj
@[simp] theorem str_beq {a b : String} : (Str.ofString a == Str.ofString b) = (a == b) := by
  by_cases h : a = b
  · subst h
    simp
  · have h2 : ¬ Str.ofString a = Str.ofString b := fun z => h (ofString_inj.mp z)
    rw [beq_eq_false_iff_ne.mpr h, beq_eq_false_iff_ne.mpr h2]
section
variable {h : Hm} {s t : Str} {p q : Bool} {x y : Int}
@[simp] theorem fEq_s : fEq (.str s) (.str t) h = .ok (.bl (decide (s = t))) h := by
  show R.ok (D.bl (decide (D.str s = D.str t))) h = _
  simp
@[simp] theorem fNe_s : fNe (.str s) (.str t) h = .ok (.bl (!decide (s = t))) h := by
  show R.ok (D.bl (!decide (D.str s = D.str t))) h = _
  simp
@[simp] theorem fEq_b : fEq (.bl p) (.bl q) h = .ok (.bl (decide (p = q))) h := by
  show R.ok (D.bl (decide (D.bl p = D.bl q))) h = _
  simp
@[simp] theorem fMax2_i : fMax2 [.int x, .int y] h = .ok (.int (if y > x then y else x)) h := rfl
@[simp] theorem fMin2_i : fMin2 [.int x, .int y] h = .ok (.int (if y < x then y else x)) h := rfl
@[simp] theorem fIAdd_i : fIAdd (.int x) (.int y) h = .ok (.int (x + y)) h := rfl
@[simp] theorem fTru_b : fTru (.bl p) h = .ok p h := rfl
@[simp] theorem fTru_i : fTru (.int x) h = .ok (x != 0) h := rfl
@[simp] theorem fIs_n {d : D} {n : Bool} : fIs n d .non h = .ok (.bl (if n then !decide (d = .non) else decide (d = .non))) h := rfl
end
@[simp] theorem lookup_str {a k : Str} {d : D} {es : List (Str × D)} : List.lookup a ((k, d) :: es) = if a = k then some d else List.lookup a es := by
  by_cases h : a = k
  · have hb : (a == k) = true := beq_iff_eq.mpr h
    simp only [List.lookup, hb, if_pos h]
  · have hb : (a == k) = false := beq_eq_false_iff_ne.mpr h
    simp only [List.lookup, hb, if_neg h]
@[simp] theorem fIx_t {ds : List D} {x : Int} {h : Hm} : fIx (.tup ds) (.int x) h = (match L2.atI ds x with
  | some d => .ok d h
  | none => .bad) := rfl
@[simp] theorem run_methF {cn m : Str} {p : Nat} {fn : Fc} {mo : Ev → Hm → R D} {mr : Ev → Hm → R (List D)} {env : Ev} {h : Hm} : mMethF cn m p fn mo mr env h = (mo env h).bind fun x h1 => (match x with
  | .ref i => (match h1[i]? with
    | some (.ins c fs) => if c = cn ∧ fs.lookup m = none then (mr env h1).bind fun ds h2 => if ds.length + 1 = p then fn (.ref i :: ds) h2 else .bad else .bad
    | _ => .bad)
  | _ => .bad) := rfl
@[simp] theorem run_make {cn : Str} {p : Nat} {fn : Fc} {mr : Ev → Hm → R (List D)} {env : Ev} {h : Hm} : mMake cn p fn mr env h = (mr env h).bind fun ds h1 => if ds.length + 1 = p then (match fn (.ref h1.length :: ds) (h1 ++ [.ins cn []]) with
  | .ok .non h2 => .ok (.ref h1.length) h2
  | .exn x h2 => .exn x h2
  | _ => .bad) else .bad := rfl
@[simp] theorem run_get {mo a b : Ev → Hm → R D} {env : Ev} {h : Hm} : mGet mo a b env h = (mo env h).bind fun x h1 => if isD h1 x = true then (a env h1).bind fun k h2 => (b env h2).bind fun y h3 => (match x, keyD k with
  | .ref i, some k => (match h3[i]? with
    | some (.dic kvs) => .ok ((getK kvs k).getD y) h3
    | _ => .bad)
  | _, _ => .bad) else .bad := rfl
@[simp] theorem run_fldA {cs : List Str} {f : Str} {fo : F2} {mo me : Ev → Hm → R D} {env : Ev} {h : Hm} : sFldA cs f fo mo me env h = (mo env h).bindS env fun x h1 => (match x with
  | .ref i => (match h1[i]? with
    | some (.ins c fs) => if c ∈ cs then (match fs.lookup f with
        | some v => (me env h1).bindS env fun y h2 => (fo v y h2).bindS env fun z h3 => (match h3[i]? with
            | some (.ins c' fs') => if c' = c ∧ fs'.length < 1000 then .next env (h3.set i (.ins c (putD f z fs'))) else .bad
            | _ => .bad)
        | none => .bad) else .bad
    | _ => .bad)
  | _ => .bad) := rfl
end MM
namespace MM
open PySem L2
section
variable {h : Hm} {r : Nat} {ds : List D} {x y : D} {k : Int} {j : Nat}
/-- subscripts -/
theorem ixN_nat {n j : Nat} (hj : j < n) : ixN n (j : Int) = some j := by
  unfold ixN
  rw [if_pos (by omega), if_pos (by omega)]
  simp
theorem fIx_lst (e : h[r]? = some (.lst ds)) (e2 : ds[j]? = some x) : fIx (.ref r) (.int (j : Int)) h = .ok x h := by
  have hj : j < ds.length := (List.getElem?_eq_some_iff.mp e2).1
  unfold fIx
  simp only [e, L2.atI, ixN_nat hj, Option.bind_some, e2]
theorem fSet_lst (e : h[r]? = some (.lst ds)) (hj : j < ds.length) : fSet (.ref r) (.int (j : Int)) y h = some (h.set r (.lst (ds.set j y))) := by
  unfold fSet
  simp only [e, ixN_nat hj]
end
section
variable {h : Hm} {i : Nat} (hi : i < h.length)
include hi
theorem ix3 (p q r : D) : fIx (.ref i) (.int 0) (h.set i (.lst [p, q, r])) = .ok p (h.set i (.lst [p, q, r])) ∧ fIx (.ref i) (.int 1) (h.set i (.lst [p, q, r])) = .ok q (h.set i (.lst [p, q, r])) ∧ fIx (.ref i) (.int 2) (h.set i (.lst [p, q, r])) = .ok r (h.set i (.lst [p, q, r])) := by
  have e : (h.set i (.lst [p, q, r]))[i]? = some (.lst [p, q, r]) := List.getElem?_set_self hi
  exact ⟨fIx_lst (j := 0) e rfl, fIx_lst (j := 1) e rfl, fIx_lst (j := 2) e rfl⟩
theorem set3 (p q r y : D) : fSet (.ref i) (.int 0) y (h.set i (.lst [p, q, r])) = some (h.set i (.lst [y, q, r])) ∧ fSet (.ref i) (.int 1) y (h.set i (.lst [p, q, r])) = some (h.set i (.lst [p, y, r])) ∧ fSet (.ref i) (.int 2) y (h.set i (.lst [p, q, r])) = some (h.set i (.lst [p, q, y])) := by
  have e : (h.set i (.lst [p, q, r]))[i]? = some (.lst [p, q, r]) := List.getElem?_set_self hi
  refine ⟨(fSet_lst (j := 0) e (by simp)).trans ?_, (fSet_lst (j := 1) e (by simp)).trans ?_, (fSet_lst (j := 2) e (by simp)).trans ?_⟩ <;> simp
end
theorem set_self {h : Hm} {i : Nat} {o : O} (e : h[i]? = some o) : h.set i o = h := by
  obtain ⟨hi, e⟩ := List.getElem?_eq_some_iff.mp e
  rw [← e]
  exact List.set_getElem_self hi
def b_dice : Ev → Hm → SR := (sSeq (sIf (mBool (mChain fLt fLt (m2 fSub (mC (.int 0)) (mC (.int 10))) (mVar 0) (mC (.int 10))))
  (sRet (mLst (mCons (mCall fAbs (mCons (mVar 0) mNil)) (mCons (mC (.int 0)) (mCons (mC (.int 2)) mNil)))))
  sNil)
  (sRet (mLst (mCons (mVar 0) (mCons (m2 fAdd (mC (.int 1)) (m2 fMod (mCall fInt (mCons (mVar 0) mNil)) (mC (.int 1009)))) (mCons (mCall fInt (mCons (m2 fGe (mVar 0) (m2 fPow (mC (.int 10)) (mC (.int 18)))) mNil)) mNil))))))
def f_dice : Fc := callM 1 1 b_dice
def b_roll : Ev → Hm → SR := (sSeq (sIf (mOr (mBool (m2 fEq (m2 fIx (mVar 0) (mC (.int 2))) (mC (.int 2)))) (mAnd (mBool (m2 fEq (m2 fIx (mVar 0) (mC (.int 2))) (mC (.int 1)))) (mBool (m2 fGt (m2 fIx (mVar 0) (mC (.int 0))) (mC (.int 0))))))
  (sSeq (sAsg (gN 2) (m2 fMod (mCall fInt (mCons (m2 fIx (mVar 0) (mC (.int 0))) mNil)) (mVar 1)))
  (sSeq (sAsg (gSubM (mVar 0) (mC (.int 0))) (m2 fDiv (m2 fIx (mVar 0) (mC (.int 0))) (mVar 1)))
  (sRet (mVar 2))))
  sNil)
  (sSeq (sAsg (gSubM (mVar 0) (mC (.int 2))) (mC (.int 0)))
  (sSeq (sAsg (gSubM (mVar 0) (mC (.int 0))) (m2 fMod (mCall fInt (mCons (m2 fAdd (m2 fAdd (m2 fMul (m2 fIx (mVar 0) (mC (.int 0))) (mC (.int 48271))) (m2 fMul (m2 fIx (mVar 0) (mC (.int 1))) (mC (.int 69621)))) (mC (.int 11))) mNil)) (mC (.int 2147483647))))
  (sSeq (sAsg (gSubM (mVar 0) (mC (.int 1))) (m2 fAdd (m2 fIx (mVar 0) (mC (.int 1))) (mC (.int 1))))
  (sRet (m2 fMod (mCall fInt (mCons (m2 fAdd (m2 fDiv (m2 fIx (mVar 0) (mC (.int 0))) (mC (.int 7))) (m2 fIx (mVar 0) (mC (.int 0)))) mNil)) (mVar 1)))))))
def f_roll : Fc := callM 3 2 b_roll
def b_rounds : Ev → Hm → SR := (sSeq (sAsg (gN 2) (mSl (mVar 0) mNo (mSome (mVar 1))))
  (sSeq (sIf (mBool (m2 fEq (mVar 2) (mLst mNil)))
  (sAsg (gN 2) (mLst (mCons (mC (.int 0)) mNil)))
  sNil)
  (sRet (mLc [3] (mItA (mVar 2)) (gN 3) tYesM (mCallF 1 f_dice (mCons (mVar 3) mNil))))))
def f_rounds : Fc := callM 4 2 b_rounds
theorem dice_ok (c : Int) (h : Hm) : ∃ a b m, f_dice [.int c] h = .ok (.ref h.length) (h ++ [.lst [.int a, .int b, .int m]]) := by
  by_cases hc : -10 < c ∧ c < 10
  · refine ⟨if c < 0 then -c else c, 0, 2, ?_⟩
    simp [f_dice, callM, b_dice, startE, hc]
  · refine ⟨c, 1 + c.fmod 1009, if (10 : Int) ^ 18 ≤ c then 1 else 0, ?_⟩
    have : ¬ ((-10 < c) ∧ (c < 10)) := hc
    by_cases h1 : -10 < c
    · have h2 : ¬ c < 10 := fun z => hc ⟨h1, z⟩
      simp [f_dice, callM, b_dice, startE, h1, h2, fMod_ok, fPow_ok]
    · simp [f_dice, callM, b_dice, startE, h1, fMod_ok, fPow_ok]
theorem roll_ok {i : Nat} {h : Hm} {a b m many : Int} (e : h[i]? = some (.lst [.int a, .int b, .int m])) (h1 : 0 < many) (h2 : many < 1073741824) :
    ∃ v a' b' m' : Int, 0 ≤ v ∧ v < many ∧ f_roll [.ref i, .int many] h = .ok (.int v) (h.set i (.lst [.int a', .int b', .int m'])) := by
  have hi0 : i < h.length := (List.getElem?_eq_some_iff.mp e).1
  obtain ⟨h0, e0, hi⟩ : ∃ h0 : Hm, h = h0.set i (.lst [.int a, .int b, .int m]) ∧ i < h0.length := ⟨h, (set_self e).symm, hi0⟩
  subst e0
  have hm : many ≠ 0 := by omega
  have hd : many ≠ 0 ∧ many.natAbs < 1073741824 := ⟨hm, by omega⟩
  have v1 : ∀ z : Int, 0 ≤ z.fmod many ∧ z.fmod many < many := fun z => ⟨Int.fmod_nonneg_of_pos z h1, Int.fmod_lt_of_pos z h1⟩
  have hm1 : ∀ x : Int, CMul x 48271 := fun x => .inr ⟨by decide, by decide⟩
  have hm2 : ∀ x : Int, CMul x 69621 := fun x => .inr ⟨by decide, by decide⟩
  simp only [List.set_set]
  by_cases c : m = 2 ∨ (m = 1 ∧ 0 < a)
  · refine ⟨a.fmod many, a.fdiv many, b, m, (v1 a).1, (v1 a).2, ?_⟩
    rcases c with rfl | ⟨rfl, c⟩
    · simp [f_roll, callM, b_roll, startE, ix3 hi, set3 hi, fMod_ok hm, fDiv_ok hd]
    · simp [f_roll, callM, b_roll, startE, ix3 hi, set3 hi, fMod_ok hm, fDiv_ok hd, c]
  · have c1 : ¬ m = 2 := fun z => c (.inl z)
    refine ⟨(((a * 48271 + b * 69621 + 11).fmod 2147483647).fdiv 7 + (a * 48271 + b * 69621 + 11).fmod 2147483647).fmod many, (a * 48271 + b * 69621 + 11).fmod 2147483647, b + 1, 0, (v1 _).1, (v1 _).2, ?_⟩
    by_cases c2 : m = 1
    · have c3 : ¬ 0 < a := fun z => c (.inr ⟨c2, z⟩)
      simp [f_roll, callM, b_roll, startE, ix3 hi, set3 hi, fMod_ok, fDiv_ok, fMul_ok, hm1, hm2, c2, c3, hm]
    · simp [f_roll, callM, b_roll, startE, ix3 hi, set3 hi, fMod_ok, fDiv_ok, fMul_ok, hm1, hm2, c1, c2, hm]
def IsDice (h : Hm) (i : Nat) : Prop := ∃ a b m : Int, h[i]? = some (.lst [.int a, .int b, .int m])
/-- what stood at n stands, but at i -/
def Fr (i : Nat) (h h' : Hm) : Prop := h.length ≤ h'.length ∧ ∀ j, j < h.length → j ≠ i → h'[j]? = h[j]?
theorem Fr.refl {i : Nat} {h : Hm} : Fr i h h := ⟨Nat.le_refl _, fun _ _ _ => rfl⟩
theorem Fr.trans {i : Nat} {h h1 h2 : Hm} (a : Fr i h h1) (b : Fr i h1 h2) : Fr i h h2 := ⟨Nat.le_trans a.1 b.1, fun j hj ne => (b.2 j (Nat.lt_of_lt_of_le hj a.1) ne).trans (a.2 j hj ne)⟩
theorem Fr.app {i : Nat} {h g : Hm} : Fr i h (h ++ g) := ⟨by rw [List.length_append]; omega, fun j hj _ => List.getElem?_append_left hj⟩
theorem Fr.set {i : Nat} {h : Hm} {o : O} : Fr i h (h.set i o) := ⟨by rw [List.length_set]; exact Nat.le_refl _, fun j hj ne => List.getElem?_set_ne (Ne.symm ne)⟩
theorem Fr.get {i j : Nat} {h h' : Hm} {o : O} (f : Fr i h h') (e : h[j]? = some o) (ne : j ≠ i) : h'[j]? = some o := (f.2 j (List.getElem?_eq_some_iff.mp e).1 ne).trans e
theorem roll_fr {i : Nat} {h : Hm} {many : Int} (e : IsDice h i) (h1 : 0 < many) (h2 : many < 1073741824) : ∃ (v : Int) (h' : Hm), 0 ≤ v ∧ v < many ∧ f_roll [.ref i, .int many] h = .ok (.int v) h' ∧ IsDice h' i ∧ h'.length = h.length ∧ Fr i h h' := by
  obtain ⟨a, b, m, e⟩ := e
  have hi := (List.getElem?_eq_some_iff.mp e).1
  obtain ⟨v, a', b', m', v1, v2, run⟩ := roll_ok e h1 h2
  exact ⟨v, _, v1, v2, run, ⟨a', b', m', List.getElem?_set_self hi⟩, List.length_set .., Fr.set⟩
theorem dices_ok (env : Ev) (hE : env.length = 4) : ∀ (cs : List Int) (gs : List (Nat × O)) (h : Hm), (∀ g : Hm, gdOk gs (h ++ g) = true) → ∃ L : List O, L.length = cs.length ∧ (∀ o ∈ L, ∃ a b m : Int, o = .lst [.int a, .int b, .int m]) ∧
    lcL gs (gN 3) tYesM (mCallF 1 f_dice (mCons (mVar 3) mNil)) env (cs.map D.int) h = .ok ((List.range cs.length).map fun k => D.ref (h.length + k)) (h ++ L)
  | [], gs, h, hg => ⟨[], rfl, fun o ho => (by cases ho), by
    have := hg []
    rw [List.append_nil] at this
    simp [lcL, this]⟩
  | c :: cs, gs, h, hg => by
    obtain ⟨a, b, m, e⟩ := dice_ok c h
    obtain ⟨L, hL, h3, ih⟩ := dices_ok env hE cs gs (h ++ [.lst [.int a, .int b, .int m]]) fun g => by rw [List.append_assoc]; exact hg _
    have g0 := hg []
    rw [List.append_nil] at g0
    have e3 : (env.set 3 (some (D.int c)))[3]? = some (some (.int c)) := List.getElem?_set_self (by omega)
    refine ⟨.lst [.int a, .int b, .int m] :: L, by rw [List.length_cons, List.length_cons, hL], fun o ho => ?_, ?_⟩
    · rcases List.mem_cons.mp ho with rfl | ho
      · exact ⟨a, b, m, rfl⟩
      · exact h3 o ho
    · rw [List.map_cons]
      unfold lcL
      rw [if_pos g0]
      simp only [run_gN, run_tyes, run_callF, run_lcons, run_lnil, run_var, e3, bind_ok, List.length_cons, List.length_nil, if_pos, e, ih]
      simp only [List.length_append, List.length_cons, List.length_nil, List.range_succ_eq_map, List.map_cons, List.map_map, List.append_assoc, List.cons_append, List.nil_append, Nat.zero_add]
      congr 2
      apply List.map_congr_left
      intro k _
      show D.ref (h.length + 1 + k) = D.ref (h.length + (k + 1))
      congr 1
      omega
end MM
namespace MM
open PySem L2
theorem mapO_map {α β γ : Type} {f : β → Option γ} {g : α → β} {k : α → γ} (w : ∀ a, f (g a) = some (k a)) : ∀ l : List α, mapO f (l.map g) = some (l.map k)
  | [] => rfl
  | a :: l => by
    rw [List.map_cons, List.map_cons]
    unfold mapO
    rw [w, mapO_map w l]
theorem py_ints {h : Hm} {n : Nat} (cs : List Int) : mapO (py h (n + 1)) (cs.map D.int) = some (cs.map PyData.int) := mapO_map (g := D.int) (k := PyData.int) (fun _ => rfl) cs
theorem py_ref {h : Hm} {n i : Nat} {ds : List D} (e : h[i]? = some (.lst ds)) : py h (n + 1) (.ref i) = (mapO (py h n) ds).map .list := by
  show (match h[i]? with
    | some (.lst ds) => (mapO (py h n) ds).map PyData.list
    | _ => none) = _
  rw [e]
theorem fEq_nil {h : Hm} {i j : Nat} {cs : List Int} (e : h[i]? = some (.lst (cs.map D.int))) (e2 : h[j]? = some (.lst [])) : fEq (.ref i) (.ref j) h = .ok (.bl cs.isEmpty) h := by
  unfold fEq
  rw [if_neg (by show ¬ (false = true); simp), py_ref e, py_ref e2, py_ints]
  cases cs <;> rfl
theorem rounds_fin (d : D) (h0 : Hm) (cells : List Int) (r : Nat) (e1 e3 : Option D) (er : h0[r]? = some (.lst (cells.map D.int))) (hl : cells.length ≤ 16777216) : ∃ L : List O, L.length = cells.length ∧ (∀ o ∈ L, ∃ a b m : Int, o = .lst [.int a, .int b, .int m]) ∧
    (sRet (mLc [3] (mItA (mVar 2)) (gN 3) tYesM (mCallF 1 f_dice (mCons (mVar 3) mNil)))) [some d, e1, some (.ref r), e3] h0 = .ret (.ref (h0.length + cells.length)) (h0 ++ (L ++ [.lst ((List.range cells.length).map fun k => D.ref (h0.length + k))])) := by
  have hr := (List.getElem?_eq_some_iff.mp er).1
  have gg : ∀ g : Hm, gdOk [(r, O.lst (cells.map D.int))] (h0 ++ g) = true := fun g => by
    simp only [gdOk, List.all_cons, List.all_nil, Bool.and_true, decide_eq_true_eq]
    rw [List.getElem?_append_left hr]
    exact er
  obtain ⟨L, hL, h3, run⟩ := dices_ok (wipeE [some d, e1, some (.ref r), e3] [3]) rfl cells _ h0 gg
  refine ⟨L, hL, h3, ?_⟩
  have it : itL h0 (.ref r) = some (cells.map D.int, [(r, O.lst (cells.map D.int))]) := by
    show (match h0[r]? with
      | some (.lst ds) => some (ds, [(r, O.lst ds)])
      | _ => none) = _
    rw [er]
  have v2 : mVar 2 [some d, e1, some (.ref r), e3] h0 = .ok (.ref r) h0 := rfl
  simp only [run_ret, run_lc, run_itA, v2, bind_ok, it, oR, List.length_map, if_pos hl, run, bindS_ok]
  rw [List.length_append, hL, List.append_assoc]
theorem rounds_ok {d : D} {h : Hm} {ns : List Int} {most : Nat} (hm : most ≤ 1000) (sc : Scr ns d h) : ∃ (L : List O) (cells : List Int) (n : Nat), n + cells.length + 1 = L.length ∧
    f_rounds [d, .int most] h = .ok (.ref (h.length + n + cells.length)) (h ++ L) ∧ L[n + cells.length]? = some (.lst ((List.range cells.length).map fun k => D.ref (h.length + n + k))) ∧ ∀ k, k < cells.length → ∃ a b m : Int, L[n + k]? = some (.lst [.int a, .int b, .int m]) := by
  obtain ⟨cs, hcs, hlen⟩ : ∃ cs : List Int, fSl d none (some (most : Int)) h = .ok (.ref h.length) (h ++ [.lst (cs.map D.int)]) ∧ cs.length ≤ 1000 := by
    have hb : HT.sIx (ns.map D.int).length (ns.map D.int).length (some (most : Int)) ≤ most := by
      unfold HT.sIx
      simp only
      split <;> omega
    rcases sc with ⟨rfl, rfl⟩ | ⟨rfl, rfl⟩
    · refine ⟨(ns.drop (HT.sIx (ns.map D.int).length 0 none)).take (HT.sIx (ns.map D.int).length (ns.map D.int).length (some (most : Int)) - HT.sIx (ns.map D.int).length 0 none), ?_, ?_⟩
      · show R.ok _ _ = _
        unfold cutD
        rw [List.map_take, List.map_drop]
      · rw [List.length_take]
        omega
    · refine ⟨(ns.drop (HT.sIx (ns.map D.int).length 0 none)).take (HT.sIx (ns.map D.int).length (ns.map D.int).length (some (most : Int)) - HT.sIx (ns.map D.int).length 0 none), ?_, ?_⟩
      · show R.ok _ _ = _
        unfold cutD
        rw [List.map_take, List.map_drop]
      · rw [List.length_take]
        omega
  have q : ((h ++ [O.lst (cs.map D.int)]) ++ [O.lst []])[h.length]? = some (O.lst (cs.map D.int)) := by
    rw [List.getElem?_append_left (by simp), List.getElem?_append_right (Nat.le_refl _), Nat.sub_self]
    rfl
  have q2 : ((h ++ [O.lst (cs.map D.int)]) ++ [O.lst []])[(h ++ [O.lst (cs.map D.int)]).length]? = some (O.lst []) := by
    rw [List.getElem?_append_right (Nat.le_refl _), Nat.sub_self]
    rfl
  have eq := fEq_nil q q2
  have done : ∀ (L0 : List O) (cells : List Int) (r : Nat) (e1 e3 : Option D), (h ++ L0)[r]? = some (O.lst (cells.map D.int)) → cells.length ≤ 16777216 →
      b_rounds [some d, some (.int most), none, none] h = (sRet (mLc [3] (mItA (mVar 2)) (gN 3) tYesM (mCallF 1 f_dice (mCons (mVar 3) mNil)))) [some d, e1, some (.ref r), e3] (h ++ L0) →
      ∃ (L : List O) (cells : List Int) (n : Nat), n + cells.length + 1 = L.length ∧
        f_rounds [d, .int most] h = .ok (.ref (h.length + n + cells.length)) (h ++ L) ∧ L[n + cells.length]? = some (.lst ((List.range cells.length).map fun k => D.ref (h.length + n + k))) ∧ ∀ k, k < cells.length → ∃ a b m : Int, L[n + k]? = some (.lst [.int a, .int b, .int m]) := by
    intro L0 cells r e1 e3 er hl run
    obtain ⟨L, hL, h3, fin⟩ := rounds_fin d (h ++ L0) cells r e1 e3 er hl
    rw [fin] at run
    refine ⟨L0 ++ (L ++ [.lst ((List.range cells.length).map fun k => D.ref (h.length + L0.length + k))]), cells, L0.length, by simp [hL]; omega, ?_, ?_, fun k hk => ?_⟩
    · show (match b_rounds [some d, some (.int most), none, none] h with
        | .next _ h' => R.ok D.non h'
        | .ret d h' => .ok d h'
        | .exn x _ h' => .exn x h'
        | _ => .bad) = _
      rw [run]
      simp only [List.length_append, List.append_assoc]
    · rw [List.getElem?_append_right (by omega), show L0.length + cells.length - L0.length = L.length by omega, List.getElem?_append_right (Nat.le_refl _), Nat.sub_self]
      rfl
    · have hk2 : k < L.length := by omega
      rw [List.getElem?_append_right (by omega), show L0.length + k - L0.length = k by omega, List.getElem?_append_left hk2, List.getElem?_eq_getElem hk2]
      obtain ⟨a, b, m, e⟩ := h3 _ (List.getElem_mem hk2)
      exact ⟨a, b, m, by rw [e]⟩
  cases hc : cs with
  | nil =>
    subst hc
    refine done [.lst [], .lst [], .lst [.int 0]] [0] (h.length + 2) (some (.int most)) none ?_ (by decide) ?_
    · rw [List.getElem?_append_right (by omega), show h.length + 2 - h.length = 2 by omega]
      rfl
    · have hcs' : fSl d none (some (most : Int)) h = .ok (.ref h.length) (h ++ [O.lst []]) := hcs
      have eq' : fEq (.ref h.length) (.ref (h.length + 1)) (h ++ [O.lst [], O.lst []]) = .ok (.bl true) (h ++ [O.lst [], O.lst []]) := by
        have z := eq
        simp only [List.map_nil, List.length_append, List.length_cons, List.length_nil, List.append_assoc, List.cons_append, List.nil_append, Nat.zero_add] at z
        exact z
      simp [b_rounds, hcs', eq', -run_lc]
  | cons c cs' =>
    subst hc
    refine done [.lst ((c :: cs').map D.int), .lst []] (c :: cs') h.length (some (.int most)) none ?_ (by omega) ?_
    · rw [List.getElem?_append_right (Nat.le_refl _), Nat.sub_self]
      rfl
    · have eq' : fEq (.ref h.length) (.ref (h.length + 1)) (h ++ [O.lst ((c :: cs').map D.int), O.lst []]) = .ok (.bl false) (h ++ [O.lst ((c :: cs').map D.int), O.lst []]) := by
        have z := eq
        simp only [List.length_append, List.length_cons, List.length_nil, List.append_assoc, List.cons_append, List.nil_append, Nat.zero_add] at z
        exact z
      simp only [List.map_cons] at hcs eq' ⊢
      simp [b_rounds, hcs, eq', -run_lc]
def lawOf (most : Nat) (B : Ev → Hm → SR) : Ev → Hm → SR := sSeq (sFor (mItA (mCallF 2 f_rounds (mCons (mVar 0) (mCons (mC (.int (most : Int))) mNil)))) (gN 1) B) (sRet (mC (.bl true)))
/-- a round's body goes on, and leaves what is not its own -/
def RoundOk (N : Nat) (B : Ev → Hm → SR) : Prop := ∀ (d : D) (i : Nat) (rest : List (Option D)) (h : Hm), rest.length = N - 2 → IsDice h i → ∃ (rest' : List (Option D)) (h' : Hm), B (some d :: some (.ref i) :: rest) h = .next (some d :: some (.ref i) :: rest') h' ∧ rest'.length = N - 2 ∧ Fr i h h'
theorem rounds_loop {N : Nat} {B : Ev → Hm → SR} (hB : RoundOk N B) (d : D) (r : Nat) (all : List D) : ∀ (ks : List Nat) (e1 : Option D) (rest : List (Option D)) (h : Hm), rest.length = N - 2 → h[r]? = some (.lst all) → (∀ k ∈ ks, k ≠ r ∧ IsDice h k) → ks.Nodup →
    ∃ (env' : Ev) (h' : Hm), forL [(r, .lst all)] (gN 1) B (ks.map D.ref) (some d :: e1 :: rest) h = .next env' h'
  | [], e1, rest, h, hl, hr, hk, nd => by
    refine ⟨some d :: e1 :: rest, h, ?_⟩
    rw [List.map_nil]
    unfold forL
    rw [if_pos (by simp [gdOk, hr])]
  | k :: ks, e1, rest, h, hl, hr, hk, nd => by
    obtain ⟨nk, dk⟩ := hk k List.mem_cons_self
    obtain ⟨rest', h', run, hl', fr⟩ := hB d k rest h hl dk
    rw [List.nodup_cons] at nd
    obtain ⟨env2, h2, ih⟩ := rounds_loop hB d r all ks (some (.ref k)) rest' h' hl' (fr.get hr (Ne.symm nk)) (fun j hj => by
      obtain ⟨nj, a, b, m, dj⟩ := hk j (List.mem_cons_of_mem _ hj)
      exact ⟨nj, a, b, m, fr.get dj (fun z => nd.1 (z ▸ hj))⟩) nd.2
    refine ⟨env2, h2, ?_⟩
    rw [List.map_cons]
    unfold forL
    rw [if_pos (by simp [gdOk, hr])]
    simp only [run_gN, List.set_cons_succ, List.set_cons_zero, only_next, run]
    exact ih
theorem plain_rounds {N most n : Nat} {B : Ev → Hm → SR} (hN : 2 ≤ N) (hm : most ≤ 1000) (hB : RoundOk N B) : PlainLaw (callM N 1 (lawOf most B)) n := by
  intro ns d h _ sc
  obtain ⟨L, cells, m, hL, run, eL, ed⟩ := rounds_ok hm sc
  have hst : startE N [d] = some d :: none :: List.replicate (N - 2) none := by
    show some d :: List.replicate (N - 1) none = _
    rw [show N - 1 = (N - 2) + 1 by omega, List.replicate_succ]
  have er : (h ++ L)[h.length + m + cells.length]? = some (.lst ((List.range cells.length).map fun k => D.ref (h.length + m + k))) := by
    rw [List.getElem?_append_right (by omega), show h.length + m + cells.length - h.length = m + cells.length by omega]
    exact eL
  obtain ⟨env', h', loop⟩ := rounds_loop hB d (h.length + m + cells.length) ((List.range cells.length).map fun k => D.ref (h.length + m + k)) ((List.range cells.length).map fun k => h.length + m + k) none (List.replicate (N - 2) none) (h ++ L) (List.length_replicate ..) er (fun k hk => by
    obtain ⟨j, hj, rfl⟩ := List.mem_map.mp hk
    rw [List.mem_range] at hj
    obtain ⟨a, b, c, e⟩ := ed j hj
    refine ⟨by omega, a, b, c, ?_⟩
    rw [List.getElem?_append_right (by omega), show h.length + m + j - h.length = m + j by omega]
    exact e) (by
    refine List.nodup_iff_pairwise_ne.mpr ?_
    rw [List.pairwise_map]
    exact List.Pairwise.imp (fun hab => by omega) List.pairwise_lt_range)
  rw [List.map_map] at loop
  rw [show (fun k => D.ref (h.length + m + k)) = D.ref ∘ fun k => h.length + m + k from rfl] at loop
  refine ⟨h', ?_⟩
  have it : itL (h ++ L) (.ref (h.length + m + cells.length)) = some ((List.range cells.length).map fun k => D.ref (h.length + m + k), [(h.length + m + cells.length, .lst ((List.range cells.length).map fun k => D.ref (h.length + m + k)))]) := by
    show (match (h ++ L)[h.length + m + cells.length]? with
      | some (.lst ds) => some (ds, [(h.length + m + cells.length, O.lst ds)])
      | _ => none) = _
    rw [er]
  show (match lawOf most B (startE N [d]) h with
    | .next _ h' => R.ok D.non h'
    | .ret d h' => .ok d h'
    | .exn x _ h' => .exn x h'
    | _ => .bad) = _
  rw [hst]
  have v0 : mVar 0 (some d :: none :: List.replicate (N - 2) none) h = .ok d h := rfl
  simp only [lawOf, run_seq, run_for, run_itA, run_callF, run_lcons, run_lnil, run_C, v0, bind_ok, List.length_cons, List.length_nil, if_pos, run, it, oR, bindS_ok]
  rw [show (fun k => D.ref (h.length + m + k)) = D.ref ∘ fun k => h.length + m + k from rfl, loop]
  rfl
theorem fIx_int {h : Hm} {r : Nat} {ds : List D} {k : Int} {x : D} (e : h[r]? = some (.lst ds)) (hk : 0 ≤ k) (e2 : ds[k.toNat]? = some x) : fIx (.ref r) (.int k) h = .ok x h := by
  have := fIx_lst (j := k.toNat) e e2
  rwa [Int.toNat_of_nonneg hk] at this
theorem fSet_int {h : Hm} {r : Nat} {ds : List D} {k : Int} {y : D} (e : h[r]? = some (.lst ds)) (hk : 0 ≤ k) (hj : k.toNat < ds.length) : fSet (.ref r) (.int k) y h = some (h.set r (.lst (ds.set k.toNat y))) := by
  have := fSet_lst (y := y) e hj
  rwa [Int.toNat_of_nonneg hk] at this
section
variable {h : Hm} {r : Nat} {ds es : List D} {x y : D}
theorem isL_ok (e : h[r]? = some (.lst ds)) : isL h (.ref r) = true := by
  show (match h[r]? with
    | some (.lst _) => true
    | _ => false) = true
  rw [e]
theorem fAppend_ok (e : h[r]? = some (.lst ds)) (hl : ds.length < 16777216) : fAppend (.ref r) [y] h = .ok .non (h.set r (.lst (ds ++ [y]))) := by
  unfold fAppend
  simp only [e, if_pos hl]
theorem fLen_lst (e : h[r]? = some (.lst ds)) : fLen [.ref r] h = .ok (.int (ds.length : Int)) h := by
  unfold fLen
  simp only [lenD, e]
theorem itL_lst (e : h[r]? = some (.lst ds)) : itL h (.ref r) = some (ds, [(r, .lst ds)]) := by
  show (match h[r]? with
    | some (.lst ds) => some (ds, [(r, O.lst ds)])
    | _ => none) = _
  rw [e]
theorem fList_lst (e : h[r]? = some (.lst ds)) : fList [.ref r] h = .ok (.ref h.length) (h ++ [.lst ds]) := by
  unfold fList
  simp only [itemsD, e]
theorem fTuple_lst (e : h[r]? = some (.lst ds)) : fTuple [.ref r] h = .ok (.tup ds) h := by
  unfold fTuple
  simp only [itemsD, e]
end
def lcTurn (g : Gt) (t : Ev → Hm → R Bool) (e : Ev → Hm → R D) (env : Ev) (d : D) (h : Hm) : R (Option D) := match g d env h with
  | .next e1 h1 => (match t e1 h1 with
    | .ok true h2 => (match e e1 h2 with
      | .ok y h3 => .ok (some y) h3
      | _ => .bad)
    | .ok false h2 => .ok none h2
    | _ => .bad)
  | _ => .bad
def consO (o : Option D) (r : R (List D)) : R (List D) := match o with
  | some y => (match r with
    | .ok ys h4 => .ok (y :: ys) h4
    | _ => .bad)
  | none => r
theorem lcL_cons {gs : List (Nat × O)} {g : Gt} {t : Ev → Hm → R Bool} {e : Ev → Hm → R D} {env : Ev} {d : D} {ds : List D} {h h1 : Hm} {o : Option D} (hg : gdOk gs h = true) (e1 : lcTurn g t e env d h = .ok o h1) : lcL gs g t e env (d :: ds) h = consO o (lcL gs g t e env ds h1) := by
  unfold lcTurn at e1
  rw [lcL, if_pos hg]
  split at e1
  · rename_i e2 h2 q
    try rw [q]
    try simp only
    split at e1
    · rename_i h3 q2
      try rw [q2]
      try simp only
      split at e1
      · rename_i y h4 q3
        try rw [q3]
        cases e1
        rfl
      · cases e1
    · rename_i h3 q2
      try rw [q2]
      cases e1
      rfl
    · cases e1
  · cases e1
theorem lcL_pure {gs : List (Nat × O)} {g : Gt} {t : Ev → Hm → R Bool} {e : Ev → Hm → R D} {env : Ev} {h : Hm} (hg : gdOk gs h = true) {α : Type} (f : α → D) (y : α → Option D) : ∀ (xs : List α), (∀ a ∈ xs, lcTurn g t e env (f a) h = .ok (y a) h) → lcL gs g t e env (xs.map f) h = .ok (xs.filterMap y) h
  | [], _ => by simp [lcL, hg]
  | a :: xs, H => by
    have ih := lcL_pure hg f y xs fun b hb => H b (List.mem_cons_of_mem _ hb)
    rw [List.map_cons, lcL_cons hg (H a List.mem_cons_self), ih]
    cases q : y a with
    | none => rw [List.filterMap_cons_none q] <;> rfl
    | some z => rw [List.filterMap_cons_some q] <;> rfl
/-- [roll(dice, many) for t in ..] -/
theorem rolls_lc {i t : Nat} {many : Int} {env : Ev} (ht : t ≠ 1) (he : env[1]? = some (some (.ref i))) (m1 : 0 < many) (m2 : many < 1073741824) : ∀ (ds : List D) (h : Hm), IsDice h i → ∃ (vs : List Int) (h' : Hm), lcL [] (gN t) tYesM (mCallF 2 f_roll (mCons (mVar 1) (mCons (mC (.int many)) mNil))) env ds h = .ok (vs.map D.int) h' ∧ (∀ v ∈ vs, 0 ≤ v ∧ v < many) ∧ vs.length = ds.length ∧ IsDice h' i ∧ h'.length = h.length ∧ Fr i h h'
  | [], h, di => ⟨[], h, by simp [lcL, gdOk], fun v hv => (by cases hv), rfl, di, rfl, Fr.refl⟩
  | d :: ds, h, di => by
    obtain ⟨v, h1, v1, v2, run, d1, l1, f1⟩ := roll_fr di m1 m2
    obtain ⟨vs, h2, run2, b2, len2, d2, l2, f2⟩ := rolls_lc ht he m1 m2 ds h1 d1
    refine ⟨v :: vs, h2, ?_, fun u hu => ?_, by rw [List.length_cons, List.length_cons, len2], d2, l2.trans l1, f1.trans f2⟩
    · have e2 : (env.set t (some d))[1]? = some (some (.ref i)) := by rw [List.getElem?_set_ne ht]; exact he
      have tn : lcTurn (gN t) tYesM (mCallF 2 f_roll (mCons (mVar 1) (mCons (mC (.int many)) mNil))) env d h = .ok (some (.int v)) h1 := by
        simp [lcTurn, e2, run]
      rw [lcL_cons (by simp [gdOk]) tn, run2]
      rfl
    · rcases List.mem_cons.mp hu with rfl | hu
      · exact ⟨v1, v2⟩
      · exact b2 u hu
theorem sm62_of {v : Int} (h1 : 0 ≤ v) (h2 : v < 1000000000) : sm62 v = true := by
  unfold sm62
  rw [decide_eq_true_eq]
  omega
theorem rng1_nat (n : Nat) : rng1 0 n = (List.range n).map fun k : Nat => D.int (0 + (k : Int)) := rfl
theorem keep_app {h g : Hm} {r : Nat} {o : O} (e : h[r]? = some o) : (h ++ g)[r]? = some o := by
  rw [List.getElem?_append_left (List.getElem?_eq_some_iff.mp e).1]
  exact e
theorem IsDice.app {h g : Hm} {i : Nat} (d : IsDice h i) : IsDice (h ++ g) i := by
  obtain ⟨a, b, m, e⟩ := d
  exact ⟨a, b, m, keep_app e⟩
theorem IsDice.set {h : Hm} {i n : Nat} {o : O} (d : IsDice h i) (ne : n ≠ i) : IsDice (h.set n o) i := by
  obtain ⟨a, b, m, e⟩ := d
  exact ⟨a, b, m, by rw [List.getElem?_set_ne ne]; exact e⟩
theorem IsDice.lt {h : Hm} {i : Nat} (d : IsDice h i) : i < h.length := by
  obtain ⟨a, b, m, e⟩ := d
  exact (List.getElem?_eq_some_iff.mp e).1
theorem get_new {h : Hm} {o : O} : (h ++ [o])[h.length]? = some o := by
  rw [List.getElem?_append_right (Nat.le_refl _), Nat.sub_self]
  rfl
theorem seq_next {sa sb : Ev → Hm → SR} {env e1 : Ev} {h h1 : Hm} {r : SR} (a : sa env h = .next e1 h1) (b : sb e1 h1 = r) : sSeq sa sb env h = r := by
  rw [run_seq, a]
  exact b
theorem fSl_lst {h : Hm} {r : Nat} {ds : List D} (e : h[r]? = some (.lst ds)) (lo hi : Option Int) : fSl (.ref r) lo hi h = .ok (.ref h.length) (h ++ [.lst (cutD ds lo hi)]) := by
  unfold fSl
  simp only [e]
theorem lim_lt {n : Nat} (h : n ≤ 1000) : n < 16777216 := Nat.lt_of_le_of_lt h (by decide)
theorem lc_a {vs : List Nat} {m : Ev → Hm → R Itr} {g : Gt} {t : Ev → Hm → R Bool} {e : Ev → Hm → R D} {env : Ev} {h h1 h2 : Hm} {it : Itr} {ys : List D} (a : m env h = .ok it h1) (hl : it.1.length ≤ 16777216) (b : lcL it.2 g t e (wipeE env vs) it.1 h1 = .ok ys h2) : mLc vs m g t e env h = .ok (.ref h2.length) (h2 ++ [.lst ys]) := by
  rw [run_lc, a, bind_ok, if_pos hl, b]
theorem lim_le {n : Nat} (h : n ≤ 1000) : n ≤ 16777216 := Nat.le_trans h (by decide)
/-- a comprehension's run, put together -/
theorem lc_run {vs : List Nat} {m : Ev → Hm → R Itr} {g : Gt} {t : Ev → Hm → R Bool} {e : Ev → Hm → R D} {env : Ev} {h h1 h2 : Hm} {it : Itr} {ds ys : List D} {gs : List (Nat × O)} (a : m env h = .ok it h1) (hl : ds.length ≤ 1000) (b : lcL gs g t e (wipeE env vs) ds h1 = .ok ys h2) (e1 : it.1 = ds := by rfl) (e2 : it.2 = gs := by rfl) : mLc vs m g t e env h = .ok (.ref h2.length) (h2 ++ [.lst ys]) :=
  lc_a a (lim_le (by rw [e1]; exact hl)) (by rw [e1, e2]; exact b)
theorem rg1_runv {r : Ev → Hm → R (List D)} {env : Ev} {h h1 : Hm} {v : Int} (a : r env h = .ok [.int v] h1) (s : sm62 v = true) : mRg1 r env h = .ok (rng1 0 v.toNat, []) h1 := by
  rw [run_rg1, a, bind_ok]
  exact if_pos s
theorem rg1_run {r : Ev → Hm → R (List D)} {env : Ev} {h h1 : Hm} {n : Nat} (a : r env h = .ok [.int (n : Int)] h1) (hn : n ≤ 1000) : mRg1 r env h = .ok ((List.range n).map (fun k : Nat => D.int (0 + (k : Int))), []) h1 := by
  have q : ∀ v : Int, v = (n : Int) → r env h = .ok [.int v] h1 → mRg1 r env h = .ok ((List.range n).map (fun k : Nat => D.int (0 + (k : Int))), []) h1 := fun v e a => by
    have s : sm62 v = true := sm62_of (by omega) (by omega)
    have t : v.toNat = n := by omega
    rw [rg1_runv a s, t, rng1_nat]
  exact q _ rfl a
theorem asg_run {i : Nat} {m : Ev → Hm → R D} {env : Ev} {h h1 : Hm} {d : D} (a : m env h = .ok d h1) : sAsg (gN i) m env h = .next (env.set i (some d)) h1 := by
  rw [run_asg, a]
  rfl
/-- one turn of a loop that goes on -/
theorem forL_next {gs : List (Nat × O)} {g : Gt} {b : Ev → Hm → SR} {d : D} {ds : List D} {env e1 e2 : Ev} {h h1 h2 : Hm} {r : SR} (hg : gdOk gs h = true) (a : g d env h = .next e1 h1) (w : b e1 h1 = .next e2 h2) (k : forL gs g b ds e2 h2 = r) : forL gs g b (d :: ds) env h = r := by
  rw [forL, if_pos hg, a, only_next]
  simp only
  rw [w]
  exact k
theorem forL_nil {gs : List (Nat × O)} {g : Gt} {b : Ev → Hm → SR} {env : Ev} {h : Hm} (hg : gdOk gs h = true) : forL gs g b [] env h = .next env h := by
  rw [forL, if_pos hg]
theorem gdOk_nil {h : Hm} : gdOk [] h = true := rfl
theorem gdOk_one {h : Hm} {r : Nat} {o : O} (e : h[r]? = some o) : gdOk [(r, o)] h = true := by
  simp [gdOk, e]
end MM
namespace MM
open PySem L2
def tellL : List (Str × Str) → Str → Option Str
  | [], _ => none
  | (c, t) :: r, x => if x = c then some t else tellL r x
def mTold (cs : List (Str × Str)) (m : Ev → Hm → R D) : Ev → Hm → R D := fun env h => match m env h with
  | .exn x h1 => match tellL cs x.cls with
    | some t => .ok (.str t) h1
    | none => .bad
  | r => r
/-- what the clauses wish -/
def chainW (K : PySem.W.Frag) (Q : VK) : List (Value × Str) → Value → Hp → Prop
  | [], _, _ => False
  | (c, t) :: r, cls, H => ∃ b, PySem.W.exmOne K cls c = some b ∧ (b = true → Q (.str t) H) ∧ (b = false → chainW K Q r cls H)
def TToldM (K : PySem.W.Frag) (l : List (Value × Str)) : (XK → Hp → VK → Prop) → Hp → VK → Prop := fun tl H Q => tl (fun cls _ H' => chainW K Q l cls H') H Q
inductive Hds (mg : Str → Option Value) (sg : Scope) : List ExceptHandler → List (Value × Str) → Prop
  | nil : Hds mg sg [] []
  | cons {e ret : Str} {j : Nat} {p4 p5 p6 p7 : Pos} {CS : Addr} {hds : List ExceptHandler} {l : List (Value × Str)} (hge : sg.names.lookup e = some .globalImplicit) (hme : mg e = some (.ref CS)) (hde : (e == ("__debug__" : Str)) = false) (r : Hds mg sg hds l) :
      Hds mg sg (.ExceptHandler (some (.Name e p4)) none [.Return (some (.Constant (.str ret) j p5)) p6] p7 :: hds) ((.ref CS, ret) :: l)
def retT (ret : Str) : TS := fun D _ H => D.rt (.str ret) H
def hdsT (l : List (Value × Str)) : List (Value × (Addr → Value → Option Addr → TS)) := l.map fun p => (p.1, fun _ _ _ => retT p.2)
theorem hds_ok {X : Cx} {sg : Scope} (hs : X.env.scope = sg) {hds : List ExceptHandler} {l : List (Value × Str)} (h : Hds X.mg sg hds l) : HdsOk X hds (hdsT l) := by
  induction h with
  | nil => exact .nil
  | cons hge hme hde r ih =>
    refine HdsOk.cons ⟨?_, hde, .inl hme⟩ (fun a oe cls d pn _ _ => PSs.of (pss_one (ps_ret pe_str)) fun D σ H h => h) ih
    show X.env.scope.names.lookup _ = _
    rw [hs]
    exact hge
theorem wMany_of {K : PySem.W.Frag} {Wout : WX} {D : Ends} {cls : Value} {d : Option Addr} {σ : L2.St} {H : Hp} : ∀ {l : List (Value × Str)}, chainW K D.rt l cls H → wMany K Wout D (hdsT l) cls d σ H
  | [], h => h.elim
  | (c, t) :: r, ⟨b, e1, e2, e3⟩ => ⟨b, e1, fun hb _ _ => e2 hb, fun hb => wMany_of (e3 hb)⟩
theorem toldM_gives {X : Cx} {Ng : List Str} {x a q : Str} {sg : Scope} {g : Addr} {cdg : Value} {h₀ : ExceptHandler} {hds : List ExceptHandler} {l : List (Value × Str)} {p1 p2 p3 p8 : Pos} (hd : Hds X.mg sg (h₀ :: hds) l) (h0 : ∀ f : Addr, (L2.start Ng [V.ref f])[0]? = some (some (V.ref f))) :
    LamX.GivesTo X Ng x sg g cdg [.Try [.Return (some (.Call (.Name a p1) [] [] p2)) p3] (h₀ :: hds) [] [] p8] a q (TToldM X.K l) := by
  intro f c' s H Q tl act hc h
  refine ⟨_, pss_one (ps_try_many (X := (cxOf C8.CX0 X.prog X.w X.K X.mg X.base Ng x sg g cdg X.A X.stack s H C8.E0).nox)
      (tb := fun W D σ H => ∃ Ech : XK, (∀ cls d σ' H', Ech cls d H' → W cls d σ' H') ∧ σ[0]? = some (some (.ref f)) ∧ H c' = some (LamX.CodeO c' q) ∧ tl Ech H D.rt)
      rfl rfl LamX.takes0 (fun W pn xe tk _ => ?_) (hds_ok rfl hd)), ?_⟩
  · refine ⟨fun pins s' σ H' D I h' => ?_⟩
    obtain ⟨Ech, hW, h1, h2, h3⟩ := h'
    have hp := act W pn xe Ech p1 p2 tk hW
    have hq := pss_one (ps_ret (pos := p3) hp)
    exact hq.run pins s' σ H' D I ⟨h1, h2, h3⟩
  · exact ⟨fun cls _ H' => chainW X.K Q l cls H', fun cls d σ' H' z => wMany_of z, h0 f, hc, h⟩
/-- the def that tells -/
def ToldOk (K : PySem.W.Frag) (mg : Str → Option Value) (x : Str) (g : Addr) (cs : List (Str × Str)) : Prop :=
  ∃ (a : Str) (pg : Arguments) (p1 p2 p3 p8 : Pos) (h₀ : ExceptHandler) (hds : List ExceptHandler) (sg : Scope) (Ng : List Str) (l : List (Value × Str)) (fd : FuncData),
    FunD K x x pg [.Try [.Return (some (.Call (.Name a p1) [] [] p2)) p3] (h₀ :: hds) [] [] p8] sg [] [] g fd ∧ Binds K fd [a] [] ∧ FnScope Ng [a] sg ∧ Ng[0]? = some a ∧ Vis sg a ∧ Hds mg sg (h₀ :: hds) l ∧ (∀ f : Addr, (L2.start Ng [V.ref f])[0]? = some (some (V.ref f))) ∧
    (∀ c t, tellL cs c = some t → ∀ C, mg c = some (.ref C) → ∀ (Q : VK) (H : Hp), Q (.str t) H → chainW K Q l (.ref C) H) ∧ (a == ("__debug__" : Str)) = false ∧ (a == ("__classdict__" : Str)) = false
/-- the heap goes on, the tables have grown -/
theorem step_extN {G : Gx} {π : List Addr} {H H1 : Hp} {h : Hm} (e : LamX.ExtN H H1) : Step π H π H1 := ⟨⟨[], by simp⟩, fun _ _ _ q _ => q, fun a o h1 _ t => e a o h1 t, fun a o u h1 => e a _ h1 fun ps z => by cases z⟩
theorem Good.extN {G : Gx} {π : List Addr} {H H1 : Hp} {h : Hm} (g : Good G π h H) (e : LamX.ExtN H H1) (t : LamX.Tabs G.T H1) : Good G π h H1 := by
  refine ⟨g.len, g.nd, fun i a o e1 e2 => ?_, t, g.tout⟩
  have w := g.ob i a o e1 e2
  refine w.step (step_extN (G := G) (h := h) e) ?_
  cases o with
  | lst ds => obtain ⟨xs, z, _⟩ := w; rw [z]; exact e _ _ z (fun ps z => by cases z)
  | dic ds => obtain ⟨xs, z, _⟩ := w; rw [z]; exact e _ _ z (fun ps z => by cases z)
  | dicL ds => obtain ⟨o, xs, z, _⟩ := w; rw [z]; exact e _ _ z (fun ps z => by cases z)
  | ins c fs => obtain ⟨C, dx, xs, _, z, _⟩ := w; rw [z]; exact e _ _ z (fun ps z => by cases z)
section
variable {X : Cx} {T : List (Addr × Str)} {W : WX} {c P g : Addr} {x : Str} {cs : List (Str × Str)} {params : Arguments} {body : Expr} {scope : Scope} {p lpos pos : Pos} {k kx : Nat} {m : Ev → Hm → R D}
theorem em_told (hT : ToldOk X.K X.mg x g cs) (hg : Gl X x) (hm : X.mg x = some (.ref g)) (TB : LamX.TabB X.base X.mg c P) (hcode : X.env.code = .ref c) (hmT : (P, X.env.qual ++ "<lambda>") ∈ T) (hu : ∀ p ∈ T, p.1 = P → p.2 = X.env.qual ++ "<lambda>") (hr : Room kx X.A) (hk : k + 2 ≤ kx)
    (hbody : ∀ (A : Around) (outer : List Env) (s : Shared) (H : Hp) (E : XK) (f c' : Addr), Room k (LamX.lamCx X A outer s H E scope f c').A → Takes (LamX.lamCx X A outer s H E scope f c') (fun cls d _ H' => E cls d H') → Em (LamX.lamCx X A outer s H E scope f c') T (fun cls d _ H' => E cls d H') body m)
    (L : LamX.LamS X.env.scope scope := by exact LamX.lamS_by rfl) (hdef : defaultsOf params X.env = ([], []) := by rfl)
    (hbind : ∀ (q : Str) (cl : List (Str × Addr)) (pm cv ctv : Value), bindArgs (PySem.W.kla_fn "<lambda>" q params body scope cl pm cv ctv) ⟨[], []⟩ = pure [] := by intros; rfl)
    (hdb : (x == ("__debug__" : Str)) = false := by decide) : Em X T W (.Call (.Name x p) [.Lambda params body scope lpos] [] pos) (mTold cs m) := by
  obtain ⟨a, pg, p1, p2, p3, p8, h₀, hds, sg, Ng, l, fd, F, hb, Sg, hNg, hva, hd, h0, hcs, hd1, hd2⟩ := hT
  obtain ⟨oc, od, dV, kV, doc, pm, an, cdv, ct, osl, rfl, lk, hcd, _, _⟩ := F.ex
  refine PE.of (LamX.pe_lamcall (t := fun E => tE (gx X T) (fun cls d _ H' => E cls d H') m) hg hm F.kp lk hcd hb Sg hNg hva (toldM_gives hd h0) TB hcode hmT hu (hr.mono hk) L hdef hbind (fun A outer s H E f c' hr2 => hbody A outer s H E f c' hr2 (takes_of rfl rfl rfl rfl)) hdb hd1 hd2) fun σ H Q ⟨π, env, h, s, q⟩ => ⟨s.good.tabs, fun H1 eN T1 => ?_⟩
  have st : Step π H π H1 := step_extN (G := gx X T) (h := h) eN
  refine ⟨π, env, h, ⟨s.good.extN eN T1, s.env.step st⟩, ?_⟩
  unfold mTold at q
  generalize m env h = r at q ⊢
  cases r with
  | ok d h' => exact fun π' H' s' g' => q π' H' (st.trans s') g'
  | exn y h' =>
    simp only at q
    cases ht : tellL cs y.cls with
    | none => rw [ht] at q; exact q.elim
    | some t =>
      rw [ht] at q
      intro π' H' cls d s' g' e
      obtain ⟨C, hC, rfl, _⟩ := e
      exact hcs _ _ ht C hC Q H' (q π' H' (st.trans s') g' _ rfl)
  | bad => exact q.elim
end
section
variable {P : Program} {w : World} {K : PySem.W.Frag} {mg : Str → Option Value} {base : Heap} {T : List (Addr × Str)}
theorem def_okT {x qual : Str} {params : Arguments} {body : List Stmt} {scope : Scope} {p : He.Defn} {fd : FuncData} {N ps : List Str} {k : Nat} {m : Ev → Hm → SR} (F : FunD K x qual params body scope [] [] (He.fAd K p) fd) (S : FnScope N ps scope)
    (hbody : ∀ (cdv : Value) (hcd : cdv = .ref (He.cT K p).1) (A : Around) (outer : List Env) (s : Shared) (H : Hp) (E : XK), Room k (cxOf (L2.CX P w) P w K mg base N qual scope (He.fAd K p) cdv A outer s H E).A → Takes (cxOf (L2.CX P w) P w K mg base N qual scope (He.fAd K p) cdv A outer s H E) (fun cls d _ H' => E cls d H') →
      PassesOwn (model P w) (cxOf (L2.CX P w) P w K mg base N qual scope (He.fAd K p) cdv A outer s H E).A (cxOf (L2.CX P w) P w K mg base N qual scope (He.fAd K p) cdv A outer s H E).env (cxOf (L2.CX P w) P w K mg base N qual scope (He.fAd K p) cdv A outer s H E).xe →
      Ssm (cxOf (L2.CX P w) P w K mg base N qual scope (He.fAd K p) cdv A outer s H E) T (fun cls d _ H' => E cls d H') body m) :
    FnOk P w K mg base (L2.CX P w) (k + 1) (He.fAd K p) fd ps (spM ⟨K, mg, T⟩ (callM N.length ps.length m) ps.length) := by
  obtain ⟨oc, od, dV, kV, doc, pm, an, cdv, ct, osl, rfl, lk, hcd, _, _⟩ := F.ex
  obtain ⟨cc, rfl⟩ := He.codeIn_ref hcd
  refine fn_of lk hcd S (fun vs H Q E ⟨π, h, ds, g, q, hl, _⟩ => by rw [q.len]; exact hl) fun A outer s H vs Q E hr ⟨π, h, ds, g, q, hl, p⟩ => ⟨_, hbody _ ?_ A outer s H E hr (takes_of rfl rfl rfl rfl) (passes_of rfl), ?_⟩
  · exact congrArg Value.ref (He.codeOf_eq lk rfl).symm
  · exact ⟨π, startE N.length ds, h, ⟨g, envOk_start q⟩, postS_fn p⟩
/-- the tables' addresses and names -/
def tabT (K : PySem.W.Frag) (tf : List (He.Defn × Str)) : List (Addr × Str) := tf.map fun p => ((He.cT K p.1).2, p.2)
def tabNd (K : PySem.W.Frag) (tf : List (He.Defn × Str)) : Bool := decide ((tf.map fun p => (He.cT K p.1).2).Nodup)
theorem tab_mem {tf : List (He.Defn × Str)} {p : He.Defn × Str} (h : p ∈ tf) : ((He.cT K p.1).2, p.2) ∈ tabT K tf := List.mem_map.mpr ⟨p, h, rfl⟩
theorem tab_uniq {tf : List (He.Defn × Str)} (nd : tabNd K tf = true) {p : He.Defn × Str} (h : p ∈ tf) : ∀ q ∈ tabT K tf, q.1 = (He.cT K p.1).2 → q.2 = p.2 := fun q hq e => by
  obtain ⟨r, hr, rfl⟩ := List.mem_map.mp hq
  have nd' := of_decide_eq_true nd
  obtain ⟨i, hi, e1⟩ := List.mem_iff_getElem.mp h
  obtain ⟨j, hj, e2⟩ := List.mem_iff_getElem.mp hr
  have e3 : (tf.map fun p => (He.cT K p.1).2)[j]? = some (He.cT K p.1).2 := by
    rw [List.getElem?_map, List.getElem?_eq_getElem hj, e2]
    exact congrArg some e
  have e4 : (tf.map fun p => (He.cT K p.1).2)[i]? = some (He.cT K p.1).2 := by
    rw [List.getElem?_map, List.getElem?_eq_getElem hi, e1] <;> rfl
  have := nodup_ix' nd' e3 e4
  subst this
  rw [e1] at e2
  rw [← e2]
/-- the law with tables -/
theorem sp_lawT {G : Gx} {f : Fc} {n : Nat} (pl : PlainLaw f n) {ns : List Int} {a : Addr} {H : Hp} (hT : ∀ p ∈ G.T, H p.1 = some (.tbl #[])) (hl : ns.length ≤ n) (hS : SqL G.K H a (ns.map V.int)) : spM G f 1 [.ref a] H (fun v _ => v = .bl true) fun _ _ _ => False := by
  have go : ∀ π d h, Good G π h H → DV G.K π H d (.ref a) → Scr ns d h → spM G f 1 [.ref a] H (fun v _ => v = .bl true) fun _ _ _ => False := fun π d h g dv sc => by
    obtain ⟨h', e⟩ := pl ns d h hl sc
    refine ⟨π, h, [d], g, ⟨_, _, rfl, dv, rfl⟩, rfl, ?_⟩
    rw [e]
    intro π' H' s g' v e'
    exact e'
  have tb : LamX.Tabs G.T H := fun p hp => LamX.TabS.nil (hT p hp)
  have g0 : Good G [] [] H := ⟨rfl, List.nodup_nil, fun i a o e => (by cases e), tb, fun p hp => by simp⟩
  have g1 : H a = some (.lst (ns.map V.int)) → Good G [a] [.lst (ns.map D.int)] H := fun e => by
    refine ⟨rfl, by simp, fun i b o e1 e2 => ?_, tb, fun p hp m => ?_⟩
    · cases i with
      | zero =>
        cases e1
        cases e2
        exact ⟨_, e, DVs.ofInts⟩
      | succ i => cases e1
    · rw [List.mem_singleton] at m
      have := hT p hp
      rw [m, e] at this
      cases this
  rcases hS with (h | ⟨o, h⟩) | h
  · exact go [a] (.ref 0) [.lst (ns.map D.int)] (g1 h) ⟨a, rfl, rfl⟩ (.inr ⟨rfl, rfl⟩)
  · exact go [] (.rol (ns.map D.int)) [] g0 ⟨a, _, rfl, .inl ⟨o, h, by simp⟩, DVs.ofInts⟩ (.inl ⟨rfl, rfl⟩)
  · exact go [] (.rol (ns.map D.int)) [] g0 ⟨a, _, rfl, .inr h, DVs.ofInts⟩ (.inl ⟨rfl, rfl⟩)
theorem lawAtT {l : PySem.W.OpenLaw} {w : World} {K : PySem.W.Frag} {k n : Nat} {mg : Str → Option Value} {fa : Addr} {h : Heap} {f : Fc} {x qual : Str} {params : Arguments} {body : List Stmt} {scope : Scope} {fd : FuncData} {tf : List (He.Defn × Str)}
    (KX : K.In h) (hd : ∀ p ∈ tf.map (·.1), PySem.W.codeHdIn K (He.cT K p).1 (He.cT K p).2 = true) (out : ∀ p ∈ tf.map (·.1), K.lookup (He.cT K p).2 = none) (empty : ∀ p ∈ tf.map (·.1), h.get? (He.cT K p).2 = some { cls := .none, data := .fields #[] })
    (F : FunD K x qual params body scope [] [] fa fd) (hb : ∀ (kV doc pm : Value) (an : Option Addr) (cdv ct : Value) (us : List Value), us.length = (["script"] : List Str).length → bindArgs (PySem.W.fnOf x qual params body scope .none kV doc pm an cdv ct) ⟨us, []⟩ = pure ((["script"] : List Str).zip us))
    (pl : PlainLaw f n) (ok : ∀ base : Heap, K.In base → base.Ns mainGlobals mg → (∀ p ∈ tf, LamX.TabB base mg (He.cT K p.1).1 (He.cT K p.1).2) → FnOk l.prog w K mg base (L2.CX l.prog w) k fa fd ["script"] (spM ⟨K, mg, tabT K tf⟩ f 1)) : LamX.LawAtS l w K (L2.CX l.prog w) k n "script" mg fa h := by
  have b := FunD.bindsA (ps := ["script"]) F hb
  refine ⟨fd, tf.map fun p => He.cT K p.1, spM ⟨K, mg, tabT K tf⟩ f 1, fun p hp => ?_, fun p hp => ?_, fun p hp => ?_, fun s v => b s [v] rfl, fun H a ns hl _ hT hS => sp_lawT pl (fun p hp => ?_) hl hS, fun base h1 h2 h3 => ok base h1 h2 fun p hp => h3 _ (List.mem_map.mpr ⟨p, hp, rfl⟩)⟩
  · obtain ⟨q, hq, rfl⟩ := List.mem_map.mp hp
    exact empty _ (List.mem_map.mpr ⟨q, hq, rfl⟩)
  · obtain ⟨q, hq, rfl⟩ := List.mem_map.mp hp
    exact out _ (List.mem_map.mpr ⟨q, hq, rfl⟩)
  · obtain ⟨q, hq, rfl⟩ := List.mem_map.mp hp
    exact PySem.W.codeHd_of_K KX (hd _ (List.mem_map.mpr ⟨q, hq, rfl⟩))
  · obtain ⟨q, hq, rfl⟩ := List.mem_map.mp hp
    exact hT _ (List.mem_map.mpr ⟨q, hq, rfl⟩)
end
def tyN (h : Hm) : D → Option String
  | .non => some "NoneType"
  | .bl _ => some "bool"
  | .int _ => some "int"
  | .str _ => some "str"
  | .tup _ => some "tuple"
  | .rol _ => some "list"
  | .ref i => match h[i]? with
    | some (.lst _) => some "list"
    | some (.dic _) => some "dict"
    | _ => none
theorem tyN_ok {G : Gx} {π : List Addr} {h : Hm} {H : Hp} (g : Good G π h H) {d : D} {x : V} {t : String} (dx : DV G.K π H d x) (e : tyN h d = some t) : TyX G.K H x (.type t) := by
  cases d with
  | non => obtain rfl := (show x = _ from dx); cases e; exact .base .non
  | bl b => obtain rfl := (show x = _ from dx); cases e; exact .base (.bl b)
  | int b => obtain rfl := (show x = _ from dx); cases e; exact .base (.int b)
  | str b => obtain rfl := (show x = _ from dx); cases e; exact .base (.str b)
  | tup ds =>
    obtain ⟨a, xs, rfl, t, q⟩ := dx
    cases e
    rcases t with ⟨t, _⟩ | ⟨o, its, n, e1, e2, _⟩
    · exact .base (.tup t)
    · exact .kTuple e1 e2
  | rol ds =>
    obtain ⟨a, xs, rfl, t, q⟩ := dx
    cases e
    rcases t with ⟨o, t, _⟩ | ⟨o, its, n, e1, e2, _⟩
    · exact .base (.frz t)
    · exact .kList e1 e2
  | ref i =>
    obtain ⟨a, qa, rfl⟩ := dx
    have e' : (match h[i]? with
      | some (.lst _) => some "list"
      | some (.dic _) => some "dict"
      | _ => none) = some t := e
    split at e'
    · rename_i ds e0
      obtain ⟨xs, ha, ds'⟩ := g.lst e0 qa
      cases e'
      exact .base (.lst ha)
    · rename_i kvs e0
      obtain ⟨xs, ha, ds'⟩ := g.obj e0 qa
      cases e'
      exact .base (.dK ha)
    · cases e'
def isB (t n : String) : Bool := decide (t = n) || (decide (t = "bool") && decide (n = "int"))
def fIsi (n : String) (d : D) (h : Hm) : R D := match tyN h d with
  | some t => .ok (.bl (isB t n)) h
  | none => .bad
def mIsi (n : String) (m : Ev → Hm → R D) : Ev → Hm → R D := fun env h => (m env h).bind (fIsi n)
def kitAll (n : String) : Bool := ["NoneType", "bool", "int", "str", "tuple", "list", "dict"].all fun t => decide (kitB t n = some (isB t n))
theorem tyN_in {h : Hm} {d : D} {t : String} (e : tyN h d = some t) : t ∈ ["NoneType", "bool", "int", "str", "tuple", "list", "dict"] := by
  cases d with
  | ref i =>
    have e' : (match h[i]? with
      | some (.lst _) => some "list"
      | some (.dic _) => some "dict"
      | _ => none) = some t := e
    split at e' <;> cases e' <;> simp
  | _ => cases e; simp
theorem em_isi (n : String) {X : Cx} {T : List (Addr × Str)} {W : WX} {e : Expr} {me : Ev → Hm → R D} {c : Str} {pc pp pos : Pos} (hk : kitAll n = true) (hg : Gl X "isinstance") (hm : X.mg "isinstance" = none) (hgc : Gl X c) (hmc : X.mg c = none) (hvc : bootBuiltins c = some (.type n)) (ha : Em X T W e me)
    (hn : c ≠ "__name__" := by decide) (hdb : (c == ("__debug__" : Str)) = false := by decide)
    (he : starEach [e, .Name c pc] X.env = (false, eval e X.env) :: starEach [.Name c pc] X.env := by rfl) : Em X T W (.Call (.Name "isinstance" pp) [e, .Name c pc] [] pos) (mIsi n me) :=
  PE.of (pe_callB call_isi hg hm rfl (pa_cons ha (pa_cons (pe_bltn hgc hmc hvc (v := .ty n) rfl hn hdb) pa_nil rfl) he) (by decide) (by decide) he) fun σ H Q ⟨π, env, h, s, p⟩ => by
    refine ⟨π, env, h, s, p.bind.mono fun π1 H1 h1 d s1 g1 p1 x dx => ?_⟩
    unfold fIsi at p1
    cases q : tyN h1 d with
    | none => rw [q] at p1; exact p1.elim
    | some t =>
      rw [q] at p1
      have k := of_decide_eq_true (List.all_eq_true.mp hk t (tyN_in q))
      exact ⟨x, .ty n, .type t, .type n, isB t n, rfl, .ty n, tyN_ok g1 dx q, kit_ty k, p1 π1 H1 Step.refl g1 _ rfl⟩
theorem em_globI {X : Cx} {T : List (Addr × Str)} {W : WX} {x : Str} {i : Int} {pos : Pos} (hg : Gl X x) (hm : ∃ t, X.mg x = some (.int i t)) (hdb : (x == ("__debug__" : Str)) = false := by rfl) : Em X T W (.Name x pos) (mC (.int i)) := by
  obtain ⟨t, hm⟩ := hm
  exact em_glob (v := .int i) hg hm ⟨t, rfl⟩ (fun _ _ => rfl) hdb
end MM
namespace MM
open PySem L2
/-- a call -/
theorem callM_ret {n p : Nat} {m : Ev → Hm → SR} {ds : List D} {h h1 : Hm} {d : D} (hl : ds.length = p) (e : m (startE n ds) h = .ret d h1) : callM n p m ds h = .ok d h1 := by
  unfold callM
  rw [if_pos hl, e]
theorem callM_next {n p : Nat} {m : Ev → Hm → SR} {ds : List D} {h h1 : Hm} {e1 : Ev} (hl : ds.length = p) (e : m (startE n ds) h = .next e1 h1) : callM n p m ds h = .ok .non h1 := by
  unfold callM
  rw [if_pos hl, e]
theorem callM_exn {n p : Nat} {m : Ev → Hm → SR} {ds : List D} {h h1 : Hm} {e1 : Ev} {x : Ex} (hl : ds.length = p) (e : m (startE n ds) h = .exn x e1 h1) : callM n p m ds h = .exn x h1 := by
  unfold callM
  rw [if_pos hl, e]
theorem call_ret {f : Fc} {n p : Nat} {m : Ev → Hm → SR} {ds : List D} {h h1 : Hm} {d : D} (ef : f = callM n p m) (hl : ds.length = p) (e : m (startE n ds) h = .ret d h1) : f ds h = .ok d h1 := by
  rw [ef]
  exact callM_ret hl e
theorem call_next {f : Fc} {n p : Nat} {m : Ev → Hm → SR} {ds : List D} {h h1 : Hm} {e1 : Ev} (ef : f = callM n p m) (hl : ds.length = p) (e : m (startE n ds) h = .next e1 h1) : f ds h = .ok .non h1 := by
  rw [ef]
  exact callM_next hl e
theorem call_exn {f : Fc} {n p : Nat} {m : Ev → Hm → SR} {ds : List D} {h h1 : Hm} {e1 : Ev} {x : Ex} (ef : f = callM n p m) (hl : ds.length = p) (e : m (startE n ds) h = .exn x e1 h1) : f ds h = .exn x h1 := by
  rw [ef]
  exact callM_exn hl e
theorem for_run {m : Ev → Hm → R Itr} {g : Gt} {b : Ev → Hm → SR} {env : Ev} {h h1 : Hm} {it : Itr} {r : SR} {ds : List D} {gs : List (Nat × O)} (a : m env h = .ok it h1) (w : forL gs g b ds env h1 = r) (e1 : it.1 = ds := by rfl) (e2 : it.2 = gs := by rfl) : sFor m g b env h = r := by
  unfold sFor
  rw [a]
  show forL it.2 g b it.1 env h1 = r
  rw [e1, e2]
  exact w
theorem seq_exn {sa sb : Ev → Hm → SR} {env e1 : Ev} {h h1 : Hm} {x : Ex} (a : sa env h = .exn x e1 h1) : sSeq sa sb env h = .exn x e1 h1 := by
  unfold sSeq
  rw [a]
  rfl
theorem told_ok {cs : List (Str × Str)} {m : Ev → Hm → R D} {env : Ev} {h h1 : Hm} {d : D} (a : m env h = .ok d h1) : mTold cs m env h = .ok d h1 := by
  unfold mTold
  rw [a]
theorem told_exn {cs : List (Str × Str)} {m : Ev → Hm → R D} {env : Ev} {h h1 : Hm} {x : Ex} {t : Str} (a : m env h = .exn x h1) (e : tellL cs x.cls = some t) : mTold cs m env h = .ok (.str t) h1 := by
  unfold mTold
  rw [a]
  simp only [e]
theorem rgc_run {n : Nat} {env : Ev} {h : Hm} (hn : n ≤ 1000) : mRg1 (mCons (mC (.int (n : Int))) mNil) env h = .ok ((List.range n).map (fun k : Nat => D.int (0 + (k : Int))), []) h := rg1_run rfl hn
/-- equal data -/
theorem fNe_py {h : Hm} {x y : D} {q : PyData} (a : py h 60 x = some q) (b : py h 60 y = some q) (c : PyData.canLay0 q = true) (f : flat2 x y = false := by rfl) : fNe x y h = .ok (.bl false) h := by
  unfold fNe
  rw [if_neg (by rw [f]; simp), a, b]
  show R.ok (D.bl (!PyData.eqv q q)) h = _
  rw [SeqAt.eqv_refl _ c]
  rfl
theorem lay_ints : ∀ l : List Int, PyData.canLayAll0 (l.map PyData.int) = true
  | [] => rfl
  | a :: l => by
    rw [List.map_cons]
    simp only [PyData.canLayAll0, lay_ints l]
    rfl
theorem py_tints {h : Hm} {l : List Int} : py h 60 (.tup (l.map D.int)) = some (.tuple (l.map PyData.int)) := by
  show (mapO (py h 59) (l.map D.int)).map PyData.tuple = _
  rw [py_ints]
  rfl
end MM
namespace MM
open PySem L2
def Is (x : D) : Hm → D → Prop := fun _ d => d = x
end MM
namespace MM
open PySem L2
section
variable {cs : List Str} {s c cn m : Str} {a mo : Ev → Hm → R D} {mr : Ev → Hm → R (List D)} {env : Ev} {h h1 h2 h3 : Hm} {P p : Nat} {fs fs' : List (Str × D)} {d x y z v : D} {ds : List D} {fn : Fc} {fo : F2}
theorem fld_run (e : a env h = .ok (.ref P) h1) (eP : h1[P]? = some (.ins c fs)) (hc : c ∈ cs) (l : fs.lookup s = some d) : mFld cs s a env h = .ok d h1 := by
  rw [run_fld, e, bind_ok]
  simp only [eP, if_pos hc, l]
theorem meth_run (e : mo env h = .ok (.ref P) h1) (eP : h1[P]? = some (.ins cn fs)) (l : fs.lookup m = none) (er : mr env h1 = .ok ds h2) (hl : ds.length + 1 = p) : mMethF cn m p fn mo mr env h = fn (.ref P :: ds) h2 := by
  rw [run_methF, e, bind_ok]
  simp only [eP]
  rw [if_pos ⟨trivial, l⟩, er, bind_ok, if_pos hl]
theorem fldA_run (e : mo env h = .ok (.ref P) h1) (eP : h1[P]? = some (.ins c fs)) (hc : c ∈ cs) (l : fs.lookup s = some v) (ea : a env h1 = .ok y h2) (ef : fo v y h2 = .ok z h3) (eP' : h3[P]? = some (.ins c fs')) (hl : fs'.length < 1000) :
    sFldA cs s fo mo a env h = .next env (h3.set P (.ins c (putD s z fs'))) := by
  rw [run_fldA, e, bindS_ok]
  simp only [eP, if_pos hc, l, ea, bindS_ok, ef, eP']
  rw [if_pos ⟨trivial, hl⟩]
theorem setF_run (eP : h[P]? = some (.ins c fs)) (hc : c ∈ cs) (hl : fs.length < 1000) : setF cs s (.ref P) y h = some (h.set P (.ins c (putD s y fs))) := by
  unfold setF
  simp only [eP]
  rw [if_pos ⟨hc, hl⟩]
theorem fldM_run (ea : a env h = .ok y h1) (e : mo env h1 = .ok (.ref P) h2) (eP : h2[P]? = some (.ins c fs)) (hc : c ∈ cs) (hl : fs.length < 1000) : sFldM cs s mo a env h = .next env (h2.set P (.ins c (putD s y fs))) := by
  rw [run_fldM, ea, bindS_ok, e, bindS_ok, setF_run eP hc hl]
theorem var_run {i : Nat} (e : env[i]? = some (some d)) : mVar i env h = .ok d h := by rw [run_var, e]
end
end MM
namespace MM
open PySem L2
theorem fm {x y : Int} {h : Hm} (hy : 0 < y) : fMod (.int x) (.int y) h = .ok (.int (x % y)) h := by
  rw [fMod_ok (by omega), Int.fmod_eq_emod_of_nonneg _ (by omega)]
theorem fd {x y : Int} {h : Hm} (hy : 0 < y) (h2 : y < 1000000) : fDiv (.int x) (.int y) h = .ok (.int (x / y)) h := by
  rw [fDiv_ok ⟨by omega, by omega⟩, Int.fdiv_eq_ediv_of_nonneg _ (by omega)]
theorem mu {x y : Int} {h : Hm} (hy : -1000000 < y ∧ y < 1000000) : fMul (.int x) (.int y) h = .ok (.int (x * y)) h := fMul_ok (.inr ⟨by omega, by omega⟩)
theorem mu1 {x y : Int} {h : Hm} (hy : -1000000 < x ∧ x < 1000000) : fMul (.int x) (.int y) h = .ok (.int (x * y)) h := fMul_ok (.inl ⟨by omega, by omega⟩)
theorem ix_get {ws : List Int} {r : Nat} {h : Hm} {k : Int} (e : h[r]? = some (.lst (ws.map D.int))) (k0 : 0 ≤ k) (k1 : k < ws.length) : fIx (.ref r) (.int k) h = .ok (.int (ws.getD k.toNat 0)) h := by
  refine fIx_int e k0 ?_
  have : k.toNat < ws.length := by omega
  rw [List.getElem?_map, List.getElem?_eq_getElem this, List.getD_eq_getElem?_getD, List.getElem?_eq_getElem this]
  rfl
/-- what stood stands, but at S -/
def KL (S : List Nat) (h h' : Hm) : Prop := h.length ≤ h'.length ∧ ∀ j, j < h.length → j ∉ S → h'[j]? = h[j]?
theorem KL.refl {S : List Nat} {h : Hm} : KL S h h := ⟨Nat.le_refl _, fun _ _ _ => rfl⟩
theorem KL.trans {S : List Nat} {h h1 h2 : Hm} (a : KL S h h1) (b : KL S h1 h2) : KL S h h2 := ⟨Nat.le_trans a.1 b.1, fun j x y => (b.2 j (Nat.lt_of_lt_of_le x a.1) y).trans (a.2 j x y)⟩
theorem KL.get {S : List Nat} {j : Nat} {h h' : Hm} {o : O} (k : KL S h h') (e : h[j]? = some o) (n : j ∉ S) : h'[j]? = some o := (k.2 j (List.getElem?_eq_some_iff.mp e).1 n).trans e
theorem KL.set {S : List Nat} {n : Nat} {h : Hm} {o : O} (m : n ∈ S) : KL S h (h.set n o) := ⟨by rw [List.length_set]; exact Nat.le_refl _, fun j _ q => List.getElem?_set_ne fun z => q (by rw [← z]; exact m)⟩
theorem KL.app {S : List Nat} {h g : Hm} : KL S h (h ++ g) := ⟨by rw [List.length_append]; omega, fun j x _ => List.getElem?_append_left x⟩
theorem KL.sub {S S' : List Nat} {h h' : Hm} (k : KL S h h') (w : ∀ x ∈ S, x ∈ S') : KL S' h h' := ⟨k.1, fun j x y => k.2 j x fun z => y (w j z)⟩
theorem Fr.kl {i : Nat} {h h' : Hm} (f : Fr i h h') : KL [i] h h' := ⟨f.1, fun j x y => f.2 j x fun z => y (by simp [z])⟩
theorem IsDice.kl {h h' : Hm} {i : Nat} {S : List Nat} (d : IsDice h i) (k : KL S h h') (n : i ∉ S) : IsDice h' i := by
  obtain ⟨a, b, m, e⟩ := d
  exact ⟨a, b, m, k.get e n⟩
theorem rep_flat (d : D) : ∀ m : Nat, (List.replicate m [d]).flatten = List.replicate m d
  | 0 => rfl
  | m + 1 => by rw [List.replicate_succ, List.flatten_cons, rep_flat d m, List.replicate_succ]; rfl
end MM
namespace MM
open PySem L2
section
variable {a b c m mo mi : Ev → Hm → R D} {ta tb : Ev → Hm → R Bool} {ml mh : Ev → Hm → R (Option Int)} {mr : Ev → Hm → R (List D)} {sa sb : Ev → Hm → SR} {env env1 : Ev} {h h1 h2 h3 h4 : Hm} {x y z d : D} {ds : List D} {i : Nat} {f f' : F2} {k k' : Bool} {fn : Fc} {fm : Fm} {r : SR} {p : Nat} {n lo hi : Int}
theorem c_run : mC d env h = .ok d h := rfl
theorem m2_run (ea : a env h = .ok x h1) (eb : b env h1 = .ok y h2) (ef : f x y h2 = .ok z h3) : m2 f a b env h = .ok z h3 := by rw [run_m2, ea, bind_ok, eb, bind_ok, ef]
theorem nil_run : mNil env h = .ok [] h := rfl
theorem cons_run (ea : a env h = .ok x h1) (er : mr env h1 = .ok ds h2) : mCons a mr env h = .ok (x :: ds) h2 := by rw [run_lcons, ea, bind_ok, er, bind_ok]
theorem tup_run (er : mr env h = .ok ds h1) : mTup mr env h = .ok (.tup ds) h1 := by rw [run_tup, er, bind_ok]
theorem lst_run (er : mr env h = .ok ds h1) : mLst mr env h = .ok (.ref h1.length) (h1 ++ [.lst ds]) := by rw [run_lst, er, bind_ok]
theorem bool_run (ea : a env h = .ok (.bl k) h1) : mBool a env h = .ok k h1 := by rw [run_bool, ea, bind_ok]
theorem tru_run (ea : a env h = .ok (.bl k) h1) : mTru a env h = .ok k h1 := by rw [run_tru, ea, bind_ok]; rfl
theorem neg_run (ea : a env h = .ok (.int n) h1) : mNeg a env h = .ok (.int (-n)) h1 := by rw [run_neg, ea, bind_ok]
theorem some_run (ea : a env h = .ok (.int n) h1) : mSome a env h = .ok (some n) h1 := by
  unfold mSome
  rw [ea, bind_ok]
theorem call_run (er : mr env h = .ok ds h1) (ef : fn ds h1 = .ok x h2) : mCall fn mr env h = .ok x h2 := by rw [run_call, er, bind_ok, ef]
theorem callF_run (er : mr env h = .ok ds h1) (ef : fn ds h1 = .ok x h2) (hl : ds.length = p := by rfl) : mCallF p fn mr env h = .ok x h2 := by rw [run_callF, er, bind_ok, if_pos hl, ef]
theorem methL_run {tg : Hm → D → Bool} (ea : a env h = .ok x h1) (ht : tg h1 x = true) (er : mr env h1 = .ok ds h2) (ef : fm x ds h2 = .ok y h3) : mMeth tg fm a mr env h = .ok y h3 := by rw [run_meth, ea, bind_ok, if_pos ht, er, bind_ok, ef]
theorem if_t (e : ta env h = .ok true h1) (s : sa env h1 = r) : sIf ta sa sb env h = r := by rw [run_if, e, bindS_ok, if_pos rfl, s]
theorem if_f (e : ta env h = .ok false h1) (s : sb env h1 = r) : sIf ta sa sb env h = r := by rw [run_if, e, bindS_ok, if_neg Bool.false_ne_true, s]
theorem nils_run : sNil env h = .next env h := rfl
theorem ret_run (e : a env h = .ok x h1) : sRet a env h = .ret x h1 := by rw [run_ret, e, bindS_ok]
theorem drop_run (e : a env h = .ok x h1) : sDrop a env h = .next env h1 := by rw [run_drop, e, bindS_ok]
theorem sub_run (em : m env h = .ok d h1) (eo : mo env h1 = .ok x h2) (ei : mi env h2 = .ok y h3) (es : fSet x y d h3 = some h4) : sAsg (gSubM mo mi) m env h = .next env h4 := by
  rw [run_asg, em, bindS_ok, run_subM, eo, bindS_ok, ei, bindS_ok]
  simp only [es, only_next]
theorem itA_run {i : Nat} {ds : List D} (e : a env h = .ok (.ref i) h1) (ei : h1[i]? = some (.lst ds)) : mItA a env h = .ok (ds, [(i, .lst ds)]) h1 := by
  rw [run_itA, e, bind_ok]
  simp only [itL_lst ei]
  rfl
theorem make_run {cn : Str} (er : mr env h = .ok ds h1) (hl : ds.length + 1 = p) (ef : fn (.ref h1.length :: ds) (h1 ++ [.ins cn []]) = .ok .non h2) : mMake cn p fn mr env h = .ok (.ref h1.length) h2 := by
  rw [run_make, er, bind_ok, if_pos hl, ef]
theorem sl_run {lo hi : Option Int} (ea : a env h = .ok x h1) (el : ml env h1 = .ok lo h2) (eh : mh env h2 = .ok hi h3) (ef : fSl x lo hi h3 = .ok y h4) : mSl a ml mh env h = .ok y h4 := by
  rw [run_sl, ea, bind_ok, el, bind_ok, eh, bind_ok, ef]
theorem no_run : mNo env h = .ok none h := rfl
end
end MM
namespace MM
open PySem L2
section
open PySem.Spec PyProof.Rows PySem.SeqAt
variable {M : Model} {prog : Program} {w : World} {A : Around} {E : Value → Shared → Prop} {s : Shared} {K : PySem.W.Frag} {x C : Addr} {ox : Obj} {od : Option Obj}
theorem isSame_str {z : Str} {t : Tok} {R : Bool → Shared → Prop} (h : R false s) : wpAny M A (isSame (.ref x) (.str z t)) R E s := wpAny_of_eq (rfl : isSame (.ref x) (.str z t) = pure false) h
theorem objEq_entry {z : Str} {t : Tok} {Q : Fin → Shared → Prop} (hq : Q (.done (.ret .notImplemented)) s) : wpAny M A (Builtin.«object.__eq__» ⟨[.ref x, .str z t], []⟩) Q E s := by
  unfold Builtin.«object.__eq__»
  repeat (first | with_reducible refine isSame_str ?_ | wp_step)
  exact hq
theorem call_objEqS {z : Str} {t : Tok} {Q : Value → Shared → Prop} (X : K.In s.heap) (I : PySem.W.InstAt s.heap x ox C od) (hm : PySem.W.mroIn K C (.type "object") = some true) (hq : Q .notImplemented s) :
    wpAny (model prog w) A (call (.builtin "object.__eq__") [.ref x, .str z t]) Q E s :=
  wpAny_call (codeAny_call_builtin F.cmp_object.eq.plain F.cmpEntry_eq (PySem.W.check_slot F.cmpKind_eq F.cmpSplit_eq (I.type.andThen (PySem.W.looks_mroIn X hm)) (F.cmpArgs_eq _ _) (objEq_entry hq)))
theorem sub_strC : PySem.W.subIn K (.type "str") (.ref C) = some false := by
  have e : fastBuiltinMro "str" = some [.type "str", .type "object"] := by decide +kernel
  show (fastBuiltinMro "str").map (·.contains (.ref C)) = some false
  rw [e]
  first
    | rfl
    | simp
theorem str_declines_inst (b : Str) (u : Tok) (l : Addr) (c : Value) (dd : Option Addr) (sl : Array (Option Value)) :
    Meets (Builtin.«str.__eq__» ⟨[.str b u, .ref l], []⟩) (fun _ R s => s.heap.get? l = some { cls := c, dict := dd, data := .plain, slots := sl } ∧ R (.ok (.ret .notImplemented)) s) :=
  .of_wp fun prog w A R s h => by obtain ⟨hp, g, d, tk, os⟩ := s; obtain ⟨hl, h⟩ := h; wp_walk using wpAny_load hl; exact ⟨_, rfl, h⟩
theorem rc_instStr {z : Str} {t : Tok} {dx : Addr} (hu : A.units < cLine) (X : K.In s.heap) (I : PySem.W.InstAt s.heap x (PySem.W.instObj C dx) C od) (hm : PySem.W.mroIn K C (.type "object") = some true) (hs : PySem.W.findIn K (.ref C) "__eq__" = some (some (.builtin "object.__eq__"))) :
    RcAt A s (.ref x) (.str z t) false := fun prog w E Q h => by
  have one : wpAny (model prog w) A (tryCompare (.ref x) "__eq__" (.str z t)) (fun r s' => r = none ∧ s' = s) E s := by
    unfold tryCompare
    exact wpAny_bind (HN.ifBound_objEq X I hs (call_objEqS X I hm (wpAny_pure ⟨rfl, rfl⟩)))
  have two : wpAny (model prog w) A (tryCompare (.str z t) "__eq__" (.ref x)) (fun r s' => r = none ∧ s' = s) E s :=
    wpAny_tryCompare_declines (typeIs_str s z t) F.slot_str_eq_refl (call_meets F.slot_str_eq_refl (typeIs_str s z t) F.entry_str_eq (F.args_str_eq_2 _ _) (str_declines_inst z t x (.ref C) (some dx) #[]) ⟨I.at_, rfl, rfl, rfl⟩)
  simp only [richCompare, cmpInfo_Eq, oneThing_ref]
  refine wpAny_holding (wpAny_bind (wpAny_cRoomFor hu ?_))
  refine wpAny_bind (I.type.here ?_)
  refine wpAny_bind (wpAny_typeOf (typeIs_str s z t) ?_)
  split
  · refine wpAny_bind ((PySem.W.looks_subIn X sub_strC).here ?_)
    simp only [Bool.false_eq_true, if_false, Bool.not_false, if_true]
    refine wpAny_bind (m := tryCompare (.ref x) _ (.str z t)) (wpAny_mono one (fun r s1 z => ?_) fun _ _ e => e)
    obtain ⟨z1, z2⟩ := z
    subst z1
    subst z2
    refine wpAny_bind (m := tryCompare (.str _ _) _ (.ref x)) (wpAny_mono two (fun r s2 z => ?_) fun _ _ e => e)
    obtain ⟨z1, z2⟩ := z
    subst z1
    subst z2
    exact wpAny_bind (wpAny_rule (wpAny_bind (isSame_str (wpAny_pure h))))
  · rename_i q
    exact absurd (by simp) q
end
/-- an instance without an __eq__ of its own is no text -/
def NoEq (K : PySem.W.Frag) (C : Addr) : Prop := PySem.W.mroIn K C (.type "object") = some true ∧ PySem.W.findIn K (.ref C) "__eq__" = some (some (.builtin "object.__eq__"))
def noEqB (K : PySem.W.Frag) (C : Addr) : Bool := (match PySem.W.mroIn K C (.type "object") with
  | some true => true
  | _ => false) && (match PySem.W.findIn K (.ref C) "__eq__" with
  | some (some (.builtin n)) => n == "object.__eq__"
  | _ => false)
theorem noEq_of {K : PySem.W.Frag} {C : Addr} (h : noEqB K C = true) : NoEq K C := by
  unfold noEqB at h
  rw [Bool.and_eq_true] at h
  obtain ⟨h1, h2⟩ := h
  refine ⟨?_, ?_⟩
  · split at h1
    · assumption
    · cases h1
  · split at h2
    · rename_i n e
      rw [e, eq_of_beq h2]
    · cases h2
def rInsStr (K : PySem.W.Frag) : R2 := fun x y H Q => ∃ a C dx fs z, x = .ref a ∧ y = .str z ∧ H a = some (.ins C dx fs) ∧ NoEq K C ∧ Q (.bl false) H
theorem op_insStr {X : Cx} (hu : X.A.units + 64 < cLine) : OpR X (compareOp .Eq) (rInsStr X.K) := by
  intro pins s σ H x y v u Q I rx ry h
  obtain ⟨a, C, dx, fs, z, rfl, rfl, ha, ⟨hm, hs⟩, q⟩ := h
  cases rx
  obtain ⟨t, rfl⟩ := ry
  obtain ⟨mA, O, _⟩ := ins_get I.hok ha
  obtain ⟨od, J, _⟩ := O.look
  exact rc_instStr (by omega) I.kIn J hm hs X.prog X.w X.xe _ ⟨.bl false, H, I, rfl, q⟩
/-- x == y where x may be an instance of a class of cs, y a text -/
def fEqI (cs : List Str) : F2 := fun x y h => match x, y with
  | .ref r, .str _ => (match h[r]? with
    | some (.ins c _) => if c ∈ cs then .ok (.bl false) h else .bad
    | _ => fEq x y h)
  | _, _ => fEq x y h
theorem o2_eqI {X : Cx} {T : List (Addr × Str)} {cs : List Str} (hc : ∀ c ∈ cs, ∀ C, X.mg c = some (.ref C) → NoEq X.K C) : Op2 (gx X T) (fun x y H Q => rEqM X.K x y H Q ∨ rInsStr X.K x y H Q) (fEqI cs) := by
  intro W π σ h H d e x y Q g dx ey p
  unfold fEqI at p
  split at p
  · rename_i r z
    split at p
    · rename_i c fs e0
      split at p
      · rename_i mc
        obtain ⟨a, qa, rfl⟩ := dx
        obtain rfl := (show y = _ from ey)
        obtain ⟨C, dx, xs, m1, ha, q⟩ := g.obj e0 qa
        exact .inr ⟨a, C, dx, xs, z, rfl, rfl, ha, hc c mc C m1, post_val g p rfl⟩
      · exact p.elim
    · exact .inl (o2_eq W π σ h H _ _ x y Q g dx ey p)
  · exact .inl (o2_eq W π σ h H _ _ x y Q g dx ey p)
section
variable {X : Cx} {T : List (Addr × Str)} {W : WX} {a b : Expr} {ma mb : Ev → Hm → R D} {cs : List Str} {pos : Pos}
theorem tm_eqI (hc : ∀ c ∈ cs, ∀ C, X.mg c = some (.ref C) → NoEq X.K C) (hu : X.A.units + 64 < cLine) (ha : Em X T W a ma) (hb : Em X T W b mb) : Tm X T W (.Compare a [.Eq] [b] pos) (mBool (m2 (fEqI cs) ma mb)) := tm_cmp ((op_eq.or (op_eqD hu)).or (op_insStr hu)) (o2_eqI hc) ha hb (nomark _)
end
end MM
namespace MM
open PySem L2
section
open PySem.Spec PyProof.Rows
variable {prog : Program} {w : World} {A : Around} {E : Value → Shared → Prop} {s : Shared}
theorem si_at {h h' : Heap} {a : Addr} {x : Str} {t : Tok} {i : Nat} (q : h.IsStrIter a "str_ascii_iterator" x t i) (k : ∀ o, h.get? a = some o → h'.get? a = some o) : h'.IsStrIter a "str_ascii_iterator" x t i := by
  obtain ⟨o, ho, r⟩ := q
  exact ⟨o, k o ho, r⟩
/-- the second walker stands after heaps that differ elsewhere -/
theorem zs_fr {St : Nat → Heap → Prop} {i : Nat} {i2 l c : Addr} {h h' : Heap} {n : Nat} {P : Nat → Value → Prop} (W : Draws prog w A i2 [i2, l] n P St) (st : St i h) (sb : Heap.SameBut c h h') (n1 : i2 ≠ c) (n2 : l ≠ c) : St i h' :=
  W.frame i h h' st fun b hb o e => by
    have q : b = i2 ∨ b = l := by simpa using hb
    rcases q with rfl | rfl
    · exact sb.extBut _ _ n1 e
    · exact sb.extBut _ _ n2 e
theorem zs_item {z TI TO i1 i2 l : Addr} {k n c0 : Nat} {t : Tok} {zt : Str} {a b : Value} {St : Nat → Heap → Prop} {P : Nat → Value → Prop} {Q : Value → Shared → Prop} (D : ZipApart z TI TO i1 i2 l l) (W : Draws prog w A i2 [i2, l] n P St)
    (hz : IsZip s.heap z TI TO .none) (hTI : IsPair s.heap TI (.ref i1) (.ref i2)) (hTO : IsPair s.heap TO a b)
    (h1 : s.heap.IsStrIter i1 "str_ascii_iterator" zt t k) (h2 : St k s.heap) (hx : zt.cps[k]? = some c0) (hk : k < n)
    (hQ : ∀ h' tk tx y, P k y → IsZip h' z TI TO (rawInt s.heap.objs.size) → IsPair h' TO (.str ⟨#[c0]⟩ tx) y → h'.IsStrIter i1 "str_ascii_iterator" zt t (k + 1) → St (k + 1) h' → IsPair h' s.heap.objs.size (.str ⟨#[c0]⟩ tx) y → h'.objs.size = s.heap.objs.size + 1 →
      (∀ c o, c ≠ z → c ≠ TO → c ≠ i1 → c ≠ i2 → s.heap.get? c = some o → h'.get? c = some o) → Q (.ref s.heap.objs.size) { s with heap := h', toks := tk }) :
    wpAny (model prog w) A (Builtin.«zip.__next__» ⟨[.ref z], []⟩) (fun fin s' => ∃ v, fin = .done (.ret v) ∧ Q v s') E s := by
  show wpAny _ _ (field (.ref z) 2 >>= _) _ _ _
  refine wpAny_bind (wpAny_field hz rfl (x := .bool false) rfl ?_)
  show wpAny _ _ (field (.ref z) 3 >>= _) _ _ _
  refine wpAny_bind (wpAny_field hz rfl (x := .ref TI) rfl ?_)
  refine wpAny_bind (wpAny_seqItems hTI rfl ?_)
  show wpAny _ _ (Builtin.SmallTypes.ownedTupleIsFree (.ref z) >>= _) _ _ _
  refine wpAny_bind ?_
  unfold Builtin.SmallTypes.ownedTupleIsFree
  refine wpAny_bind (wpAny_field hz rfl (x := .none) rfl (wpAny_pure ?_))
  simp only [if_true]
  refine wpAny_bind (wpAny_rule ?_)
  refine wpAny_bind (wpAny_field hz rfl (x := .ref TO) rfl ?_)
  refine wpAny_bind (wpAny_setField_rec hz (by simp) fun u1 hz1 hs1 => ?_)
  replace hz1 : IsZip u1 z TI TO .ellipsis := hz1
  refine wpAny_bind ?_
  simp only [List.zipIdx_cons, List.zipIdx_nil, List.forIn_cons, List.forIn_nil]
  refine wpAny_bind (wpAny_bind (wpAny_onRaise ?_))
  show wpAny _ _ (Builtin.SmallTypes.nextOf (.ref i1) >>= _) _ _ _
  have g1 : u1.IsStrIter i1 "str_ascii_iterator" zt t k := si_at h1 fun o e => hs1.extBut _ _ D.i1z e
  refine wpAny_bind (wpAny_nextOf_ascii_item (s := { s with heap := u1 }) g1 hx fun u2 h12 hs2 => wpAny_pure ?_)
  have hTO2 : IsPair u2 TO a b := hs2.extBut _ _ D.TOi1 (hs1.extBut _ _ D.TOz hTO)
  refine wpAny_bind (wpAny_seqItems hTO2 rfl ?_)
  refine wpAny_bind (wpAny_updateSeq_pair hTO2 fun u3 hTO3 hs3 => ?_)
  refine wpAny_bind (wpAny_letGo (wpAny_pure ?_))
  refine wpAny_bind (wpAny_bind (wpAny_onRaise ?_))
  show wpAny _ _ (Builtin.SmallTypes.nextOf (.ref i2) >>= _) _ _ _
  have g2 : St k u3 := zs_fr W (zs_fr W (zs_fr W h2 hs1 D.i2z D.l2z) hs2 D.i12.symm D.l1i1) hs3 D.TOi2.symm D.l1TO
  refine wpAny_bind (W.item k _ _ _ hk g2 fun y u4 tk py h24 hs4 => wpAny_pure ?_)
  have hTO4 : IsPair u4 TO (.str ⟨#[c0]⟩ s.toks) b := hs4.extBut _ _ D.TOi2 hTO3
  refine wpAny_bind (wpAny_seqItems hTO4 rfl ?_)
  refine wpAny_bind (wpAny_updateSeq_pair hTO4 fun u5 hTO5 hs5 => ?_)
  replace hTO5 : IsPair u5 TO (.str ⟨#[c0]⟩ s.toks) y := hTO5
  refine wpAny_bind (wpAny_letGo (wpAny_pure (wpAny_pure ?_)))
  refine wpAny_bind (wpAny_seqItems hTO5 rfl ?_)
  refine wpAny_bind (wpAny_newTuple ?_)
  have hsz : u5.objs.size = s.heap.objs.size := by rw [hs5.1, hs4.1, hs3.1, hs2.1, hs1.1]
  have hz5 : IsZip u5 z TI TO .ellipsis := hs5.extBut _ _ D.TOz.symm (hs4.extBut _ _ D.i2z.symm (hs3.extBut _ _ D.TOz.symm (hs2.extBut _ _ D.i1z.symm hz1)))
  have hk5 : ∀ c o, c ≠ z → c ≠ TO → c ≠ i1 → c ≠ i2 → s.heap.get? c = some o → u5.get? c = some o := fun c o c1 c2 c3 c4 e =>
    hs5.extBut _ _ c2 (hs4.extBut _ _ c4 (hs3.extBut _ _ c2 (hs2.extBut _ _ c3 (hs1.extBut _ _ c1 e))))
  have h15 : u5.IsStrIter i1 "str_ascii_iterator" zt t (k + 1) := si_at (si_at (si_at h12 fun o e => hs3.extBut _ _ D.TOi1.symm e) fun o e => hs4.extBut _ _ D.i12 e) fun o e => hs5.extBut _ _ D.TOi1.symm e
  have h25 : St (k + 1) u5 := zs_fr W h24 hs5 D.TOi2.symm D.l1TO
  have hzlt : z < u5.objs.size := Heap.lt_size hz5
  show wpAny _ _ (Builtin.SmallTypes.ownedTupleHandOut (.ref z) (.ref u5.objs.size) >>= _) _ _ _
  refine wpAny_bind ?_
  unfold Builtin.SmallTypes.ownedTupleHandOut
  have hz6 : IsZip (u5.push { cls := .type "tuple", data := .seq #[.str ⟨#[c0]⟩ s.toks, y] }) z TI TO .ellipsis := Heap.get?_push_of_some _ hz5
  refine wpAny_bind (wpAny_setField_rec hz6 (by simp) fun u7 hz7 hs7 => ?_)
  replace hz7 : IsZip u7 z TI TO (rawInt u5.objs.size) := hz7
  refine wpAny_setField_rec hz7 (by simp) fun u8 hz8 hs8 => ?_
  replace hz8 : IsZip u8 z TI TO (rawInt u5.objs.size) := hz8
  have up' : ∀ c o, c ≠ z → u5.get? c = some o → u8.get? c = some o := fun c o c1 e => hs8.extBut _ _ c1 (hs7.extBut _ _ c1 (Heap.get?_push_of_some _ e))
  have hT8 : IsPair u8 u5.objs.size (.str ⟨#[c0]⟩ s.toks) y := hs8.extBut _ _ (Nat.ne_of_gt hzlt) (hs7.extBut _ _ (Nat.ne_of_gt hzlt) (Heap.get?_push_size _ rfl))
  have hz8' : u8.objs.size = u5.objs.size + 1 := by rw [hs8.1, hs7.1, Heap.size_push]
  rw [hsz] at hz8 hT8 hz8'
  refine wpAny_pure ⟨_, rfl, ?_⟩
  show Q (.ref u5.objs.size) _
  rw [hsz]
  exact hQ u8 _ s.toks y py hz8 (up' _ _ D.TOz hTO5) (si_at h15 fun o e => up' _ o D.i1z e) (W.frame _ _ _ h25 fun b hb o e => by
    have q : b = i2 ∨ b = l := by simpa using hb
    rcases q with rfl | rfl
    · exact up' _ _ D.i2z e
    · exact up' _ _ D.l1z e) hT8 hz8' fun c o c1 c2 c3 c4 e => up' c o c1 (hk5 c o c1 c2 c3 c4 e)
theorem zs_end {z TI TO i1 i2 l : Addr} {k n : Nat} {t : Tok} {zt : Str} {a b : Value} {St : Nat → Heap → Prop} {P : Nat → Value → Prop} {Q : Fin → Shared → Prop} (hh : A.handled = none) (D : ZipApart z TI TO i1 i2 l l) (W : Draws prog w A i2 [i2, l] n P St)
    (hz : IsZip s.heap z TI TO .none) (hTI : IsPair s.heap TI (.ref i1) (.ref i2)) (hTO : IsPair s.heap TO a b)
    (h1 : s.heap.IsStrIter i1 "str_ascii_iterator" zt t k) (h2 : St k s.heap) (hend : zt.cps[k]? = none ∨ k = n)
    (hE : ∀ h' tk e, (∀ c o, c ≠ z → c ≠ TO → c ≠ i1 → c ≠ i2 → s.heap.get? c = some o → h'.get? c = some o) → (∃ o, h'.get? e = some o ∧ o.cls = .type "StopIteration") → E (.ref e) { s with heap := h', toks := tk }) :
    wpAny (model prog w) A (Builtin.«zip.__next__» ⟨[.ref z], []⟩) Q E s := by
  show wpAny _ _ (field (.ref z) 2 >>= _) _ _ _
  refine wpAny_bind (wpAny_field hz rfl (x := .bool false) rfl ?_)
  show wpAny _ _ (field (.ref z) 3 >>= _) _ _ _
  refine wpAny_bind (wpAny_field hz rfl (x := .ref TI) rfl ?_)
  refine wpAny_bind (wpAny_seqItems hTI rfl ?_)
  show wpAny _ _ (Builtin.SmallTypes.ownedTupleIsFree (.ref z) >>= _) _ _ _
  refine wpAny_bind ?_
  unfold Builtin.SmallTypes.ownedTupleIsFree
  refine wpAny_bind (wpAny_field hz rfl (x := .none) rfl (wpAny_pure ?_))
  simp only [if_true]
  refine wpAny_bind (wpAny_rule ?_)
  refine wpAny_bind (wpAny_field hz rfl (x := .ref TO) rfl ?_)
  refine wpAny_bind (wpAny_setField_rec hz (by simp) fun u1 hz1 hs1 => ?_)
  replace hz1 : IsZip u1 z TI TO .ellipsis := hz1
  refine wpAny_bind ?_
  simp only [List.zipIdx_cons, List.zipIdx_nil, List.forIn_cons, List.forIn_nil]
  refine wpAny_bind (wpAny_bind (wpAny_onRaise ?_))
  show wpAny _ _ (Builtin.SmallTypes.nextOf (.ref i1) >>= _) _ _ _
  have g1 : u1.IsStrIter i1 "str_ascii_iterator" zt t k := si_at h1 fun o e => hs1.extBut _ _ D.i1z e
  cases hx : zt.cps[k]? with
  | none =>
    refine wpAny_bind (wpAny_nextOf_ascii_end (s := { s with heap := u1 }) hh g1 hx fun u2 e hs2 he => ?_)
    obtain ⟨oe, hoe, hce⟩ := he
    have hz2 : IsZip u2 z TI TO .ellipsis := hs2 _ _ D.i1z.symm hz1
    have hez : e ≠ z := fun x => by subst x; rw [hz2] at hoe; cases hoe; simp at hce
    refine wpAny_setField_rec hz2 (by simp) fun u3 _ hs3 => hE u3 _ e (fun c o c1 _ c3 _ x => hs3.extBut _ _ c1 (hs2 _ _ c3 (hs1.extBut _ _ c1 x))) ⟨oe, hs3.extBut _ _ hez hoe, hce⟩
  | some c0 =>
    have hk : k = n := by rcases hend with h | h; rw [hx] at h; cases h; exact h
    subst hk
    refine wpAny_bind (wpAny_nextOf_ascii_item (s := { s with heap := u1 }) g1 hx fun u2 h12 hs2 => wpAny_pure ?_)
    have hTO2 : IsPair u2 TO a b := hs2.extBut _ _ D.TOi1 (hs1.extBut _ _ D.TOz hTO)
    refine wpAny_bind (wpAny_seqItems hTO2 rfl ?_)
    refine wpAny_bind (wpAny_updateSeq_pair hTO2 fun u3 hTO3 hs3 => ?_)
    refine wpAny_bind (wpAny_letGo (wpAny_pure ?_))
    refine wpAny_bind (wpAny_bind (wpAny_onRaise ?_))
    show wpAny _ _ (Builtin.SmallTypes.nextOf (.ref i2) >>= _) _ _ _
    have g2 : St k u3 := zs_fr W (zs_fr W (zs_fr W h2 hs1 D.i2z D.l2z) hs2 D.i12.symm D.l1i1) hs3 D.TOi2.symm D.l1TO
    refine wpAny_bind (W.done _ _ _ g2 fun u4 e hs4 he => ?_)
    obtain ⟨oe, hoe, hce⟩ := he
    have hz4 : IsZip u4 z TI TO .ellipsis := hs4 _ _ D.i2z.symm (hs3.extBut _ _ D.TOz.symm (hs2.extBut _ _ D.i1z.symm hz1))
    have hez : e ≠ z := fun x => by subst x; rw [hz4] at hoe; cases hoe; simp at hce
    refine wpAny_setField_rec hz4 (by simp) fun u5 _ hs5 => hE u5 _ e (fun c o c1 c2 c3 c4 x => hs5.extBut _ _ c1 (hs4 _ _ c4 (hs3.extBut _ _ c2 (hs2.extBut _ _ c3 (hs1.extBut _ _ c1 x))))) ⟨oe, hs5.extBut _ _ hez hoe, hce⟩
theorem zs_next_item {z TI TO i1 i2 l : Addr} {k n c0 : Nat} {t : Tok} {zt : Str} {a b : Value} {St : Nat → Heap → Prop} {P : Nat → Value → Prop} {Q : Option Value → Shared → Prop} (D : ZipApart z TI TO i1 i2 l l) (W : Draws prog w A.in1 i2 [i2, l] n P St)
    (hz : IsZip s.heap z TI TO .none) (hTI : IsPair s.heap TI (.ref i1) (.ref i2)) (hTO : IsPair s.heap TO a b)
    (h1 : s.heap.IsStrIter i1 "str_ascii_iterator" zt t k) (h2 : St k s.heap) (hx : zt.cps[k]? = some c0) (hk : k < n)
    (hQ : ∀ h' tk tx y, P k y → IsZip h' z TI TO (rawInt s.heap.objs.size) → IsPair h' TO (.str ⟨#[c0]⟩ tx) y → h'.IsStrIter i1 "str_ascii_iterator" zt t (k + 1) → St (k + 1) h' → IsPair h' s.heap.objs.size (.str ⟨#[c0]⟩ tx) y → h'.objs.size = s.heap.objs.size + 1 →
      (∀ c o, c ≠ z → c ≠ TO → c ≠ i1 → c ≠ i2 → s.heap.get? c = some o → h'.get? c = some o) → Q (some (.ref s.heap.objs.size)) { s with heap := h', toks := tk }) :
    wpAny (model prog w) A (pyNext (.ref z)) Q E s := by
  have hT : s.TypeIs (.ref z) "zip" := ⟨_, hz, rfl⟩
  unfold pyNext
  exact wpAny_bind (wpAny_attempt (wpAny_callSpecial?_slot (name := Str.ofString "__next__") hT F.slot_zip_next
    (wpAny_call_entry F.slot_zip_next hT F.entry_zip_next
      (zs_item D W hz hTI hTO h1 h2 hx hk fun h' tk tx y py a1 a2 a3 a4 a5 a6 a7 => wpAny_pure (hQ h' tk tx y py a1 a2 a3 a4 a5 a6 a7)) (F.args_zip_next_1 _))))
theorem zs_next_end {z TI TO i1 i2 l : Addr} {k n : Nat} {t : Tok} {zt : Str} {a b : Value} {St : Nat → Heap → Prop} {P : Nat → Value → Prop} {Q : Option Value → Shared → Prop} (hh : A.handled = none) (D : ZipApart z TI TO i1 i2 l l) (W : Draws prog w A.in1 i2 [i2, l] n P St)
    (hz : IsZip s.heap z TI TO .none) (hTI : IsPair s.heap TI (.ref i1) (.ref i2)) (hTO : IsPair s.heap TO a b)
    (h1 : s.heap.IsStrIter i1 "str_ascii_iterator" zt t k) (h2 : St k s.heap) (hend : zt.cps[k]? = none ∨ k = n)
    (hQ : ∀ h' tk, (∀ c o, c ≠ z → c ≠ TO → c ≠ i1 → c ≠ i2 → s.heap.get? c = some o → h'.get? c = some o) → Q none { s with heap := h', toks := tk }) : wpAny (model prog w) A (pyNext (.ref z)) Q E s := by
  have hT : s.TypeIs (.ref z) "zip" := ⟨_, hz, rfl⟩
  unfold pyNext
  refine wpAny_bind (wpAny_attempt (wpAny_callSpecial?_slot (name := Str.ofString "__next__") hT F.slot_zip_next
    (wpAny_call_entry F.slot_zip_next hT F.entry_zip_next (zs_end (A := A.in1) hh D W hz hTI hTO h1 h2 hend fun h' tk e hk he => ?_) (F.args_zip_next_1 _))))
  obtain ⟨o, ho, hc⟩ := he
  refine wpAny_bind (wpAny_isInstance (T := "StopIteration") (b := true) ⟨o, ho, hc⟩ isSubtype_stop ?_)
  exact wpAny_pure (hQ _ _ hk)
theorem draws_tuple (hh : A.handled = none) (it l : Addr) (hne : l ≠ it) (items : Array Value) :
    Draws prog w A it [it, l] items.size (fun i v => items[i]? = some v) (fun i h => h.IsTupleIter it l i ∧ h.IsTuple l items) where
  live := fun _ _ st => let ⟨o, ho, _⟩ := st.1; ⟨o, ho⟩
  frame := fun _ _ _ st hk => ⟨st.1.at fun o e => hk it (by simp) o e, let ⟨o, ho, r⟩ := st.2; ⟨o, hk l (by simp) o ho, r⟩⟩
  item := fun i s Q E hi st hQ => by
    refine RZ.nextOf_tuple_item st.1 st.2 (x := items[i]) (by simp [hi]) fun h' hit' hs' => ?_
    exact hQ _ h' s.toks (by simp [hi]) ⟨hit', st.2.extBut hs'.extBut hne⟩ hs'
  done := fun s Q E st hE => RZ.nextOf_tuple_end hh st.1 st.2 (by simp) hE
end
end MM
namespace MM
open PySem L2
abbrev zsA (h : Heap) (x : Str) (t : Tok) : Heap := h.push { cls := .type "str_ascii_iterator", data := .fields #[.str x t, .int 0 0] }
abbrev zsB (ic : String) (h : Heap) (x : Str) (t : Tok) (l : Addr) : Heap := (zsA h x t).push { cls := .type ic, data := .fields #[.ref l, .int 0 0] }
abbrev zsC (ic : String) (h : Heap) (x : Str) (t : Tok) (l : Addr) : Heap := (zsB ic h x t l).push { cls := .type "tuple", data := .seq #[.ref h.objs.size, .ref (zsA h x t).objs.size] }
abbrev zsD (ic : String) (h : Heap) (x : Str) (t : Tok) (l : Addr) : Heap := (zsC ic h x t l).push { cls := .type "tuple", data := .seq #[.none, .none] }
abbrev zsE (ic : String) (h : Heap) (x : Str) (t : Tok) (l : Addr) : Heap := (zsD ic h x t l).push { cls := .type "zip", data := .fields #[.none, .bool false, .bool false, .ref (zsB ic h x t l).objs.size, .ref (zsC ic h x t l).objs.size] }
theorem zs_newL (x : Str) (t : Tok) (l : Addr) (ys : Array Value) :
    Meets (Builtin.«zip.__new__» ⟨[.type "zip", .str x t, .ref l], []⟩) (fun _ R s => x.cps.all (· < 128) = true ∧ s.heap.IsList l ys ∧
      R (.ok (.ret (.ref (zsD "list_iterator" s.heap x t l).objs.size))) { s with heap := zsE "list_iterator" s.heap x t l }) :=
  .of_wp fun prog w A R s h => by
    obtain ⟨hp, g, d, tk, os⟩ := s; obtain ⟨ha, hl, h⟩ := h
    have hsub := sub_zip
    have hL : Heap.IsList (Shared.heap ⟨hp.push { cls := .type "str_ascii_iterator", data := .fields #[.str x t, .int 0 0] }, g, d, tk, os⟩) l ys := Heap.IsList.push hl _
    wp_walk using wpAny_pyIter_ascii ha, wpAny_pyIter_list hL
    exact ⟨_, rfl, h⟩
theorem zs_newT (x : Str) (t : Tok) (l : Addr) (ys : Array Value) :
    Meets (Builtin.«zip.__new__» ⟨[.type "zip", .str x t, .ref l], []⟩) (fun _ R s => x.cps.all (· < 128) = true ∧ s.heap.IsTuple l ys ∧
      R (.ok (.ret (.ref (zsD "tuple_iterator" s.heap x t l).objs.size))) { s with heap := zsE "tuple_iterator" s.heap x t l }) :=
  .of_wp fun prog w A R s h => by
    obtain ⟨hp, g, d, tk, os⟩ := s; obtain ⟨ha, hl, h⟩ := h
    have hsub := sub_zip
    have hL : Heap.IsTuple (Shared.heap ⟨hp.push { cls := .type "str_ascii_iterator", data := .fields #[.str x t, .int 0 0] }, g, d, tk, os⟩) l ys := Heap.IsTuple.push hl _
    wp_walk using wpAny_pyIter_ascii ha, wpAny_pyIter_tuple hL
    exact ⟨_, rfl, h⟩
def SqA (K : PySem.W.Frag) (H : Hp) : Bool → Addr → List V → Prop
  | true, a, xs => SqT K H a xs
  | false, a, xs => SqL K H a xs
def ItA (h : Heap) : Bool → Addr → Addr → Nat → Prop
  | true, i, l, k => h.IsTupleIter i l k
  | false, i, l, k => h.IsListIter i l k
def SqH (h : Heap) : Bool → Addr → Array Value → Prop
  | true, l, xs => h.IsTuple l xs
  | false, l, xs => h.IsList l xs
def itC : Bool → String
  | true => "tuple_iterator"
  | false => "list_iterator"
section
open PySem.Spec PyProof.Rows
theorem sqA_of {X : Cx} {pins : List (Addr × Obj)} {σ : L2.St} {H : Hp} {s : Shared} (I : Inv X pins σ H s) {tup : Bool} {a : Addr} {xs : List V} (h : SqA X.K H tup a xs) : ∃ its : List Value, Vals xs its ∧ SqH s.heap tup a its.toArray ∧ a < s.heap.objs.size := by
  cases tup with
  | true =>
    obtain ⟨its, r, p, _⟩ := I.tuple h
    obtain ⟨o, ho, _⟩ := id p
    exact ⟨its, r, p, Heap.lt_size ho⟩
  | false =>
    obtain ⟨its, r, p, _⟩ := I.list h
    exact ⟨its, r, p.isList, p.lt⟩
theorem sqA_inj {X : Cx} {pins : List (Addr × Obj)} {σ : L2.St} {H : Hp} {s : Shared} (I : Inv X pins σ H s) {tup : Bool} {a : Addr} {xs ys : List V} (h : SqA X.K H tup a xs) (h' : SqA X.K H tup a ys) : xs = ys := by
  cases tup with
  | true => exact I.tuple_inj h h'
  | false => exact I.list_inj h h'
theorem itA_keep {h h' : Heap} {tup : Bool} {i l : Addr} {k : Nat} (q : ItA h tup i l k) (w : ∀ o, h.get? i = some o → h'.get? i = some o) : ItA h' tup i l k := by
  cases tup with
  | true => obtain ⟨o, ho, r⟩ := q; exact ⟨o, w o ho, r⟩
  | false => obtain ⟨o, ho, r⟩ := q; exact ⟨o, w o ho, r⟩
theorem itA_obj {h : Heap} {tup : Bool} {i l : Addr} {k : Nat} (q : ItA h tup i l k) : ∃ o, h.get? i = some o ∧ ∀ v, o.data ≠ .cell v := by
  cases tup with
  | true => obtain ⟨o, ho, _, d⟩ := q; exact ⟨o, ho, fun v z => by rw [d] at z; cases z⟩
  | false => obtain ⟨o, ho, _, d⟩ := q; exact ⟨o, ho, fun v z => by rw [d] at z; cases z⟩
theorem draws_sq {prog : Program} {w : World} {A : Around} (hh : A.handled = none) (tup : Bool) (it l : Addr) (hne : l ≠ it) (items : Array Value) :
    Draws prog w A it [it, l] items.size (fun i v => items[i]? = some v) (fun i h => ItA h tup it l i ∧ SqH h tup l items) := by
  cases tup with
  | true => exact draws_tuple hh it l hne items
  | false => exact Draws.list hh it l hne items
/-- zip(x, seq): x a text, seq a sequence -/
def ItzS (K : PySem.W.Frag) (x : Str) (tup : Bool) (b : Addr) : It :=
  ⟨fun i H => i < x.cps.size ∧ ∃ (ys : List V) (y : V), SqA K H tup b ys ∧ ys[i]? = some y,
    fun i H v H' => ∃ T c y, v = .ref T ∧ H T = none ∧ H' = upd H T (.tup [.str ⟨#[c]⟩, y]) ∧ x.cps[i]? = some c ∧ ∀ ys, SqA K H tup b ys → ys[i]? = some y,
    fun i H => ∃ ys : List V, SqA K H tup b ys ∧ (x.cps.size ≤ i ∨ i = ys.length)⟩
theorem turn_zs {P : Program} {w : World} {K : PySem.W.Frag} {elts : List Expr} {kk : Nat} {tpos : Pos} {x : Str} {t : Tok} {tup : Bool} {b z TI TO i1 i2 : Addr} (D : ZipApart z TI TO i1 i2 b b) :
    Turn P w K (.Tuple elts kk tpos) (ItzS K x tup b) [z, TI, TO, i1, i2] z (fun i h => IsZip h z TI TO .none ∧ IsPair h TI (.ref i1) (.ref i2) ∧ (∃ x y, IsPair h TO x y) ∧ h.IsStrIter i1 "str_ascii_iterator" x t i ∧ ItA h tup i2 b i) where
  mem := by simp
  obj := fun i h st c hc => by
    obtain ⟨hz, hTI, ⟨x, y, hTO⟩, ⟨o1, e1, _, d1⟩, q2⟩ := st
    have e' : c = z ∨ c = TI ∨ c = TO ∨ c = i1 ∨ c = i2 := by simpa using hc
    rcases e' with rfl | rfl | rfl | rfl | rfl
    · exact ⟨_, hz, fun v q => nomatch q⟩
    · exact ⟨_, hTI, fun v q => nomatch q⟩
    · exact ⟨_, hTO, fun v q => nomatch q⟩
    · exact ⟨o1, e1, fun v q => by rw [d1] at q; cases q⟩
    · exact itA_obj q2
  keep := fun i h h' st k => by
    obtain ⟨hz, hTI, ⟨x, y, hTO⟩, h1, h2⟩ := st
    exact ⟨k z (by simp) _ hz, k TI (by simp) _ hTI, ⟨x, y, k TO (by simp) _ hTO⟩, si_at h1 fun o q => k i1 (by simp) o q, itA_keep h2 fun o q => k i2 (by simp) o q⟩
  item := by
    intro X hP hw hK hc i pins s σ H E I hf st hg
    subst hP hw hK
    obtain ⟨hz, hTI, ⟨x0, y0, hTO⟩, h1, h2⟩ := st
    obtain ⟨hx, ys, y, hq, hy⟩ := hg
    obtain ⟨its, rv, p, _⟩ := sqA_of I hq
    obtain ⟨u, hu, ru⟩ := rv.get hy
    have hu' : its.toArray[i]? = some u := by simpa using hu
    have hin : i < its.toArray.size := (Array.getElem?_eq_some_iff.mp hu').1
    have hx' : x.cps[i]? = some x.cps[i] := Array.getElem?_eq_getElem hx
    have hzl : z < s.heap.objs.size := Heap.lt_size hz
    refine zs_next_item D (draws_sq (A := X.A.in1) (I.ok.hd hc) tup i2 b D.l1i2 its.toArray) hz hTI hTO h1 ⟨h2, p⟩ hx' hin fun h' tk tx yv py z' TO' h1' h2' hT hsz hk => ?_
    have ey : yv = u := by
      have q : its.toArray[i]? = some yv := py
      rw [hu'] at q
      exact (Option.some.inj q).symm
    subst ey
    refine ⟨_, rfl, wpAny_letOwnedTupleGo_zip (s := { s with heap := h', toks := tk }) z' fun h'' z'' sb => ?_⟩
    have hT2 : h''.get? s.heap.objs.size = some { cls := .type "tuple", data := .seq #[.str ⟨#[x.cps[i]]⟩ tx, yv] } := (sb.2 _ (Nat.ne_of_gt hzl)).trans hT
    have new : ObjOk X.prog X.w (upd H s.heap.objs.size (.tup [.str ⟨#[x.cps[i]]⟩, y])) h'' s.heap.objs.size (.tup [.str ⟨#[x.cps[i]]⟩, y]) :=
      ⟨by show 2 ≤ sizeLine; decide, [.str ⟨#[x.cps[i]]⟩ tx, yv], .cons ⟨tx, rfl⟩ (.cons ru .nil), ⟨_, hT2, rfl, _, rfl⟩⟩
    have I1 : Inv X pins σ (upd H s.heap.objs.size (.tup [.str ⟨#[x.cps[i]]⟩, y])) { s with heap := h'', toks := tk } :=
      I.turnedNew (t' := tk) (ch := [z, TI, TO, i1, i2]) (fun c o hb q => (sb.2 c (fun q' => hb (by simp [q']))).trans (hk c o (fun q' => hb (by simp [q'])) (fun q' => hb (by simp [q'])) (fun q' => hb (by simp [q'])) (fun q' => hb (by simp [q'])) q)) hf (Nat.le_refl _) new
    refine ⟨.ref s.heap.objs.size, _, I1, rfl, ⟨_, _, y, rfl, I.hok.fresh (Nat.le_refl _), rfl, hx', fun l hl => by rw [sqA_inj I hl hq]; exact hy⟩, ⟨z'', ?_, ⟨.str ⟨#[x.cps[i]]⟩ tx, yv, ?_⟩, ?_, ?_⟩, fun c hcm => ?_⟩
    · exact (sb.2 _ D.TIz).trans (hk _ _ D.TIz D.TITO D.TIi1 D.TIi2 hTI)
    · exact (sb.2 _ D.TOz).trans TO'
    · exact si_at h1' fun o q => (sb.2 _ D.i1z).trans q
    · exact itA_keep h2'.1 fun o q => (sb.2 _ D.i2z).trans q
    · have hlt : c < s.heap.objs.size := by
        have e' : c = z ∨ c = TI ∨ c = TO ∨ c = i1 ∨ c = i2 := by simpa using hcm
        rcases e' with rfl | rfl | rfl | rfl | rfl
        · exact hzl
        · exact Heap.lt_size hTI
        · exact Heap.lt_size hTO
        · obtain ⟨_, e1, _⟩ := h1; exact Heap.lt_size e1
        · obtain ⟨_, e2, _⟩ := itA_obj h2; exact Heap.lt_size e2
      rw [upd_ne (Nat.ne_of_lt hlt)]
      exact (hf c hcm).1
  done := by
    intro X hP hw hK hc i pins s σ H E I hf st hg
    subst hP hw hK
    obtain ⟨hz, hTI, ⟨x0, y0, hTO⟩, h1, h2⟩ := st
    obtain ⟨ys, hq, hend⟩ := hg
    obtain ⟨its, rv, p, _⟩ := sqA_of I hq
    have l1 := rv.length
    by_cases he : x.cps[i]? = none ∨ i = its.toArray.size
    · exact zs_next_end (I.ok.hd hc) D (draws_sq (A := X.A.in1) (I.ok.hd hc) tup i2 b D.l1i2 its.toArray) hz hTI hTO h1 ⟨h2, p⟩ he fun h' tk hk => ⟨rfl, I.turnedL (t' := tk) (ch := [z, TI, TO, i1, i2]) (fun c o hb q =>
        hk c o (fun q' => hb (by simp [q'])) (fun q' => hb (by simp [q'])) (fun q' => hb (by simp [q'])) (fun q' => hb (by simp [q'])) q) hf⟩
    · refine (he ?_).elim
      rcases hend with q | q
      · exact .inl (Array.getElem?_eq_none q)
      · exact .inr (by simp; omega)
  self := fun A i s Q E st h => wpAny_pyIter_zip st.1 h
theorem call_zipS {prog : Program} {w : World} {A : Around} {E : Value → Shared → Prop} {s : Shared} {x : Str} {t : Tok} {tup : Bool} {l : Addr} {ys : Array Value} {Q : Value → Shared → Prop} (ha : x.cps.all (· < 128) = true) (hl : SqH s.heap tup l ys)
    (h : ∀ h', IsZip h' (s.heap.objs.size + 4) (s.heap.objs.size + 2) (s.heap.objs.size + 3) .none → IsPair h' (s.heap.objs.size + 2) (.ref s.heap.objs.size) (.ref (s.heap.objs.size + 1)) →
      IsPair h' (s.heap.objs.size + 3) .none .none → h'.IsStrIter s.heap.objs.size "str_ascii_iterator" x t 0 → ItA h' tup (s.heap.objs.size + 1) l 0 → h'.objs.size = s.heap.objs.size + 5 →
      (∀ c o, s.heap.get? c = some o → h'.get? c = some o) → Q (.ref (s.heap.objs.size + 4)) { s with heap := h' }) :
    wpAny (model prog w) A (call (.type "zip") [.str x t, .ref l]) Q E s := by
  have fin : ∀ ic : String, ic = itC tup → Shared.TypeIs { s with heap := zsE ic s.heap x t l } (.ref (zsD ic s.heap x t l).objs.size) "zip" ∧ Q (.ref (zsD ic s.heap x t l).objs.size) { s with heap := zsE ic s.heap x t l } := fun ic ei => by
    have z1 : (zsA s.heap x t).objs.size = s.heap.objs.size + 1 := Heap.size_push ..
    have z2 : (zsB ic s.heap x t l).objs.size = s.heap.objs.size + 2 := by rw [Heap.size_push, z1]
    have z3 : (zsC ic s.heap x t l).objs.size = s.heap.objs.size + 3 := by rw [Heap.size_push, z2]
    have z4 : (zsD ic s.heap x t l).objs.size = s.heap.objs.size + 4 := by rw [Heap.size_push, z3]
    have z5 : (zsE ic s.heap x t l).objs.size = s.heap.objs.size + 5 := by rw [Heap.size_push, z4]
    have g5 : (zsE ic s.heap x t l).get? (zsD ic s.heap x t l).objs.size = some _ := Heap.get?_push_size _ rfl
    have g4 : (zsE ic s.heap x t l).get? (zsC ic s.heap x t l).objs.size = some _ := Heap.get?_push_of_some _ (Heap.get?_push_size _ rfl)
    have g3 : (zsE ic s.heap x t l).get? (zsB ic s.heap x t l).objs.size = some _ := Heap.get?_push_of_some _ (Heap.get?_push_of_some _ (Heap.get?_push_size _ rfl))
    have g2 : (zsE ic s.heap x t l).get? (zsA s.heap x t).objs.size = some _ := Heap.get?_push_of_some _ (Heap.get?_push_of_some _ (Heap.get?_push_of_some _ (Heap.get?_push_size _ rfl)))
    have g1 : (zsE ic s.heap x t l).get? s.heap.objs.size = some _ := Heap.get?_push_of_some _ (Heap.get?_push_of_some _ (Heap.get?_push_of_some _ (Heap.get?_push_of_some _ (Heap.get?_push_size _ rfl))))
    rw [z2, z3, z4] at g5
    rw [z1, z2] at g3
    rw [z3] at g4
    rw [z1] at g2
    rw [z4]
    refine ⟨⟨_, g5, rfl⟩, ?_⟩
    refine h _ g5 g3 g4 ⟨_, g1, rfl, rfl⟩ ?_ z5 fun c o q => Heap.get?_push_of_some _ (Heap.get?_push_of_some _ (Heap.get?_push_of_some _ (Heap.get?_push_of_some _ (Heap.get?_push_of_some _ q))))
    cases tup with
    | true => exact ⟨_, g2, by rw [ei]; rfl, rfl⟩
    | false => exact ⟨_, g2, by rw [ei]; rfl, rfl⟩
  cases tup with
  | true => exact callType_new F.called_zip (by decide) (F.typeCall_zip_2 _ _) (F.newCall_zip_2 _ _) (fun obj => F.args_object_init_3 obj _ _) F.entry_zip_new (zs_newT x t l ys) ⟨ha, hl, fin _ rfl⟩
  | false => exact callType_new F.called_zip (by decide) (F.typeCall_zip_2 _ _) (F.newCall_zip_2 _ _) (fun obj => F.args_object_init_3 obj _ _) F.entry_zip_new (zs_newL x t l ys) ⟨ha, hl, fin _ rfl⟩
def iZipS (K : PySem.W.Frag) (ta : TA) : TI := fun σ H R => ta σ H fun vs H1 => ∃ x tup b ys, vs = [.str x, .ref b] ∧ x.cps.all (· < 128) = true ∧ SqA K H1 tup b ys ∧ R (ItzS K x tup b) H1
theorem pi_zipS {X : Cx} {e e2 : Expr} {ta : TA} {p pos tpos : Pos} {elts : List Expr} {kk : Nat} (hg : Gl X "zip") (hm : X.mg "zip" = none) (ha : PA X [e, e2] ta)
    (hs : starEach [e, e2] X.env = (false, eval e X.env) :: starEach [e2] X.env := by rfl) (hpl : (backTo pos (starEach [e2] X.env)).any (·.1) = false := by rfl) :
    PI X (.Tuple elts kk tpos) (.Call (.Name "zip" p) [e, e2] [] pos) (iZipS X.K ta) := by
  refine ⟨fun pins s σ H R I h => ?_⟩
  refine Call_ (ld_blt I hg hm PyProof.Rows.boot_zip (PyProof.Rows.callWith_type1 (thn (ha.run pos pins s σ H _ I h) fun us s1 ⟨vs, H1, I1, r1, q1⟩ => ?_) hs hpl))
  obtain ⟨x, tup, b, ys, ex, hx, hq, q⟩ := q1
  subst ex
  cases r1 with
  | cons r rr =>
    cases rr with
    | cons r' rr =>
      cases rr
      obtain ⟨t, rfl⟩ := r
      cases r'
      obtain ⟨its, rv, p1, lb⟩ := sqA_of I1 hq
      refine call_zipS (tup := tup) hx p1 fun h' hz hTI hTO h1 h2 hsz hk => wpAny_pyIter_zip hz ?_
      have I2 : Inv X pins σ H1 { s1 with heap := h' } := I1.kept (t' := s1.toks) hk
      refine ⟨s1.heap.objs.size + 4, [s1.heap.objs.size + 4, s1.heap.objs.size + 2, s1.heap.objs.size + 3, s1.heap.objs.size, s1.heap.objs.size + 1], _, _, H1, rfl, I2, turn_zs (PySem.W.ktu_apart s1.heap.objs.size b b lb lb), ⟨hz, hTI, ⟨_, _, hTO⟩, h1, h2⟩, fun c hcm => ?_, q⟩
      have hle : s1.heap.objs.size ≤ c := by
        have e' : c = s1.heap.objs.size + 4 ∨ c = s1.heap.objs.size + 2 ∨ c = s1.heap.objs.size + 3 ∨ c = s1.heap.objs.size ∨ c = s1.heap.objs.size + 1 := by simpa using hcm
        generalize s1.heap.objs.size = n at e'
        rcases e' with q | q | q | q | q
        · rw [q]; exact Nat.le_add_right n _
        · rw [q]; exact Nat.le_add_right n _
        · rw [q]; exact Nat.le_add_right n _
        · rw [q]; exact Nat.le_refl n
        · rw [q]; exact Nat.le_add_right n _
      exact I1.fpOk hle (I1.hok.fresh hle)
end
def signs (x : Str) : List D := x.cps.toList.map fun c => D.str ⟨#[c]⟩
theorem signs_len {x : Str} : (signs x).length = x.cps.size := by simp [signs]
theorem signs_get {x : Str} {i c : Nat} (e : x.cps[i]? = some c) : (signs x)[i]? = some (.str ⟨#[c]⟩) := by
  unfold signs
  rw [List.getElem?_map, Array.getElem?_toList, e]
  rfl
section
variable {G : Gx} {π0 : List Addr} {H0 : Hp} {b : Addr} {es : List D} {x : Str} {gs : List (Nat × O)}
theorem walk_s : WalkD G π0 H0 (Its x) (signs x, []) := by
  refine ⟨fun i π h H s g e hi => ?_, fun i π h H s g e hi => ?_, fun i π h H v H' s g e hi y => ?_⟩
  · rw [signs_len] at hi
    exact hi
  · rw [signs_len] at hi
    exact Nat.le_of_eq hi.symm
  · obtain ⟨rfl, c, hc, rfl⟩ := y
    exact ⟨Step.refl, g, _, signs_get hc, rfl⟩
theorem seqA_sq {tup : Bool} (w : SeqA G π0 H0 tup b es gs) {π : List Addr} {h : Hm} {H : Hp} (s : Step π0 H0 π H) (g : Good G π h H) (e : gdOk gs h = true) : ∃ xs, SqA G.K H tup b xs ∧ DVs G.K π H es xs := by
  obtain ⟨xs, ha, k⟩ := w π h H s g e
  refine ⟨xs, ?_, k⟩
  cases tup with
  | true => exact ha
  | false => exact ha
theorem walk_zS {tup : Bool} (w : SeqA G π0 H0 tup b es gs) : WalkD G π0 H0 (ItzS G.K x tup b) (zipD (signs x) es, gs) := by
  refine ⟨fun i π h H s g e hi => ?_, fun i π h H s g e hi => ?_, fun i π h H v H' s g e hi y => ?_⟩
  · obtain ⟨ys, hb, k⟩ := seqA_sq w s g e
    rw [zipD_len, signs_len] at hi
    obtain ⟨u, h2, _⟩ := k.get (List.getElem?_eq_getElem (show i < es.length by omega))
    exact ⟨by omega, ys, u, hb, h2⟩
  · obtain ⟨ys, hb, k⟩ := seqA_sq w s g e
    rw [zipD_len, signs_len] at hi
    exact ⟨ys, hb, by rw [k.len]; omega⟩
  · obtain ⟨ys, hb, k⟩ := seqA_sq w s g e
    obtain ⟨P, c, u, rfl, hn, rfl, y1, y2⟩ := y
    obtain ⟨d', h1', h2'⟩ := k.getR (y2 ys hb)
    obtain ⟨p1, p2, p3⟩ := new_pair (d := .str ⟨#[c]⟩) (x := .str ⟨#[c]⟩) g hn rfl h2'
    exact ⟨p1, p2, _, zipD_get (signs_get y1) h1', p3⟩
end
def mSigns (m : Ev → Hm → R D) : Ev → Hm → R Itr := fun env h => (m env h).bind fun x h1 => match x with
  | .str z => .ok (signs z, []) h1
  | _ => .bad
def mZipS (m : Ev → Hm → R (List D)) : Ev → Hm → R Itr := fun env h => (m env h).bind fun ds h1 => match ds with
  | [.str z, y] => if z.cps.all (· < 128) = true then (match y with
    | .tup es => .ok (zipD (signs z) es, []) h1
    | y => match itL h1 y with
      | some b => .ok (zipD (signs z) b.1, b.2) h1
      | none => .bad) else .bad
  | _ => .bad
section
variable {X : Cx} {T : List (Addr × Str)} {W : WX} {tg e e2 : Expr} {me : Ev → Hm → R D} {mr : Ev → Hm → R (List D)} {p pos tpos : Pos} {kk : Nat} {elts : List Expr}
theorem im_signs (he : Em X T W e me) : Im X T W tg e (mSigns me) := PI.of (pi_str he) fun σ H Q ⟨π, env, h, s, p⟩ => by
  refine ⟨π, env, h, s, p.bind.mono fun π1 H1 h1 d s1 g1 p1 x dx => ?_⟩
  cases d with
  | str z =>
    obtain rfl := (show x = _ from dx)
    exact ⟨z, rfl, p1 π1 H1 Step.refl g1 _ walk_s⟩
  | _ => exact p1.elim
theorem im_zipS (hg : Gl X "zip") (hm : X.mg "zip" = none) (ha : Am X T W [e, e2] mr) (hs : starEach [e, e2] X.env = (false, eval e X.env) :: starEach [e2] X.env := by rfl) (hpl : (backTo pos (starEach [e2] X.env)).any (·.1) = false := by rfl) : Im X T W (.Tuple elts kk tpos) (.Call (.Name "zip" p) [e, e2] [] pos) (mZipS mr) := PI.of (pi_zipS hg hm ha hs hpl) fun σ H Q ⟨π, env, h, s, p⟩ => by
  refine ⟨π, env, h, s, p.bind.mono fun π1 H1 h1 ds s1 g1 p1 vs dv => ?_⟩
  split at p1
  · rename_i z y
    obtain ⟨v, vs, rfl, d1, w, ws, rfl, d2, e⟩ := dv
    obtain rfl := (show ws = [] from e)
    obtain rfl := (show v = _ from d1)
    split at p1
    · rename_i hz
      split at p1
      · rename_i es
        obtain ⟨b, e1, ⟨ys, e2⟩, _, w2⟩ := itT_ok (G := gx X T) (it := (es, [])) d2 rfl
        subst e1
        exact ⟨z, true, b, ys, rfl, hz, e2, p1 π1 H1 Step.refl g1 _ (walk_zS w2)⟩
      · split at p1
        · rename_i ib eb
          obtain ⟨b, e1, ⟨ys, e2⟩, _, w2, _⟩ := itL_ok g1 d2 eb
          subst e1
          exact ⟨z, false, b, ys, rfl, hz, e2, p1 π1 H1 Step.refl g1 _ (walk_zS w2)⟩
        · exact p1.elim
    · exact p1.elim
  · exact p1.elim
end
end MM
namespace MM
open PySem L2
abbrev Pr := (Ev → Hm → R D) × (Ev → Hm → R D)
def mPs : List Pr → Ev → Hm → R (List (D × D))
  | [], _, h => .ok [] h
  | p :: r, env, h => (p.1 env h).bind fun x h1 => (p.2 env h1).bind fun y h2 => (mPs r env h2).bind fun xs h3 => .ok ((x, y) :: xs) h3
def keysD : List (D × D) → Option (List (Key × D))
  | [] => some []
  | p :: r => match keyD p.1, keysD r with
    | some k, some ks => some ((k, p.2) :: ks)
    | _, _ => none
def mergeD (more : List (Key × D)) : List (Key × D) := more.foldl (fun acc kv => putDK acc kv.1 kv.2) []
def mDisp (ms : List Pr) : Ev → Hm → R D := fun env h => (mPs ms env h).bind fun ps h1 => match keysD ps with
  | some kvs => if kvs.length ≤ 15 then .ok (.ref h1.length) (h1 ++ [.dic (mergeD kvs)]) else .bad
  | none => .bad
def DQs (K : PySem.W.Frag) (π : List Addr) (H : Hp) : List (D × D) → List (V × V) → Prop
  | [], xs => xs = []
  | p :: ps, xs => ∃ k v vs, xs = (k, v) :: vs ∧ DV K π H p.1 k ∧ DV K π H p.2 v ∧ DQs K π H ps vs
theorem DQs.step {K : PySem.W.Frag} {π π' : List Addr} {H H' : Hp} (s : Step π H π' H') : ∀ (ps : List (D × D)) (xs : List (V × V)), DQs K π H ps xs → DQs K π' H' ps xs
  | [], _, h => h
  | p :: ps, _, ⟨k, v, vs, e, h1, h2, q⟩ => ⟨k, v, vs, e, h1.step s _ _, h2.step s _ _, DQs.step s ps vs q⟩
theorem keysD_ok {K : PySem.W.Frag} {π : List Addr} {H : Hp} : ∀ (ps : List (D × D)) (kvs : List (Key × D)) (xs : List (V × V)), keysD ps = some kvs → DQs K π H ps xs → ∃ ws : List (Key × V), xs = ws.map (fun kv => (kV kv.1, kv.2)) ∧ DPs K π H kvs ws
  | [], kvs, xs, e, h => by
    cases e
    obtain rfl := (show xs = [] from h)
    exact ⟨[], rfl, rfl⟩
  | p :: ps, kvs, xs, e, ⟨k, v, vs, ex, h1, h2, q⟩ => by
    subst ex
    unfold keysD at e
    split at e
    · rename_i κ ks e1 e2
      cases e
      obtain ⟨ws, rfl, r⟩ := keysD_ok ps ks vs e2 q
      obtain rfl := keyD_V e1 h1
      exact ⟨(κ, v) :: ws, rfl, v, ws, rfl, h2, r⟩
    · cases e
theorem mergeD_ok {K : PySem.W.Frag} {π : List Addr} {H : Hp} {kvs : List (Key × D)} {ws : List (Key × V)} (h : DPs K π H kvs ws) : DPs K π H (mergeD kvs) (mergeK [] ws) := by
  have go : ∀ (kvs : List (Key × D)) (ws : List (Key × V)) (a : List (Key × D)) (b : List (Key × V)), DPs K π H kvs ws → DPs K π H a b → DPs K π H (kvs.foldl (fun acc kv => putDK acc kv.1 kv.2) a) (ws.foldl (fun acc kv => putK acc kv.1 kv.2) b) := by
    intro kvs
    induction kvs with
    | nil =>
      intro ws a b h q
      obtain rfl := (show ws = [] from h)
      exact q
    | cons p ps ih =>
      intro ws a b h q
      obtain ⟨v, vs, rfl, h1, h2⟩ := h
      exact ih vs _ _ h2 (q.putK h1)
  exact go kvs ws [] [] h rfl
section
variable {G : Gx} {π π1 : List Addr} {h h' : Hm} {H H1 : Hp} {a : Addr} {u u' : HO} {o : O}
/-- an object that stands, but is none of ours, is written and becomes ours -/
theorem stepV_own (e : H1 a = some u) (nt : ∀ xs, u ≠ .tup xs) (nf : ∀ o xs, u ≠ .frz o xs) : StepV π1 H1 (π1 ++ [a]) (upd H1 a u') := by
  refine ⟨⟨[a], rfl⟩, fun b xs q m => ?_, fun b o xs q m => ?_⟩
  · have ne : b ≠ a := fun z => by rw [z, e] at q; exact nt _ (Option.some.inj q)
    exact ⟨by rw [upd_ne ne]; exact q, fun z => (List.mem_append.mp z).elim m fun z => ne (List.mem_singleton.mp z)⟩
  · have ne : b ≠ a := fun z => by rw [z, e] at q; exact nf _ _ (Option.some.inj q)
    exact ⟨by rw [upd_ne ne]; exact q, fun z => (List.mem_append.mp z).elim m fun z => ne (List.mem_singleton.mp z)⟩
theorem good_own (g : Good G π1 h H1) (e : H1 a = some u) (n : a ∉ π1) (s : StepV π1 H1 (π1 ++ [a]) (upd H1 a u')) (t1 : ∀ ps, u ≠ .tbl ps) (t2 : ∀ c q, u ≠ LamX.CodeO c q) (w : OV G (π1 ++ [a]) (upd H1 a u') a o) : Good G (π1 ++ [a]) (h ++ [o]) (upd H1 a u') := by
  refine ⟨by rw [List.length_append, List.length_append, g.len] <;> rfl, ?_, fun i b v e1 e2 => ?_, g.tabs_upd (.inr ⟨_, e, fun ⟨ps, z⟩ => t1 ps z, t2⟩), fun p hp m => ?_⟩
  · rw [List.nodup_append]
    refine ⟨g.nd, by simp, fun x hx y hy z => ?_⟩
    rw [List.mem_singleton] at hy
    rw [z, hy] at hx
    exact n hx
  · by_cases hi : i < π1.length
    · rw [List.getElem?_append_left hi] at e1
      rw [List.getElem?_append_left (by rw [← g.len]; exact hi)] at e2
      have ne : b ≠ a := fun z => n (by rw [← z]; exact List.mem_of_getElem? e1)
      exact (g.ob i b v e1 e2).stepV s (upd_ne ne)
    · have h1 := (List.getElem?_eq_some_iff.mp e1).1
      have hi' : i = π1.length := by
        rw [List.length_append, List.length_singleton] at h1
        omega
      subst hi'
      rw [List.getElem?_append_right (Nat.le_refl _), Nat.sub_self] at e1
      rw [List.getElem?_append_right (by rw [g.len]; exact Nat.le_refl _), g.len, Nat.sub_self] at e2
      obtain rfl : a = b := Option.some.inj e1
      obtain rfl : o = v := Option.some.inj e2
      exact w
  · rcases List.mem_append.mp m with m | m
    · exact g.tout p hp m
    · rw [List.mem_singleton] at m
      obtain ⟨ps, e'⟩ := tab_at (g.tabs p hp)
      rw [m, e] at e'
      exact t1 ps (Option.some.inj e')
theorem step_own (s : Step π (upd H a u) π1 H1) (n : H a = none) : Step π H (π1 ++ [a]) (upd H1 a u') := by
  have ne : ∀ b o, H b = some o → b ≠ a := fun b o e z => by rw [z, n] at e; cases e
  obtain ⟨m, em⟩ := s.ext
  refine ⟨⟨m ++ [a], by rw [em, List.append_assoc]⟩, fun b o e q t z => ?_, fun b o e q t => ?_, fun b o v e => ?_⟩
  · have e' : upd H a u b = some o := by rw [upd_ne (ne b o e)]; exact e
    rcases List.mem_append.mp z with z | z
    · exact s.out b o e' q t z
    · exact ne b o e (List.mem_singleton.mp z)
  · have e' : upd H a u b = some o := by rw [upd_ne (ne b o e)]; exact e
    rw [upd_ne (ne b o e)]
    exact s.keep b o e' q t
  · have e' : upd H a u b = some (.frz o v) := by rw [upd_ne (ne b _ e)]; exact e
    rw [upd_ne (ne b _ e)]
    exact s.frz b o v e'
end
abbrev Pm (X : Cx) (T : List (Addr × Str)) (W : WX) (pos : Pos) (keys : List (Option Expr)) (values : List Expr) (ms : List Pr) : Prop := PPs X pos keys values (ms.map fun p => (tE (gx X T) W p.1, tE (gx X T) W p.2))
section
variable {X : Cx} {T : List (Addr × Str)} {W : WX} {pos : Pos} {keys : List (Option Expr)} {values : List Expr} {ms : List Pr} {k v : Expr} {mk mv : Ev → Hm → R D}
theorem pm_nil : Pm X T W pos [] [] [] := pps_nil
theorem pm_cons (hk : Em X T W k mk) (hv : Em X T W v mv) (hr : Pm X T W pos keys values ms) : Pm X T W pos (some k :: keys) (v :: values) ((mk, mv) :: ms) := pps_cons hk hv hr
theorem pairs_ok : ∀ (ms : List Pr) {π : List Addr} {env : Ev} {h : Hm} {σ : L2.St} {H : Hp} {Q : List (V × V) → Hp → Prop}, S (gx X T) π env h σ H → Post (gx X T) W π σ H (mPs ms env h) (fun π' H' _ ps => ∀ xs, DQs X.K π' H' ps xs → Q xs H') → tPairs (ms.map fun p => (tE (gx X T) W p.1, tE (gx X T) W p.2)) σ H Q
  | [], π, env, h, σ, H, Q, s, p => p π H Step.refl s.good [] rfl
  | m :: ms, π, env, h, σ, H, Q, s, p => by
    refine ⟨π, env, h, s, p.bind.mono fun π1 H1 h1 x s1 g1 p1 v1 d1 => ?_⟩
    refine ⟨π1, env, h1, s.step s1 g1, p1.bind.mono fun π2 H2 h2 y s2 g2 p2 v2 d2 => ?_⟩
    refine pairs_ok ms ((s.step s1 g1).step s2 g2) (p2.bind.mono fun π3 H3 h3 ps s3 g3 p3 xs dq => ?_)
    exact p3 π3 H3 Step.refl g3 _ ⟨v1, v2, xs, rfl, (d1.step s2 _ _).step s3 _ _, d2.step s3 _ _, dq⟩
theorem em_disp (hp : Pm X T W pos keys values ms) (hall : keys.all (·.isSome) = true := by rfl) (hl : keys.length = values.length := by rfl) (h0 : keys ≠ [] := by exact fun z => nomatch z) (h15 : keys.length ≤ 15 := by decide) : Em X T W (.Dict keys values pos) (mDisp ms) :=
  PE.of (pe_disp hp hall hl h0 h15) fun σ H Q ⟨π, env, h, s, p⟩ a n => by
    have st : Step π H π (upd H a (.dK [])) := Step.other s.good n
    have go : Good (gx X T) π h (upd H a (.dK [])) := s.good.other n
    have fr : a ∉ π := s.good.free n
    unfold mDisp at p
    cases q : mPs ms env h with
    | bad => rw [q] at p; exact p.elim
    | exn x h' =>
      rw [q] at p
      refine pairs_ok ms (s.step st go) ?_
      rw [q]
      exact fun π' H' cls d s' g' e => p π' H' cls d (st.trans s') g' e
    | ok ps h' =>
      rw [q] at p
      have p' : Post (gx X T) W π σ H (match keysD ps with
        | some kvs => if kvs.length ≤ 15 then R.ok (D.ref h'.length) (h' ++ [O.dic (mergeD kvs)]) else .bad
        | none => .bad) (fun π' H' _ z => ∀ v, DV (gx X T).K π' H' z v → Q v H') := p
      cases ek : keysD ps with
      | none => rw [ek] at p'; exact p'.elim
      | some kvs =>
        rw [ek] at p'
        by_cases hk : kvs.length ≤ 15
        · have p2 : Post (gx X T) W π σ H (if kvs.length ≤ 15 then R.ok (D.ref h'.length) (h' ++ [O.dic (mergeD kvs)]) else .bad) (fun π' H' _ z => ∀ v, DV (gx X T).K π' H' z v → Q v H') := p'
          rw [if_pos hk] at p2
          refine pairs_ok ms (s.step st go) ?_
          rw [q]
          intro π1 H1 s1 g1 xs dq
          have e1 : H1 a = some (.dK []) := s1.keep a _ upd_same fr (fun ps z => by cases z)
          have fr1 : a ∉ π1 := s1.out a _ upd_same fr (fun ps z => by cases z)
          obtain ⟨ws, rfl, dp⟩ := keysD_ok ps kvs xs ek dq
          refine ⟨e1, ws, rfl, by rw [dp.len]; exact hk, ?_⟩
          have stv : StepV π1 H1 (π1 ++ [a]) (upd H1 a (.dK (mergeK [] ws))) := stepV_own e1 (fun _ z => by cases z) (fun _ _ z => by cases z)
          have gd : Good (gx X T) (π1 ++ [a]) (h' ++ [.dic (mergeD kvs)]) (upd H1 a (.dK (mergeK [] ws))) := good_own g1 e1 fr1 stv (fun ps z => by cases z) (fun c q z => by unfold LamX.CodeO at z; cases z) ⟨_, upd_same, (mergeD_ok dp).stepV stv _ _⟩
          refine p2 (π1 ++ [a]) _ (step_own s1 n) gd _ ⟨a, ?_, rfl⟩
          rw [List.getElem?_append_right (by rw [g1.len]; exact Nat.le_refl _), g1.len, Nat.sub_self] <;> rfl
        · have p2 : Post (gx X T) W π σ H (if kvs.length ≤ 15 then R.ok (D.ref h'.length) (h' ++ [O.dic (mergeD kvs)]) else .bad) (fun π' H' _ z => ∀ v, DV (gx X T).K π' H' z v → Q v H') := p'
          rw [if_neg hk] at p2
          exact p2.elim
end
end MM
namespace MM
open PySem L2
/-- only new things are laid -/
def Ext (h h' : Hm) : Prop := ∃ g, h' = h ++ g
theorem Ext.refl {h : Hm} : Ext h h := ⟨[], (List.append_nil h).symm⟩
theorem Ext.app {h h' g : Hm} (e : Ext h h') : Ext h (h' ++ g) := by
  obtain ⟨g1, rfl⟩ := e
  exact ⟨g1 ++ g, List.append_assoc ..⟩
theorem Ext.trans {h h1 h2 : Hm} (a : Ext h h1) (b : Ext h1 h2) : Ext h h2 := by
  obtain ⟨g, rfl⟩ := b
  exact a.app
theorem Ext.kl {h h' : Hm} (e : Ext h h') {S : List Nat} : KL S h h' := by
  obtain ⟨g, rfl⟩ := e
  exact KL.app
theorem Ext.get {h h' : Hm} {j : Nat} {o : O} (e : Ext h h') (q : h[j]? = some o) : h'[j]? = some o := by
  obtain ⟨g, rfl⟩ := e
  exact keep_app q
inductive NotB : Bool → Bool → Prop | t : NotB true false | f : NotB false true
inductive IfR {α : Type} : Bool → α → α → α → Prop
  | t {a b r : α} (e : a = r) : IfR true a b r
  | f {a b r : α} (e : b = r) : IfR false a b r
inductive ThR : SR → (Ev → Hm → SR) → SR → Prop
  | nx {env : Ev} {h : Hm} {b : Ev → Hm → SR} {r : SR} (e : b env h = r) : ThR (.next env h) b r
  | rt {d : D} {h : Hm} {b : Ev → Hm → SR} : ThR (.ret d h) b (.ret d h)
  | ex {x : Ex} {env : Ev} {h : Hm} {b : Ev → Hm → SR} : ThR (.exn x env h) b (.exn x env h)
theorem okr {α : Type} {x : α} {h : Hm} : R.ok x h = R.ok x h := rfl
theorem ThR.rt' {d : D} {h : Hm} {b : Ev → Hm → SR} {r : SR} (e : SR.ret d h = r) : ThR (.ret d h) b r := e ▸ ThR.rt
section
variable {a b c m mo mi : Ev → Hm → R D} {ta tb : Ev → Hm → R Bool} {ml mh : Ev → Hm → R (Option Int)} {mr : Ev → Hm → R (List D)} {sa sb : Ev → Hm → SR} {env env1 : Ev} {h h1 h2 h3 h4 : Hm} {x y z d : D} {ds es fs' : List D} {i j l : Nat} {f f' : F2} {k k' : Bool} {fn : Fc} {fm : Fm} {r r1 : SR} {p : Nat} {n lo hi : Int} {ox oy : Option Int} {s cn mn : Str} {cs : List Str} {fs : List (Str × D)}
theorem rb_seq (e : sa env h = r1) (w : ThR r1 sb r) : sSeq sa sb env h = r := by
  rw [run_seq, e]
  cases w with
  | nx e => exact e
  | rt => rfl
  | ex => rfl
theorem rb_if (e : ta env h = .ok k h1) (w : IfR k (sa env h1) (sb env h1) r) : sIf ta sa sb env h = r := by
  rw [run_if, e, bindS_ok]
  cases w with
  | t e => rw [if_pos rfl, e]
  | f e => rw [if_neg Bool.false_ne_true, e]
theorem rb_and {rr : R Bool} (e : ta env h = .ok k h1) (w : IfR k (tb env h1) (.ok false h1) rr) : mAnd ta tb env h = rr := by
  rw [run_and, e, bind_ok]
  cases w with
  | t e => rw [if_pos rfl, e]
  | f e => rw [if_neg Bool.false_ne_true, e]
theorem rb_or {rr : R Bool} (e : ta env h = .ok k h1) (w : IfR k (.ok true h1) (tb env h1) rr) : mOr ta tb env h = rr := by
  rw [run_or, e, bind_ok]
  cases w with
  | t e => rw [if_pos rfl, e]
  | f e => rw [if_neg Bool.false_ne_true, e]
theorem rb_ifE {rr : R D} (e : ta env h = .ok k h1) (w : IfR k (a env h1) (b env h1) rr) : mIf ta a b env h = rr := by
  rw [run_ifE, e, bind_ok]
  cases w with
  | t e => rw [if_pos rfl, e]
  | f e => rw [if_neg Bool.false_ne_true, e]
theorem rb_not (e : ta env h = .ok k h1) (w : NotB k k') : mNot ta env h = .ok k' h1 := by
  rw [run_not, e, bind_ok]
  cases w <;> rfl
theorem rb_chain {rr : R D} (ea : a env h = .ok x h1) (eb : b env h1 = .ok y h2) (ef : f x y h2 = .ok (.bl k) h3) (w : IfR k ((c env h3).bind fun w h4 => f' y w h4) (.ok (.bl false) h3) rr) : mChain f f' a b c env h = rr := by
  rw [run_chain, ea, bind_ok, eb, bind_ok, ef, bind_ok]
  cases w with
  | t e => exact e
  | f e => exact e
theorem rb_bind {α β : Type} {ma : R α} {kk : α → Hm → R β} {v : α} {rr : R β} (e : ma = .ok v h1) (w : kk v h1 = rr) : ma.bind kk = rr := by rw [e, bind_ok, w]
theorem rb_callF (er : mr env h = .ok ds h1) (ef : fn ds h1 = .ok x h2) (hl : ds.length = p) : mCallF p fn mr env h = .ok x h2 := callF_run er ef hl
theorem rb_callX {xx : Ex} (er : mr env h = .ok ds h1) (ef : fn ds h1 = .exn xx h2) (hl : ds.length = p) : mCallF p fn mr env h = .exn xx h2 := by rw [run_callF, er, bind_ok, if_pos hl, ef]
theorem rb_dropX {xx : Ex} (e : m env h = .exn xx h1) : sDrop m env h = .exn xx env h1 := by rw [run_drop, e, bindS_exn]
theorem rb_fldM {P : Nat} {c : Str} {fs2 : List (Str × D)} (ea : a env h = .ok y h1) (e : mo env h1 = .ok (.ref P) h2) (eP : h2[P]? = some (.ins c fs)) (ep : putD s y fs = fs2) (hc : c ∈ cs) (hl : fs.length < 1000) : sFldM cs s mo a env h = .next env (h2.set P (.ins c fs2)) := by
  rw [← ep]
  exact fldM_run ea e eP hc hl
theorem rb_fldA {P : Nat} {c : Str} {v : D} {fs2 fs3 : List (Str × D)} {fo : F2} (e : mo env h = .ok (.ref P) h1) (eP : h1[P]? = some (.ins c fs)) (l : fs.lookup s = some v) (ea : a env h1 = .ok y h2) (ef : fo v y h2 = .ok z h3) (eP' : h3[P]? = some (.ins c fs3)) (ep : putD s z fs3 = fs2) (hc : c ∈ cs) (hl : fs3.length < 1000) :
    sFldA cs s fo mo a env h = .next env (h3.set P (.ins c fs2)) := by
  rw [← ep]
  exact fldA_run e eP hc l ea ef eP' hl
theorem pdP {v : D} {fs2 : List (Str × D)} (e : putD s v fs = fs2) : putD s v fs = fs2 := e
theorem lkN (e : fs.lookup s = none) : fs.lookup s = none := e
theorem lkS (e : fs.lookup s = some d) : fs.lookup s = some d := e
theorem memP (e : s ∈ cs) : s ∈ cs := e
theorem ltP {t : Nat} (e : Nat.blt fs.length t = true) : fs.length < t := Nat.le_of_ble_eq_true e
theorem lenP {p : Nat} (e : ds.length = p) : ds.length = p := e
theorem lenP1 {p : Nat} (e : ds.length + 1 = p) : ds.length + 1 = p := e
theorem rb_asg {env2 : Ev} (e : a env h = .ok d h1) (es : env.set i (some d) = env2) : sAsg (gN i) a env h = .next env2 h1 := by
  rw [← es]
  exact asg_run e
theorem envP {env2 : Ev} {ox : Option D} (e : env.set i ox = env2) : env.set i ox = env2 := e
/-- a tuple unpacked into names -/
inductive UnpN : List Nat → Gts → Prop
  | nil : UnpN [] gsNil
  | cons {i : Nat} {is : List Nat} {g : Gts} (w : UnpN is g) : UnpN (i :: is) (gsCons (gN i) g)
def setAll : Ev → List Nat → List D → Ev
  | env, i :: is, d :: ds => setAll (env.set i (some d)) is ds
  | env, _, _ => env
theorem unpN_run {is : List Nat} {g : Gts} (u : UnpN is g) : ∀ {ds : List D} {env : Ev} {h : Hm}, ds.length = is.length → g ds env h = .next (setAll env is ds) h := by
  induction u with
  | nil =>
    intro ds env h e
    cases ds with
    | nil => rfl
    | cons _ _ => cases e
  | cons w ih =>
    intro ds env h e
    cases ds with
    | nil => cases e
    | cons d ds =>
      exact ih (Nat.succ.inj e)
theorem rb_unp {is : List Nat} {g : Gts} {n : Nat} (e : m env h = .ok (.tup ds) h1) (hl : ds.length = n) (u : UnpN is g) (hn : ds.length = is.length) : sAsg (gU n g) m env h = .next (setAll env is ds) h1 := by
  rw [run_asg, e, bindS_ok]
  unfold gU
  simp only [if_pos hl, unpN_run u hn, only_next]
theorem rb_par (e : mr env h = .ok [x, y] h1) : sPar i j mr env h = .next ((env.set i (some x)).set j (some y)) h1 := by rw [run_par, e, bindS_ok]
theorem rb_retN : sRetN env h = .ret .non h := rfl
theorem rb_raise : sRaise cn env h = .exn ⟨cn, []⟩ env h := rfl
theorem rb_meth {P : Nat} (e : mo env h = .ok (.ref P) h1) (eP : h1[P]? = some (.ins cn fs)) (ln : fs.lookup mn = none) (er : mr env h1 = .ok ds h2) (ef : fn (.ref P :: ds) h2 = .ok x h3) (hl : ds.length + 1 = p) : mMethF cn mn p fn mo mr env h = .ok x h3 := by rw [meth_run e eP ln er hl, ef]
theorem rb_disp {ms : List Pr} {ps : List (D × D)} {kvs : List (Key × D)} (e : mPs ms env h = .ok ps h1) (ek : keysD ps = some kvs) (hk : kvs.length ≤ 15) : mDisp ms env h = .ok (.ref h1.length) (h1 ++ [.dic (mergeD kvs)]) := by
  unfold mDisp
  rw [e, bind_ok]
  simp only [ek]
  rw [if_pos hk]
theorem rb_ps0 : mPs [] env h = .ok [] h := rfl
theorem rb_ps {ms : List Pr} {ps : List (D × D)} (ea : a env h = .ok x h1) (eb : b env h1 = .ok y h2) (er : mPs ms env h2 = .ok ps h3) : mPs ((a, b) :: ms) env h = .ok ((x, y) :: ps) h3 := by
  show (a env h).bind (fun x h1 => (b env h1).bind fun y h2 => (mPs ms env h2).bind fun xs h3 => R.ok ((x, y) :: xs) h3) = _
  rw [ea, bind_ok, eb, bind_ok, er, bind_ok]
/-- indices -/
theorem rb_ixT (e : L2.atI ds n = some d) : fIx (.tup ds) (.int n) h = .ok d h := by
  rw [fIx_t, e]
theorem rb_ixL {q : Nat} (eq : h[q]? = some (.lst ds)) (e : L2.atI ds n = some d) : fIx (.ref q) (.int n) h = .ok d h := by
  unfold fIx
  simp only [eq, e]
theorem lt_t {a b : Int} (e : a < b) : fLt (.int a) (.int b) h = .ok (.bl true) h := by rw [fLt_i, decide_eq_true e]
theorem lt_f {a b : Int} (e : ¬ a < b) : fLt (.int a) (.int b) h = .ok (.bl false) h := by rw [fLt_i, decide_eq_false e]
theorem le_t {a b : Int} (e : a ≤ b) : fLe (.int a) (.int b) h = .ok (.bl true) h := by rw [fLe_i, decide_eq_true e]
theorem le_f {a b : Int} (e : ¬ a ≤ b) : fLe (.int a) (.int b) h = .ok (.bl false) h := by rw [fLe_i, decide_eq_false e]
theorem gt_t {a b : Int} (e : b < a) : fGt (.int a) (.int b) h = .ok (.bl true) h := by rw [fGt_i, decide_eq_true e]
theorem gt_f {a b : Int} (e : ¬ b < a) : fGt (.int a) (.int b) h = .ok (.bl false) h := by rw [fGt_i, decide_eq_false e]
theorem ge_t {a b : Int} (e : b ≤ a) : fGe (.int a) (.int b) h = .ok (.bl true) h := by rw [fGe_i, decide_eq_true e]
theorem ge_f {a b : Int} (e : ¬ b ≤ a) : fGe (.int a) (.int b) h = .ok (.bl false) h := by rw [fGe_i, decide_eq_false e]
theorem eq_t {a b : Int} (e : a = b) : fEq (.int a) (.int b) h = .ok (.bl true) h := by rw [fEq_i, decide_eq_true e]
theorem eq_f {a b : Int} (e : ¬ a = b) : fEq (.int a) (.int b) h = .ok (.bl false) h := by rw [fEq_i, decide_eq_false e]
theorem ne_t {a b : Int} (e : ¬ a = b) : fNe (.int a) (.int b) h = .ok (.bl true) h := by rw [fNe_i, decide_eq_false e]; rfl
theorem ne_f {a b : Int} (e : a = b) : fNe (.int a) (.int b) h = .ok (.bl false) h := by rw [fNe_i, decide_eq_true e]; rfl
theorem eqs_t {a b : Str} (e : a = b) : fEq (.str a) (.str b) h = .ok (.bl true) h := by rw [fEq_s, decide_eq_true e]
theorem eqs_f {a b : Str} (e : ¬ a = b) : fEq (.str a) (.str b) h = .ok (.bl false) h := by rw [fEq_s, decide_eq_false e]
theorem nes_t {a b : Str} (e : ¬ a = b) : fNe (.str a) (.str b) h = .ok (.bl true) h := by rw [fNe_s, decide_eq_false e]; rfl
theorem nes_f {a b : Str} (e : a = b) : fNe (.str a) (.str b) h = .ok (.bl false) h := by rw [fNe_s, decide_eq_true e]; rfl
theorem inT {neg : Bool} {k : Bool} (f1 : flatD x = true) (f2 : ds.all flatD = true) (e : (if neg then !inF x ds else inF x ds) = k) : fIn neg x (.tup ds) h = .ok (.bl k) h := by
  unfold fIn
  simp only [f1, f2, and_self, if_true, e]
theorem inL {neg : Bool} {k : Bool} {q : Nat} (eq : h[q]? = some (.lst ds)) (f1 : flatD x = true) (f2 : ds.all flatD = true) (e : (if neg then !inF x ds else inF x ds) = k) : fIn neg x (.ref q) h = .ok (.bl k) h := by
  unfold fIn
  simp only [eq, f1, f2, and_self, if_true, e]
theorem inD {neg : Bool} {k : Bool} {cc : D} (ec : cc = .tup ds) (f1 : flatD x = true) (f2 : ds.all flatD = true) (e : (if neg then !inF x ds else inF x ds) = k) : fIn neg x cc h = .ok (.bl k) h := by
  rw [ec]
  exact inT f1 f2 e
theorem inN {neg : Bool} {k : Bool} (f1 : flatD x = true) (f2 : ds.all flatD = true) (e : (if neg then !inF x ds else inF x ds) = k) : fIn neg x (.ref h.length) (h ++ [.lst ds]) = .ok (.bl k) (h ++ [.lst ds]) := inL get_new f1 f2 e
theorem fIx_dic {k : Str} {kvs : List (Key × D)} {q : Nat} (eq : h[q]? = some (.dic kvs)) (e : getK kvs (.inr k) = some d) : fIx (.ref q) (.str k) h = .ok d h := by
  unfold fIx
  simp only [eq, keyD, e]
theorem keP {ps : List (D × D)} {kvs : List (Key × D)} (e : keysD ps = some kvs) : keysD ps = some kvs := e
theorem le15 {kvs : List (Key × D)} (e : Nat.ble kvs.length 15 = true) : kvs.length ≤ 15 := Nat.le_of_ble_eq_true e
theorem is_non {neg : Bool} {k : Bool} (e : (if neg then !decide (d = .non) else decide (d = .non)) = k) : fIs neg d .non h = .ok (.bl k) h := by rw [fIs_n, e]
theorem tru_any {kk : Bool} (ea : a env h = .ok (.bl kk) h1) : mTru a env h = .ok kk h1 := tru_run ea
theorem mod_p {a b : Int} (e : 0 < b) : fMod (.int a) (.int b) h = .ok (.int (a % b)) h := fm e
theorem div_p {a b : Int} (e : 0 < b) (e2 : b < 1000000) : fDiv (.int a) (.int b) h = .ok (.int (a / b)) h := fd e e2
theorem mul_r {a b : Int} (e : -1000000 < b ∧ b < 1000000) : fMul (.int a) (.int b) h = .ok (.int (a * b)) h := mu e
theorem mul_l {a b : Int} (e : -1000000 < a ∧ a < 1000000) : fMul (.int a) (.int b) h = .ok (.int (a * b)) h := mu1 e
theorem add_t (e : ds.length + es.length ≤ 16777216) : fAdd (.tup ds) (.tup es) h = .ok (.tup (ds ++ es)) h := by
  unfold fAdd
  simp only [if_pos e]
theorem add_l {q t : Nat} (eq : h[q]? = some (.lst ds)) (et : h[t]? = some (.lst es)) (e : ds.length + es.length ≤ 16777216) : fAdd (.ref q) (.ref t) h = .ok (.ref h.length) (h ++ [.lst (ds ++ es)]) := by
  unfold fAdd
  simp only [eq, et, if_pos e]
theorem sl_t {ox oy : Option Int} : fSl (.tup ds) ox oy h = .ok (.tup (cutD ds ox oy)) h := rfl
theorem itT_run (e : a env h = .ok (.tup ds) h1) : mItA a env h = .ok (ds, []) h1 := by
  rw [run_itA, e, bind_ok]
theorem len_t : fLen [.tup ds] h = .ok (.int (ds.length : Int)) h := rfl
end
end MM
namespace MM
open PySem L2
theorem dd (a m : Int) : a / (2 * m) = a / 2 / m := by
  rw [Int.ediv_ediv, if_neg (by omega), Int.sub_zero]
def bitsL : Nat → Int → List Int
  | 0, _ => []
  | n + 1, a => a % 2 :: bitsL n (a / 2)
def valL : List Int → Int
  | [] => 0
  | b :: l => b + 2 * valL l
theorem bitsL_len : ∀ (n : Nat) (a : Int), (bitsL n a).length = n
  | 0, _ => rfl
  | n + 1, a => by rw [bitsL, List.length_cons, bitsL_len n]
def Bits (l : List Int) : Prop := ∀ b ∈ l, b = 0 ∨ b = 1
theorem bitsL_bits : ∀ (n : Nat) (a : Int), Bits (bitsL n a)
  | 0, _ => fun b hb => by cases hb
  | n + 1, a => fun b hb => by
    rw [bitsL] at hb
    rcases List.mem_cons.mp hb with rfl | hb
    · omega
    · exact bitsL_bits n _ b hb
theorem val_bits : ∀ (n : Nat) (a : Int), 0 ≤ a → a < 2 ^ n → valL (bitsL n a) = a
  | 0, a, h0, h1 => by
    have : a = 0 := by
      have : (2 : Int) ^ 0 = 1 := rfl
      omega
    subst this
    rfl
  | n + 1, a, h0, h1 => by
    rw [bitsL, valL, val_bits n (a / 2) (by omega) (by rw [Int.pow_succ] at h1; omega)]
    omega
theorem val_range : ∀ (l : List Int), Bits l → 0 ≤ valL l ∧ valL l < 2 ^ l.length
  | [], _ => ⟨by decide, by decide⟩
  | b :: l, h => by
    have h1 := val_range l fun x hx => h x (List.mem_cons_of_mem _ hx)
    have h2 := h b List.mem_cons_self
    rw [valL, List.length_cons, Int.pow_succ]
    omega
theorem set_new {h : Hm} {o o2 : O} : (h ++ [o]).set h.length o2 = h ++ [o2] := by
  rw [List.set_append_right _ _ (Nat.le_refl _), Nat.sub_self]
  rfl
theorem fm16 (x : Int) : x.fmod 65536 = x % 65536 := Int.fmod_eq_emod_of_nonneg _ (by decide)
def sgn (a : Int) : Int := if 32768 ≤ a then a - 65536 else a
def shL (a b : Int) : List Int := ((bitsL 16 a).zip (bitsL 16 b)).map fun p => p.1 * p.2
theorem zip_mem {a b : Int} {n : Nat} {p : Int × Int} (h : p ∈ (bitsL n a).zip (bitsL n b)) : (p.1 = 0 ∨ p.1 = 1) ∧ (p.2 = 0 ∨ p.2 = 1) :=
  ⟨bitsL_bits _ _ _ (List.of_mem_zip h).1, bitsL_bits _ _ _ (List.of_mem_zip h).2⟩
theorem sh_bits (a b : Int) : Bits (shL a b) := fun x hx => by
  unfold shL at hx
  obtain ⟨p, hp, rfl⟩ := List.mem_map.mp hx
  have z := zip_mem hp
  rcases z.1 with e | e <;> rcases z.2 with e' | e' <;> rw [e, e'] <;> simp
theorem sh_len (a b : Int) : (shL a b).length = 16 := by
  unfold shL
  rw [List.length_map, List.length_zip, bitsL_len, bitsL_len]
  rfl
theorem val_zip (f : Int → Int → Int) (c : Int) (hf : ∀ x y, (x = 0 ∨ x = 1) → (y = 0 ∨ y = 1) → f x y = x + y - c * (x * y)) : ∀ l m : List Int, l.length = m.length → Bits l → Bits m → valL ((l.zip m).map fun p => f p.1 p.2) = valL l + valL m - c * valL ((l.zip m).map fun p => p.1 * p.2)
  | [], [], _, _, _ => by simp [valL]
  | [], _ :: _, h, _, _ => by cases h
  | _ :: _, [], h, _, _ => by cases h
  | x :: l, y :: m, h, hl, hm => by
    have ih := val_zip f c hf l m (Nat.succ.inj h) (fun b hb => hl b (List.mem_cons_of_mem _ hb)) (fun b hb => hm b (List.mem_cons_of_mem _ hb))
    rw [List.zip_cons_cons, List.map_cons, List.map_cons, valL, valL, valL, valL, ih, hf x y (hl x List.mem_cons_self) (hm y List.mem_cons_self), Int.mul_add, Int.mul_sub, Int.mul_add, ← Int.mul_assoc c 2, Int.mul_comm c 2, Int.mul_assoc 2 c]
    show _ = x + 2 * valL l + (y + 2 * valL m) - (c * (x * y) + _)
    generalize c * (x * y) = u
    generalize c * valL (List.map (fun p => p.fst * p.snd) (l.zip m)) = v
    omega
def upN : Nat → Int → Int
  | 0, a => a
  | n + 1, a => upN n (2 * a % 65536)
theorem imod (b : Int) (h : Hm) : fIMod (.int b) (.int 16) h = .ok (.int (b % 16)) h := rfl
theorem many_nat (b : Int) : ∃ m : Nat, b % 16 = (m : Int) ∧ m < 16 := ⟨(b % 16).toNat, by omega, by omega⟩
def dnN : Nat → Int → Int
  | 0, a => a
  | n + 1, a => dnN n (a / 2)
theorem dnN_eq : ∀ (n : Nat) (a : Int), dnN n a = a / 2 ^ n
  | 0, a => by rw [dnN, show (2 : Int) ^ 0 = 1 from rfl, Int.ediv_one]
  | n + 1, a => by rw [dnN, dnN_eq n, Int.pow_succ, Int.mul_comm, dd]
theorem idiv (b : Int) (h : Hm) : fIDiv (.int b) (.int 2) h = .ok (.int (b / 2)) h := rfl
theorem p2pos (m : Nat) : (0 : Int) < 2 ^ m := Int.pow_pos (by decide)
theorem p16 : (2 : Int) ^ 16 = 65536 := by decide
theorem sgn_mod (a : Int) (h0 : 0 ≤ a) (h1 : a < 65536) : sgn a % 65536 = a := by
  unfold sgn
  by_cases c : 32768 ≤ a
  · rw [if_pos c]; omega
  · rw [if_neg c]; omega
theorem fold_val : ∀ l : List Int, l.reverse.foldl (fun f b => 2 * f + b) 0 = valL l
  | [] => rfl
  | b :: l => by
    rw [List.reverse_cons, List.foldl_append, fold_val l, valL]
    show 2 * valL l + b = _
    omega
end MM
namespace MM
open PySem L2
def N3 : List Str := ["add", "sub", "mul", "and", "or", "xor", "shl", "shr", "sar", "slt", "sltu"]
def N2 : List Str := ["addi", "andi", "ori", "xori", "shli", "slti"]
def NB : List Str := ["beq", "bne", "blt", "bge"]
theorem n3_ind {P : Str → Prop} (h1 : P "add") (h2 : P "sub") (h3 : P "mul") (h4 : P "and") (h5 : P "or") (h6 : P "xor") (h7 : P "shl") (h8 : P "shr") (h9 : P "sar") (h10 : P "slt") (h11 : P "sltu") {n : Str} (hn : n ∈ N3) : P n := by
  simp only [N3, List.mem_cons, List.not_mem_nil, or_false] at hn
  rcases hn with rfl | rfl | rfl | rfl | rfl | rfl | rfl | rfl | rfl | rfl | rfl <;> assumption
theorem n2_ind {P : Str → Prop} (h1 : P "addi") (h2 : P "andi") (h3 : P "ori") (h4 : P "xori") (h5 : P "shli") (h6 : P "slti") {n : Str} (hn : n ∈ N2) : P n := by
  simp only [N2, List.mem_cons, List.not_mem_nil, or_false] at hn
  rcases hn with rfl | rfl | rfl | rfl | rfl | rfl <;> assumption
theorem nb_ind {P : Str → Prop} (h1 : P "beq") (h2 : P "bne") (h3 : P "blt") (h4 : P "bge") {n : Str} (hn : n ∈ NB) : P n := by
  simp only [NB, List.mem_cons, List.not_mem_nil, or_false] at hn
  rcases hn with rfl | rfl | rfl | rfl <;> assumption
inductive Od
  | r3 (n : Str) (d a b : Int) | r2 (n : Str) (d a k : Int) | br (n : Str) (a b k : Int)
  | lui (d k : Int) | lw (d a k : Int) | sw (d a k : Int) | jal (d k : Int) | jalr (d a k : Int) | call (k : Int) | back | halt
  deriving DecidableEq
namespace Od
def d : Od → D
  | r3 n d a b => .tup [.str n, .int d, .int a, .int b]
  | r2 n d a k => .tup [.str n, .int d, .int a, .int k]
  | br n a b k => .tup [.str n, .int a, .int b, .int k]
  | lui d k => .tup [.str "lui", .int d, .int k]
  | lw d a k => .tup [.str "lw", .int d, .int a, .int k]
  | sw d a k => .tup [.str "sw", .int d, .int a, .int k]
  | jal d k => .tup [.str "jal", .int d, .int k]
  | jalr d a k => .tup [.str "jalr", .int d, .int a, .int k]
  | call k => .tup [.str "call", .int k]
  | back => .tup [.str "back"]
  | halt => .tup [.str "halt"]
def nm : Od → Str
  | r3 n _ _ _ => n
  | r2 n _ _ _ => n
  | br n _ _ _ => n
  | lui _ _ => "lui"
  | lw _ _ _ => "lw"
  | sw _ _ _ => "sw"
  | jal _ _ => "jal"
  | jalr _ _ _ => "jalr"
  | call _ => "call"
  | back => "back"
  | halt => "halt"
def args : Od → List Int
  | r3 _ d a b => [d, a, b]
  | r2 _ d a k => [d, a, k]
  | br _ a b k => [a, b, k]
  | lui d k => [d, k]
  | lw d a k => [d, a, k]
  | sw d a k => [d, a, k]
  | jal d k => [d, k]
  | jalr d a k => [d, a, k]
  | call k => [k]
  | back => []
  | halt => []
def kd : Od → Str
  | r3 _ _ _ _ => "rrr"
  | r2 _ _ _ _ => "rrn"
  | br _ _ _ _ => "rrn"
  | lui _ _ => "rn"
  | lw _ _ _ => "rrn"
  | sw _ _ _ => "rrn"
  | jal _ _ => "rn"
  | jalr _ _ _ => "rrn"
  | call _ => "n"
  | back => ""
  | halt => ""
theorem d_eq (o : Od) : o.d = .tup (.str o.nm :: o.args.map D.int) := by cases o <;> rfl
def Rg (r : Int) : Prop := 0 ≤ r ∧ r < 8
def Nu (k : Int) : Prop := -32768 ≤ k ∧ k < 32768
def ok : Od → Prop
  | r3 n d a b => n ∈ N3 ∧ Rg d ∧ Rg a ∧ Rg b
  | r2 n d a k => n ∈ N2 ∧ Rg d ∧ Rg a ∧ Nu k
  | br n a b k => n ∈ NB ∧ Rg a ∧ Rg b ∧ Nu k
  | lui d k => Rg d ∧ Nu k
  | lw d a k => Rg d ∧ Rg a ∧ Nu k
  | sw d a k => Rg d ∧ Rg a ∧ Nu k
  | jal d k => Rg d ∧ Nu k
  | jalr d a k => Rg d ∧ Rg a ∧ Nu k
  | call k => Nu k
  | back => True
  | halt => True
def reads : Od → List Int
  | r3 _ _ a b => [a, b]
  | r2 _ _ a _ => [a]
  | br _ a b _ => [a, b]
  | lw _ a _ => [a]
  | sw d a _ => [d, a]
  | jalr _ a _ => [a]
  | _ => []
theorem reads_ok {o : Od} (h : o.ok) : ∀ r ∈ o.reads, Rg r := by
  intro r hr
  cases o <;> simp only [reads, List.mem_cons, List.not_mem_nil, or_false] at hr <;> simp only [ok] at h
  · rcases hr with rfl | rfl <;> simp only [h]
  · subst hr; exact h.2.2.1
  · rcases hr with rfl | rfl <;> simp only [h]
  · subst hr; exact h.2.1
  · rcases hr with rfl | rfl <;> simp only [h]
  · subst hr; exact h.2.1
theorem reads_len (o : Od) : o.reads.length ≤ 2 := by cases o <;> simp [reads]
/-- the register written, 0 for none -/
def wr : Od → Int
  | r3 _ d _ _ => d
  | r2 _ d _ _ => d
  | lui d _ => d
  | lw d _ _ => d
  | jal d _ => d
  | jalr d _ _ => d
  | _ => 0
theorem wr_ok {o : Od} (h : o.ok) : Rg o.wr := by
  cases o <;> simp only [wr, ok] at * <;> first | exact h.2.1 | exact h.1 | exact ⟨by decide, by decide⟩
def wrD (o : Od) : D := if o.wr = 0 then .non else .int o.wr
end Od
def rck (n : Str) (a b : Int) : Int :=
  if n = "add" ∨ n = "addi" then (a + b) % 65536
  else if n = "sub" then (a - b) % 65536
  else if n = "mul" then a * b % 65536
  else if n = "and" ∨ n = "andi" then valL (shL a b)
  else if n = "or" ∨ n = "ori" then a + b - valL (shL a b)
  else if n = "xor" ∨ n = "xori" then a + b - 2 * valL (shL a b)
  else if n = "shl" ∨ n = "shli" then upN (b % 16).toNat a
  else if n = "shr" then a / 2 ^ (b % 16).toNat
  else if n = "sar" then sgn a / 2 ^ (b % 16).toNat % 65536
  else if n = "slt" ∨ n = "slti" then (if sgn a < sgn b then 1 else 0)
  else (if a < b then 1 else 0)
def Wd (w : Int) : Prop := 0 ≤ w ∧ w < 65536
def tkn (n : Str) (a b : Int) : Bool :=
  if n = "beq" then decide (a = b)
  else if n = "bne" then !decide (a = b)
  else if n = "blt" then decide (sgn a < sgn b)
  else !decide (sgn a < sgn b)
theorem val16 {l : List Int} (h : Bits l) (e : l.length = 16) : 0 ≤ valL l ∧ valL l < 65536 := by
  have := val_range l h
  rw [e] at this
  exact this
theorem either_wd {a b : Int} (ha : Wd a) (hb : Wd b) : Wd (a + b - valL (shL a b)) := by
  have v := val_zip (fun x y => if y > x then y else x) 1 (fun x y hx hy => by rcases hx with rfl | rfl <;> rcases hy with rfl | rfl <;> decide) (bitsL 16 a) (bitsL 16 b) (by rw [bitsL_len, bitsL_len]) (bitsL_bits _ _) (bitsL_bits _ _)
  rw [val_bits 16 a ha.1 (by rw [p16]; exact ha.2), val_bits 16 b hb.1 (by rw [p16]; exact hb.2), Int.one_mul] at v
  have B : Bits (((bitsL 16 a).zip (bitsL 16 b)).map fun p => if p.2 > p.1 then p.2 else p.1) := fun x hx => by
    obtain ⟨p, hp, rfl⟩ := List.mem_map.mp hx
    have z := zip_mem hp
    rcases z.1 with e | e <;> rcases z.2 with e' | e' <;> rw [e, e'] <;> decide
  have l : (((bitsL 16 a).zip (bitsL 16 b)).map fun p => if p.2 > p.1 then p.2 else p.1).length = 16 := by rw [List.length_map, List.length_zip, bitsL_len, bitsL_len]; rfl
  have r := val16 B l
  show Wd (a + b - valL (((bitsL 16 a).zip (bitsL 16 b)).map fun p => p.1 * p.2))
  rw [← v]
  exact r
theorem unlike_wd {a b : Int} (ha : Wd a) (hb : Wd b) : Wd (a + b - 2 * valL (shL a b)) := by
  have v := val_zip (fun x y => (x + y) % 2) 2 (fun x y hx hy => by rcases hx with rfl | rfl <;> rcases hy with rfl | rfl <;> decide) (bitsL 16 a) (bitsL 16 b) (by rw [bitsL_len, bitsL_len]) (bitsL_bits _ _) (bitsL_bits _ _)
  rw [val_bits 16 a ha.1 (by rw [p16]; exact ha.2), val_bits 16 b hb.1 (by rw [p16]; exact hb.2)] at v
  have B : Bits (((bitsL 16 a).zip (bitsL 16 b)).map fun p => (p.1 + p.2) % 2) := fun x hx => by
    obtain ⟨p, hp, rfl⟩ := List.mem_map.mp hx
    have z := zip_mem hp
    rcases z.1 with e | e <;> rcases z.2 with e' | e' <;> rw [e, e'] <;> decide
  have l : (((bitsL 16 a).zip (bitsL 16 b)).map fun p => (p.1 + p.2) % 2).length = 16 := by rw [List.length_map, List.length_zip, bitsL_len, bitsL_len]; rfl
  have r := val16 B l
  show Wd (a + b - 2 * valL (((bitsL 16 a).zip (bitsL 16 b)).map fun p => p.1 * p.2))
  rw [← v]
  exact r
theorem upN_wd : ∀ (n : Nat) {a : Int}, Wd a → Wd (upN n a)
  | 0, _, h => h
  | n + 1, a, _ => upN_wd n ⟨Int.emod_nonneg _ (by decide), Int.emod_lt_of_pos _ (by decide)⟩
theorem div_wd {a : Int} (n : Nat) (h : Wd a) : Wd (a / 2 ^ n) := by
  have p := p2pos n
  refine ⟨Int.ediv_nonneg h.1 (Int.le_of_lt p), ?_⟩
  have := Int.ediv_le_self (b := 2 ^ n) h.1
  exact Int.lt_of_le_of_lt this h.2
theorem mod_wd (a : Int) : Wd (a % 65536) := ⟨Int.emod_nonneg _ (by decide), Int.emod_lt_of_pos _ (by decide)⟩
theorem rck_wd (n : Str) {a b : Int} (ha : Wd a) (hb : Wd b) : Wd (rck n a b) := by
  unfold rck
  split
  · exact mod_wd _
  split
  · exact mod_wd _
  split
  · exact mod_wd _
  split
  · exact val16 (sh_bits a b) (sh_len a b)
  split
  · exact either_wd ha hb
  split
  · exact unlike_wd ha hb
  split
  · exact upN_wd _ ha
  split
  · exact div_wd _ ha
  split
  · exact mod_wd _
  split
  · split <;> exact ⟨by decide, by decide⟩
  · split <;> exact ⟨by decide, by decide⟩
inductive En
  | go | past (p : Int) | halt | fault (c p : Int)
  deriving DecidableEq
def En.d : En → D
  | .go => .non
  | .past p => .tup [.str "past", .int p]
  | .halt => .tup [.str "halt"]
  | .fault c p => .tup [.str "fault", .int c, .int p]
def oi : Option Int → D
  | none => .non
  | some k => .int k
structure Ms where
  pl : Int
  rg : List Int
  me : List Int
  ou : List Int
  ic : List Int
  ca : Int
  bk : Int
  hd : Option Int
  en : En
  ct : Int
structure Ms.ok (m : Ms) : Prop where
  r8 : m.rg.length = 8
  rw : ∀ w ∈ m.rg, Wd w
  m256 : m.me.length = 256
  mw : ∀ w ∈ m.me, Wd w
  iw : ∀ w ∈ m.ic, Wd w
def Ms.new (inc : List Int) : Ms := ⟨0, List.replicate 8 0, List.replicate 256 0, [], inc, 0, 0, none, .go, 0⟩
theorem Ms.new_ok {inc : List Int} (h : ∀ w ∈ inc, Wd w) : (Ms.new inc).ok :=
  ⟨List.length_replicate, fun w hw => by rw [List.eq_of_mem_replicate hw]; exact ⟨by decide, by decide⟩, List.length_replicate, fun w hw => by rw [List.eq_of_mem_replicate hw]; exact ⟨by decide, by decide⟩, h⟩
def rgA (rg : List Int) (r : Int) : Int := rg.getD r.toNat 0
inductive Dd
  | no | load (ad : Int) | store (ad w : Int)
  deriving DecidableEq
def Dd.d : Dd → D
  | .no => .non
  | .load ad => .tup [.str "load", .int ad]
  | .store ad w => .tup [.str "store", .int ad, .int w]
/-- the two words of an order -/
def wdA (rg : List Int) (o : Od) : Int := (o.reads.map (rgA rg) ++ [0, 0]).getD 0 0
def wdB (rg : List Int) (o : Od) : Int := (o.reads.map (rgA rg) ++ [0, 0]).getD 1 0
/-- word, next place, deed -/
def Od.effW (o : Od) (p a b : Int) : Option Int := match o with
  | .r3 n _ _ _ => some (rck n a b)
  | .r2 n _ _ k => some (rck n a (k % 65536))
  | .lui _ k => some (k % 256 * 256)
  | .jal _ _ => some (p + 1)
  | .jalr _ _ _ => some (p + 1)
  | _ => none
def Od.effP (o : Od) (p a b : Int) : Int := match o with
  | .br n _ _ k => if tkn n a b = true then p + k else p + 1
  | .jal _ k => p + k
  | .jalr _ _ k => (a + k % 65536) % 65536
  | _ => p + 1
def Od.effD (o : Od) (a b : Int) : Dd := match o with
  | .lw _ _ k => .load ((a + k % 65536) % 65536)
  | .sw _ _ k => .store ((b + k % 65536) % 65536) a
  | _ => .no
def putR (rg : List Int) (c w : Int) : List Int := if c = 0 then rg else rg.set c.toNat w
def Ms.fault (m : Ms) (c : Int) : Ms := match m.hd with
  | none => { m with ca := c, bk := m.pl, en := .fault c m.pl }
  | some t => { m with ca := c, bk := m.pl, pl := t }
theorem Ms.fault_none {m : Ms} {c : Int} (e : m.hd = none) : m.fault c = { m with ca := c, bk := m.pl, en := .fault c m.pl } := by
  unfold Ms.fault
  split
  · rfl
  · rename_i t q
    rw [e] at q
    cases q
theorem Ms.fault_some {m : Ms} {c t : Int} (e : m.hd = some t) : m.fault c = { m with ca := c, bk := m.pl, pl := t } := by
  unfold Ms.fault
  split
  · rename_i q
    rw [e] at q
    cases q
  · rename_i u q
    rw [e] at q
    cases q
    rfl
def Ms.call (m : Ms) (k : Int) : Ms :=
  if k = 0 then { m with hd := some (rgA m.rg 1), pl := m.pl + 1 }
  else Ms.fault { m with rg := putR m.rg 7 (k % 65536), pl := m.pl + 1 } 2
/-- a deed, the word for the register and the next place given -/
def Ms.dd (m : Ms) (o : Od) (t w : Int) : Dd → Ms
  | .no => { m with rg := putR m.rg o.wr w, pl := t }
  | .load ad =>
    if ad = 254 then { m with rg := putR m.rg o.wr (m.ic.headD 0), ic := m.ic.tail, pl := t }
    else if 256 ≤ ad then m.fault 1
    else { m with rg := putR m.rg o.wr (rgA m.me ad), pl := t }
  | .store ad w =>
    if 256 ≤ ad then m.fault 1
    else if ad = 255 then { m with ou := m.ou ++ [w], pl := t }
    else if ad = 254 then { m with pl := t }
    else { m with me := m.me.set ad.toNat w, pl := t }
/-- an order that reckons, loads, stores or leads on -/
def Ms.exec (m : Ms) (o : Od) : Ms := m.dd o (o.effP m.pl (wdA m.rg o) (wdB m.rg o)) ((o.effW m.pl (wdA m.rg o) (wdB m.rg o)).getD 0) (o.effD (wdA m.rg o) (wdB m.rg o))
def Ms.doO (m : Ms) (o : Od) : Ms := match o with
  | .halt => { m with ct := m.ct + 1, en := .halt }
  | .call k => Ms.call { m with ct := m.ct + 1 } k
  | .back => { m with ct := m.ct + 1, pl := m.bk }
  | o => Ms.exec { m with ct := m.ct + 1 } o
def Ms.step (pr : List Od) (m : Ms) : Ms :=
  if m.en ≠ .go then m
  else match pr[m.pl.toNat]? with
    | some o => if 0 ≤ m.pl then m.doO o else { m with en := .past m.pl }
    | none => { m with en := .past m.pl }
def Od.kv : Od → List (Str × Int)
  | .r3 _ d a b => [("r", d), ("r", a), ("r", b)]
  | .r2 _ d a k => [("r", d), ("r", a), ("n", k)]
  | .br _ a b k => [("r", a), ("r", b), ("n", k)]
  | .lui d k => [("r", d), ("n", k)]
  | .lw d a k => [("r", d), ("r", a), ("n", k)]
  | .sw d a k => [("r", d), ("r", a), ("n", k)]
  | .jal d k => [("r", d), ("n", k)]
  | .jalr d a k => [("r", d), ("r", a), ("n", k)]
  | .call k => [("n", k)]
  | .back => []
  | .halt => []
theorem Od.kv_ok {o : Od} (k : o.ok) : ∀ p ∈ o.kv, (p.1 = "r" ∧ Od.Rg p.2) ∨ (p.1 = "n" ∧ Od.Nu p.2) := by
  intro p hp
  cases o <;> simp only [Od.kv, List.mem_cons, List.not_mem_nil, or_false] at hp <;> simp only [Od.ok] at k
  · rcases hp with rfl | rfl | rfl
    · exact .inl ⟨rfl, k.2.1⟩
    · exact .inl ⟨rfl, k.2.2.1⟩
    · exact .inl ⟨rfl, k.2.2.2⟩
  · rcases hp with rfl | rfl | rfl
    · exact .inl ⟨rfl, k.2.1⟩
    · exact .inl ⟨rfl, k.2.2.1⟩
    · exact .inr ⟨rfl, k.2.2.2⟩
  · rcases hp with rfl | rfl | rfl
    · exact .inl ⟨rfl, k.2.1⟩
    · exact .inl ⟨rfl, k.2.2.1⟩
    · exact .inr ⟨rfl, k.2.2.2⟩
  · rcases hp with rfl | rfl
    · exact .inl ⟨rfl, k.1⟩
    · exact .inr ⟨rfl, k.2⟩
  · rcases hp with rfl | rfl | rfl
    · exact .inl ⟨rfl, k.1⟩
    · exact .inl ⟨rfl, k.2.1⟩
    · exact .inr ⟨rfl, k.2.2⟩
  · rcases hp with rfl | rfl | rfl
    · exact .inl ⟨rfl, k.1⟩
    · exact .inl ⟨rfl, k.2.1⟩
    · exact .inr ⟨rfl, k.2.2⟩
  · rcases hp with rfl | rfl
    · exact .inl ⟨rfl, k.1⟩
    · exact .inr ⟨rfl, k.2⟩
  · rcases hp with rfl | rfl | rfl
    · exact .inl ⟨rfl, k.1⟩
    · exact .inl ⟨rfl, k.2.1⟩
    · exact .inr ⟨rfl, k.2.2⟩
  · subst hp
    exact .inr ⟨rfl, k⟩
theorem Od.zip_kv (o : Od) : zipD (signs o.kd) (o.args.map D.int) = o.kv.map fun p => D.tup [.str p.1, .int p.2] := by cases o <;> rfl
theorem Od.kd_asc (o : Od) : o.kd.cps.all (· < 128) = true := by cases o <;> simp only [Od.kd] <;> decide +kernel
def NAM : List Str := ["add", "sub", "mul", "and", "or", "xor", "shl", "shr", "sar", "slt", "sltu", "addi", "andi", "ori", "xori", "shli", "slti", "beq", "bne", "blt", "bge", "lui", "lw", "sw", "jal", "jalr", "call", "back", "halt"]
theorem Od.nm_in {o : Od} (k : o.ok) : o.nm ∈ NAM := by
  cases o <;> simp only [Od.ok] at k <;> simp only [Od.nm] <;> first
    | exact n3_ind (P := fun n => n ∈ NAM) (by decide) (by decide) (by decide) (by decide) (by decide) (by decide) (by decide) (by decide) (by decide) (by decide) (by decide) k.1
    | exact n2_ind (P := fun n => n ∈ NAM) (by decide) (by decide) (by decide) (by decide) (by decide) (by decide) k.1
    | exact nb_ind (P := fun n => n ∈ NAM) (by decide) (by decide) (by decide) (by decide) k.1
    | decide
theorem inF_str (x : Str) : ∀ l : List Str, inF (.str x) (l.map D.str) = decide (x ∈ l)
  | [] => by simp [inF]
  | y :: l => by
    have ih := inF_str x l
    unfold inF at ih ⊢
    rw [List.map_cons, List.any_cons, ih]
    by_cases h : y = x
    · subst h
      simp [eqF]
    · have h2 : ¬ x = y := fun z => h z.symm
      simp [eqF, h, h2]
theorem lay_nam : ∀ n ∈ NAM, PyData.canLay0 (.str n) = true := by
  unfold NAM
  intro n hn
  simp only [List.mem_cons, List.not_mem_nil, or_false] at hn
  rcases hn with rfl | rfl | rfl | rfl | rfl | rfl | rfl | rfl | rfl | rfl | rfl | rfl | rfl | rfl | rfl | rfl | rfl | rfl | rfl | rfl | rfl | rfl | rfl | rfl | rfl | rfl | rfl | rfl | rfl <;> decide +kernel
def Od.py (o : Od) : PyData := .tuple (.str o.nm :: o.args.map PyData.int)
theorem py_str {h : Hm} {n : Nat} {x : Str} (e : PyData.canLay0 (.str x) = true) : py h (n + 1) (.str x) = some (.str x) := by
  show (if PyData.canLay0 (.str x) = true then some (PyData.str x) else none) = _
  rw [if_pos e]
theorem py_tup {h : Hm} {n : Nat} {ds : List D} {qs : List PyData} (e : mapO (py h n) ds = some qs) : py h (n + 1) (.tup ds) = some (.tuple qs) := by
  show (mapO (py h n) ds).map PyData.tuple = _
  rw [e]
  rfl
theorem mapO_cons {α β : Type} {f : α → Option β} {a : α} {as : List α} {b : β} {bs : List β} (e1 : f a = some b) (e2 : mapO f as = some bs) : mapO f (a :: as) = some (b :: bs) := by
  unfold mapO
  rw [e1, e2]
theorem Od.py_ok {o : Od} (k : o.ok) (h : Hm) (n : Nat) : MM.py h (n + 2) o.d = some o.py := by
  rw [Od.d_eq]
  exact py_tup (mapO_cons (py_str (lay_nam _ (Od.nm_in k))) (py_ints o.args))
theorem eq_nilT {h : Hm} {ds : List D} {q : PyData} {qs : List PyData} (e : py h 60 (.tup ds) = some (.tuple (q :: qs))) : fEq (.tup ds) (.tup []) h = .ok (.bl false) h := by
  unfold fEq
  rw [if_neg (show ¬ flat2 (.tup ds) (.tup []) = true from Bool.false_ne_true), e, show py h 60 (.tup []) = some (.tuple []) from rfl]
  rfl
theorem ne_nilT {h : Hm} {ds : List D} {q : PyData} {qs : List PyData} (e : py h 60 (.tup ds) = some (.tuple (q :: qs))) : fNe (.tup ds) (.tup []) h = .ok (.bl true) h := by
  unfold fNe
  rw [if_neg (show ¬ flat2 (.tup ds) (.tup []) = true from Bool.false_ne_true), e, show py h 60 (.tup []) = some (.tuple []) from rfl]
  rfl
theorem cutD_tl {d : D} {ds : List D} : cutD (d :: ds) (some 1) none = ds := by
  unfold cutD HT.sIx
  simp
end MM
namespace MM
open PySem L2
def prD (pr : List Od) : D := .tup (pr.map Od.d)
def sfl (pr : List Od) (R M : Nat) (m : Ms) : List (Str × D) := [("program", prD pr), ("place", .int m.pl), ("registers", .ref R), ("memory", .ref M), ("out", .tup (m.ou.map D.int)), ("incoming", .tup (m.ic.map D.int)), ("cause", .int m.ca), ("return_place", .int m.bk), ("handler", oi m.hd), ("ended", m.en.d), ("count", .int m.ct)]
structure StH (h : Hm) (P R M : Nat) (pr : List Od) (m : Ms) : Prop where
  hP : h[P]? = some (.ins "State" (sfl pr R M m))
  hR : h[R]? = some (.lst (m.rg.map D.int))
  hM : h[M]? = some (.lst (m.me.map D.int))
  nR : R ≠ P
  nM : M ≠ P
  nRM : M ≠ R
section
variable {h h' : Hm} {P R M : Nat} {pr : List Od} {m m' : Ms}
theorem get_lt {j : Nat} {o : O} (e : h[j]? = some o) : j < h.length := (List.getElem?_eq_some_iff.mp e).1
theorem set_get {j : Nat} {o o' : O} (e : h[j]? = some o) : (h.set j o')[j]? = some o' := List.getElem?_set_self (get_lt e)
theorem set_ne {i j : Nat} {o' : O} (n : j ≠ i) : (h.set i o')[j]? = h[j]? := List.getElem?_set_ne (Ne.symm n)
theorem StH.setP (s : StH h P R M pr m) (e1 : m'.rg = m.rg) (e2 : m'.me = m.me) : StH (h.set P (.ins "State" (sfl pr R M m'))) P R M pr m' :=
  ⟨set_get s.hP, by rw [set_ne s.nR, e1]; exact s.hR, by rw [set_ne s.nM, e2]; exact s.hM, s.nR, s.nM, s.nRM⟩
theorem StH.setR (s : StH h P R M pr m) {l : List Int} : StH (h.set R (.lst (l.map D.int))) P R M pr { m with rg := l } :=
  ⟨by rw [set_ne (Ne.symm s.nR)]; exact s.hP, set_get s.hR, by rw [set_ne s.nRM]; exact s.hM, s.nR, s.nM, s.nRM⟩
theorem StH.setM (s : StH h P R M pr m) {l : List Int} : StH (h.set M (.lst (l.map D.int))) P R M pr { m with me := l } :=
  ⟨by rw [set_ne (Ne.symm s.nM)]; exact s.hP, by rw [set_ne (Ne.symm s.nRM)]; exact s.hR, set_get s.hM, s.nR, s.nM, s.nRM⟩
theorem StH.kl (s : StH h P R M pr m) {S : List Nat} (k : KL S h h') (n1 : P ∉ S) (n2 : R ∉ S) (n3 : M ∉ S) : StH h' P R M pr m :=
  ⟨k.get s.hP n1, k.get s.hR n2, k.get s.hM n3, s.nR, s.nM, s.nRM⟩
theorem StH.app (s : StH h P R M pr m) {g : Hm} : StH (h ++ g) P R M pr m := ⟨keep_app s.hP, keep_app s.hR, keep_app s.hM, s.nR, s.nM, s.nRM⟩
theorem putD_pl (z : Int) : putD "place" (.int z) (sfl pr R M m) = sfl pr R M { m with pl := z } := rfl
theorem putD_ou (l : List Int) : putD "out" (.tup (l.map D.int)) (sfl pr R M m) = sfl pr R M { m with ou := l } := rfl
theorem putD_ic (l : List Int) : putD "incoming" (.tup (l.map D.int)) (sfl pr R M m) = sfl pr R M { m with ic := l } := rfl
theorem putD_ca (z : Int) : putD "cause" (.int z) (sfl pr R M m) = sfl pr R M { m with ca := z } := rfl
theorem putD_bk (z : Int) : putD "return_place" (.int z) (sfl pr R M m) = sfl pr R M { m with bk := z } := rfl
theorem putD_ct (z : Int) : putD "count" (.int z) (sfl pr R M m) = sfl pr R M { m with ct := z } := rfl
end
theorem rg_ix {rg : List Int} {r : Int} {R : Nat} {h : Hm} (e : h[R]? = some (.lst (rg.map D.int))) (k0 : 0 ≤ r) (k1 : r < rg.length) : fIx (.ref R) (.int r) h = .ok (.int (rgA rg r)) h := ix_get e k0 k1
theorem rgA_wd {rg : List Int} (w : ∀ x ∈ rg, Wd x) (r : Int) : Wd (rgA rg r) := by
  unfold rgA
  rw [List.getD_eq_getElem?_getD]
  cases q : rg[r.toNat]? with
  | none => exact ⟨by decide, by decide⟩
  | some x => exact w x (List.mem_of_getElem? q)
theorem wd_mem {rg : List Int} (w : ∀ x ∈ rg, Wd x) (l : List Int) (i : Nat) : Wd ((l.map (rgA rg) ++ [0, 0]).getD i 0) := by
  rw [List.getD_eq_getElem?_getD]
  cases q : (l.map (rgA rg) ++ [0, 0])[i]? with
  | none => exact ⟨by decide, by decide⟩
  | some x =>
    have hm := List.mem_of_getElem? q
    rcases List.mem_append.mp hm with hm | hm
    · obtain ⟨r, _, rfl⟩ := List.mem_map.mp hm
      exact rgA_wd w r
    · have : x = 0 := by simpa using hm
      subst this
      exact ⟨by decide, by decide⟩
def Ms.seenD (m : Ms) : D := .tup [.int m.pl, .tup (m.rg.map D.int), .tup (m.me.map D.int), .tup (m.ou.map D.int), .tup (m.ic.map D.int), .int m.ca, .int m.bk, oi m.hd, m.en.d]
def effDt (o : Od) (p a b : Int) : D := .tup [(match o.effW p a b with | some w => .int w | none => .non), .int (o.effP p a b), (o.effD a b).d]
theorem add_tl {h : Hm} {l l2 : List Int} (e : l.length + l2.length ≤ 1000000) : fAdd (.tup (l.map D.int)) (.tup (l2.map D.int)) h = .ok (.tup ((l ++ l2).map D.int)) h := by
  rw [add_t (by rw [List.length_map, List.length_map]; omega), List.map_append]
theorem en_is {e : En} {h : Hm} (n : Bool) : fIs n e.d .non h = .ok (.bl (if n then !decide (e = .go) else decide (e = .go))) h := by
  cases e <;> cases n <;> rfl
theorem Ms.step_end {pr : List Od} {m : Ms} (e : m.en ≠ .go) : m.step pr = m := by
  unfold Ms.step
  rw [if_pos e]
theorem Ms.step_out {pr : List Od} {m : Ms} (e : m.en = .go) (o : ¬ (0 ≤ m.pl ∧ m.pl < pr.length)) : m.step pr = { m with en := .past m.pl } := by
  unfold Ms.step
  rw [if_neg (fun z => z e)]
  cases q : pr[m.pl.toNat]? with
  | none => rfl
  | some x =>
    have hl := (List.getElem?_eq_some_iff.mp q).1
    have : ¬ 0 ≤ m.pl := fun z => o ⟨z, by omega⟩
    simp only [if_neg this]
theorem Ms.step_in {pr : List Od} {m : Ms} {o : Od} (e : m.en = .go) (h0 : 0 ≤ m.pl) (q : pr[m.pl.toNat]? = some o) : m.step pr = m.doO o := by
  unfold Ms.step
  rw [if_neg (fun z => z e), q]
  simp only [if_pos h0]
theorem pr_ix {pr : List Od} {p : Int} {o : Od} {h : Hm} (h0 : 0 ≤ p) (q : pr[p.toNat]? = some o) : fIx (prD pr) (.int p) h = .ok o.d h := by
  have hl := (List.getElem?_eq_some_iff.mp q).1
  refine rb_ixT ?_
  unfold L2.atI ixN
  rw [List.length_map, if_pos h0]
  have : p < pr.length := by omega
  simp [this, q]
theorem pr_len {pr : List Od} {h : Hm} : fLen [prD pr] h = .ok (.int (pr.length : Int)) h := by
  show R.ok (D.int ((pr.map Od.d).length : Nat)) h = _
  rw [List.length_map]
/-- an order that is neither halt nor call nor back -/
def Od.ex (o : Od) : Prop := o ≠ .halt ∧ o ≠ .back ∧ ∀ k, o ≠ .call k
theorem Ms.doO_ex {m : Ms} {o : Od} (e : o.ex) : m.doO o = Ms.exec { m with ct := m.ct + 1 } o := by
  cases o <;> first
    | rfl
    | exact (e.1 rfl).elim
    | exact (e.2.1 rfl).elim
    | exact (e.2.2 _ rfl).elim
theorem Od.ex_nm {o : Od} (k : o.ok) (e : o.ex) : o.nm ≠ "halt" ∧ o.nm ≠ "call" ∧ o.nm ≠ "back" := by
  cases o <;> simp only [Od.ok] at k <;> simp only [Od.nm] <;> first
    | exact n3_ind (P := fun n => n ≠ "halt" ∧ n ≠ "call" ∧ n ≠ "back") (by decide) (by decide) (by decide) (by decide) (by decide) (by decide) (by decide) (by decide) (by decide) (by decide) (by decide) k.1
    | exact n2_ind (P := fun n => n ≠ "halt" ∧ n ≠ "call" ∧ n ≠ "back") (by decide) (by decide) (by decide) (by decide) (by decide) (by decide) k.1
    | exact nb_ind (P := fun n => n ≠ "halt" ∧ n ≠ "call" ∧ n ≠ "back") (by decide) (by decide) (by decide) (by decide) k.1
    | exact ⟨by decide, by decide, by decide⟩
    | exact (e.1 rfl).elim
    | exact (e.2.1 rfl).elim
    | exact (e.2.2 _ rfl).elim
theorem Od.d_ix0 {o : Od} {h : Hm} : fIx o.d (.int 0) h = .ok (.str o.nm) h := by
  rw [Od.d_eq]
  exact rb_ixT (by unfold L2.atI ixN; simp)
theorem Od.effW_some {o : Od} {p a b : Int} (n : o.effD a b = .no) (z : o.wr ≠ 0) : ∃ w, o.effW p a b = some w := by
  cases o <;> first
    | exact ⟨_, rfl⟩
    | exact (z rfl).elim
    | cases n
/-- what a step's end leaves, whether it returns or not -/
def EndsAt (r : SR) (h' : Hm) : Prop := (∃ e, r = .next e h') ∨ r = .ret .non h'
theorem EndsAt.nx {r : SR} {h' : Hm} {e : Ev} (q : r = .next e h') : EndsAt r h' := .inl ⟨e, q⟩
theorem EndsAt.rt {r : SR} {h' : Hm} (q : r = .ret .non h') : EndsAt r h' := .inr q
theorem call_ends {f : Fc} {n p : Nat} {m : Ev → Hm → SR} {ds : List D} {h h1 : Hm} (ef : f = callM n p m) (hl : ds.length = p) (e : EndsAt (m (startE n ds) h) h1) : f ds h = .ok .non h1 := by
  rcases e with ⟨e', e⟩ | e
  · exact call_next ef hl e
  · exact call_ret ef hl e
theorem ends_seq {sa sb : Ev → Hm → SR} {env e1 : Ev} {h h1 h2 : Hm} (a : sa env h = .next e1 h1) (b : EndsAt (sb e1 h1) h2) : EndsAt (sSeq sa sb env h) h2 := by
  rcases b with ⟨e', e⟩ | e
  · exact .inl ⟨e', seq_next a e⟩
  · exact .inr (seq_next a e)
end MM
namespace MM
open PySem L2
theorem putR_len (rg : List Int) (c w : Int) : (putR rg c w).length = rg.length := by
  unfold putR
  split
  · rfl
  · rw [List.length_set]
theorem putR_wd {rg : List Int} {c w : Int} (h : ∀ x ∈ rg, Wd x) (hw : c ≠ 0 → Wd w) : ∀ x ∈ putR rg c w, Wd x := by
  unfold putR
  intro x hx
  split at hx
  · exact h x hx
  · rename_i n
    rcases List.mem_or_eq_of_mem_set hx with hx | rfl
    · exact h x hx
    · exact hw n
theorem set_wd {l : List Int} {n : Nat} {w : Int} (h : ∀ x ∈ l, Wd x) (hw : Wd w) : ∀ x ∈ l.set n w, Wd x := fun x hx => by
  rcases List.mem_or_eq_of_mem_set hx with hx | rfl
  · exact h x hx
  · exact hw
structure Ms.good (m : Ms) : Prop where
  ok : m.ok
  ou : (m.ou.length : Int) ≤ m.ct
theorem Ms.fault_ok {m : Ms} {c : Int} (k : m.ok) : (m.fault c).ok ∧ (m.fault c).ou = m.ou ∧ (m.fault c).ct = m.ct := by
  cases e : m.hd with
  | none => rw [Ms.fault_none e]; exact ⟨⟨k.r8, k.rw, k.m256, k.mw, k.iw⟩, rfl, rfl⟩
  | some t => rw [Ms.fault_some e]; exact ⟨⟨k.r8, k.rw, k.m256, k.mw, k.iw⟩, rfl, rfl⟩
theorem Ms.call_ok {m : Ms} {c : Int} (k : m.ok) : (m.call c).ok ∧ (m.call c).ou = m.ou ∧ (m.call c).ct = m.ct := by
  unfold Ms.call
  split
  · exact ⟨⟨k.r8, k.rw, k.m256, k.mw, k.iw⟩, rfl, rfl⟩
  · exact Ms.fault_ok ⟨by rw [putR_len]; exact k.r8, putR_wd (c := 7) (w := c % 65536) k.rw fun _ => mod_wd c, k.m256, k.mw, k.iw⟩
theorem headD_wd {l : List Int} (h : ∀ x ∈ l, Wd x) : Wd (l.headD 0) := by
  cases l with
  | nil => exact ⟨by decide, by decide⟩
  | cons a l => exact h a List.mem_cons_self
theorem Ms.dd_ok {m : Ms} {o : Od} {t w : Int} {d : Dd} (k : m.ok) (hw : o.wr ≠ 0 → d = .no → Wd w) (hd : ∀ ad v, d = .store ad v → Wd v) : (m.dd o t w d).ok ∧ ((m.dd o t w d).ou = m.ou ∨ ∃ v, (m.dd o t w d).ou = m.ou ++ [v]) ∧ (m.dd o t w d).ct = m.ct := by
  cases d with
  | no => exact ⟨⟨by rw [← k.r8]; exact putR_len _ _ _, putR_wd k.rw fun z => hw z rfl, k.m256, k.mw, k.iw⟩, .inl rfl, rfl⟩
  | load ad =>
    simp only [Ms.dd]
    split
    · exact ⟨⟨by rw [← k.r8]; exact putR_len _ _ _, putR_wd k.rw fun _ => headD_wd k.iw, k.m256, k.mw, fun x hx => k.iw x (List.mem_of_mem_tail hx)⟩, .inl rfl, rfl⟩
    · split
      · obtain ⟨a, b, c⟩ := Ms.fault_ok (c := 1) k
        exact ⟨a, .inl b, c⟩
      · exact ⟨⟨by rw [← k.r8]; exact putR_len _ _ _, putR_wd k.rw fun _ => rgA_wd k.mw _, k.m256, k.mw, k.iw⟩, .inl rfl, rfl⟩
  | store ad v =>
    simp only [Ms.dd]
    split
    · obtain ⟨a, b, c⟩ := Ms.fault_ok (c := 1) k
      exact ⟨a, .inl b, c⟩
    · split
      · exact ⟨⟨k.r8, k.rw, k.m256, k.mw, k.iw⟩, .inr ⟨v, rfl⟩, rfl⟩
      · split
        · exact ⟨⟨k.r8, k.rw, k.m256, k.mw, k.iw⟩, .inl rfl, rfl⟩
        · exact ⟨⟨k.r8, k.rw, by rw [← k.m256]; exact List.length_set .., set_wd k.mw (hd ad v rfl), k.iw⟩, .inl rfl, rfl⟩
theorem effW_wd {o : Od} {p a b w : Int} (ha : Wd a) (hb : Wd b) (p0 : 0 ≤ p) (p1 : p < 60000) (e : o.effW p a b = some w) : Wd w := by
  cases o <;> simp only [Od.effW, Option.some.injEq, reduceCtorEq] at e <;> subst e
  · exact rck_wd _ ha hb
  · exact rck_wd _ ha (mod_wd _)
  · exact ⟨by omega, by omega⟩
  · exact ⟨by omega, by omega⟩
  · exact ⟨by omega, by omega⟩
theorem Ms.exec_ok {m : Ms} {o : Od} (k : m.ok) (p0 : 0 ≤ m.pl) (p1 : m.pl < 60000) : (m.exec o).ok ∧ ((m.exec o).ou = m.ou ∨ ∃ v, (m.exec o).ou = m.ou ++ [v]) ∧ (m.exec o).ct = m.ct := by
  have ha : Wd (wdA m.rg o) := wd_mem k.rw _ _
  have hb : Wd (wdB m.rg o) := wd_mem k.rw _ _
  refine Ms.dd_ok k (fun z n => ?_) fun ad v e => ?_
  · obtain ⟨w, q⟩ := Od.effW_some (p := m.pl) n z
    rw [q]
    exact effW_wd ha hb p0 p1 q
  · cases o <;> first
      | (cases e; exact ha)
      | cases e
theorem Ms.doO_ok {m : Ms} {o : Od} (k : m.ok) (p0 : 0 ≤ m.pl) (p1 : m.pl < 60000) : (m.doO o).ok ∧ ((m.doO o).ou = m.ou ∨ ∃ v, (m.doO o).ou = m.ou ++ [v]) ∧ (m.doO o).ct = m.ct + 1 := by
  have k1 : Ms.ok { m with ct := m.ct + 1 } := ⟨k.r8, k.rw, k.m256, k.mw, k.iw⟩
  by_cases x1 : o = .halt
  · subst x1
    exact ⟨⟨k.r8, k.rw, k.m256, k.mw, k.iw⟩, .inl rfl, rfl⟩
  · by_cases x2 : ∃ c, o = .call c
    · obtain ⟨c, rfl⟩ := x2
      obtain ⟨a, b, c⟩ := Ms.call_ok (c := c) k1
      exact ⟨a, .inl b, c⟩
    · by_cases x3 : o = .back
      · subst x3
        exact ⟨⟨k.r8, k.rw, k.m256, k.mw, k.iw⟩, .inl rfl, rfl⟩
      · rw [Ms.doO_ex ⟨x1, x3, fun c z => x2 ⟨c, z⟩⟩]
        exact Ms.exec_ok k1 p0 p1
theorem Ms.step_good {pr : List Od} {m : Ms} (g : m.good) (l : pr.length ≤ 400) : (m.step pr).good ∧ (m.step pr).ct ≤ m.ct + 1 ∧ (m.en = .go → (m.step pr).en ≠ .go ∧ (m.step pr).ct = m.ct ∨ (m.step pr).ct = m.ct + 1) := by
  by_cases e : m.en = .go
  · by_cases c : 0 ≤ m.pl ∧ m.pl < pr.length
    · obtain ⟨o, q⟩ : ∃ o, pr[m.pl.toNat]? = some o := ⟨_, List.getElem?_eq_getElem (by omega)⟩
      rw [Ms.step_in e c.1 q]
      obtain ⟨k1, k2, k3⟩ := Ms.doO_ok (o := o) g.ok c.1 (by omega)
      refine ⟨⟨k1, ?_⟩, by omega, fun _ => .inr k3⟩
      have := g.ou
      rcases k2 with k2 | ⟨v, k2⟩
      · rw [k2, k3]; omega
      · rw [k2, k3, List.length_append, List.length_singleton]; omega
    · rw [Ms.step_out e c]
      exact ⟨⟨⟨g.ok.r8, g.ok.rw, g.ok.m256, g.ok.mw, g.ok.iw⟩, g.ou⟩, by simp; omega, fun _ => .inl ⟨by simp, rfl⟩⟩
  · rw [Ms.step_end e]
    exact ⟨g, by omega, fun z => (e z).elim⟩
def Ms.iter (pr : List Od) : Nat → Ms → Ms
  | 0, m => m
  | n + 1, m => Ms.iter pr n (m.step pr)
theorem Ms.iter_succ (pr : List Od) : ∀ (n : Nat) (m : Ms), Ms.iter pr (n + 1) m = (Ms.iter pr n m).step pr
  | 0, m => rfl
  | n + 1, m => by
    rw [Ms.iter, Ms.iter_succ pr n]
    rfl
theorem Ms.new_good {inc : List Int} (h : ∀ w ∈ inc, Wd w) : (Ms.new inc).good := ⟨Ms.new_ok h, by simp [Ms.new]⟩
theorem wh_next {c : Ev → Hm → R Bool} {b : Ev → Hm → SR} {n : Nat} {env e1 : Ev} {h h1 h2 : Hm} {r : SR} (ec : c env h = .ok true h1) (eb : b env h1 = .next e1 h2) (k : sWhile c b n e1 h2 = r) : sWhile c b (n + 1) env h = r := by
  unfold sWhile
  rw [ec, bindS_ok, if_pos rfl, eb]
  exact k
theorem wh_exn {c : Ev → Hm → R Bool} {b : Ev → Hm → SR} {n : Nat} {env e1 : Ev} {h h1 h2 : Hm} {x : Ex} (ec : c env h = .ok true h1) (eb : b env h1 = .exn x e1 h2) : sWhile c b (n + 1) env h = .exn x e1 h2 := by
  unfold sWhile
  rw [ec, bindS_ok, if_pos rfl, eb]
theorem wh_end {c : Ev → Hm → R Bool} {b : Ev → Hm → SR} {n : Nat} {env : Ev} {h h1 : Hm} (ec : c env h = .ok false h1) : sWhile c b (n + 1) env h = .next env h1 := by
  unfold sWhile
  rw [ec, bindS_ok, if_neg Bool.false_ne_true]
end MM
namespace MM
open PySem L2
def lpB (f : Int → Int → Int) : Nat → Int → Int → Int → Int → Int
  | 0, r, _, _, _ => r
  | n + 1, r, w, x, y => lpB f n (r + f (x % 2) (y % 2) * w) (w * 2) (x / 2) (y / 2)
theorem lpB_eq (f : Int → Int → Int) : ∀ (n : Nat) (r w x y : Int), lpB f n r w x y = r + w * valL (((bitsL n x).zip (bitsL n y)).map fun p => f p.1 p.2)
  | 0, r, w, x, y => by simp [lpB, bitsL, valL]
  | n + 1, r, w, x, y => by
    rw [lpB, lpB_eq f n, bitsL, bitsL, List.zip_cons_cons, List.map_cons, valL]
    generalize valL (((bitsL n (x / 2)).zip (bitsL n (y / 2))).map fun p => f p.1 p.2) = v
    show r + f (x % 2) (y % 2) * w + w * 2 * v = r + w * (f (x % 2) (y % 2) + 2 * v)
    rw [Int.mul_add, ← Int.mul_assoc w 2 v, Int.mul_comm w (f (x % 2) (y % 2))]
    omega
theorem lp_and (a b : Int) : lpB (fun u v => u * v) 16 0 1 a b = valL (shL a b) := by
  rw [lpB_eq, Int.zero_add, Int.one_mul]
  rfl
theorem lp_or {a b : Int} (ha : Wd a) (hb : Wd b) : lpB (fun u v => if v > u then v else u) 16 0 1 a b = a + b - valL (shL a b) := by
  rw [lpB_eq, Int.zero_add, Int.one_mul]
  have v := val_zip (fun x y => if y > x then y else x) 1 (fun x y hx hy => by rcases hx with rfl | rfl <;> rcases hy with rfl | rfl <;> decide) (bitsL 16 a) (bitsL 16 b) (by rw [bitsL_len, bitsL_len]) (bitsL_bits _ _) (bitsL_bits _ _)
  rw [val_bits 16 a ha.1 (by rw [p16]; exact ha.2), val_bits 16 b hb.1 (by rw [p16]; exact hb.2), Int.one_mul] at v
  exact v
theorem lp_xor {a b : Int} (ha : Wd a) (hb : Wd b) : lpB (fun u v => (u + v) % 2) 16 0 1 a b = a + b - 2 * valL (shL a b) := by
  rw [lpB_eq, Int.zero_add, Int.one_mul]
  have v := val_zip (fun x y => (x + y) % 2) 2 (fun x y hx hy => by rcases hx with rfl | rfl <;> rcases hy with rfl | rfl <;> decide) (bitsL 16 a) (bitsL 16 b) (by rw [bitsL_len, bitsL_len]) (bitsL_bits _ _) (bitsL_bits _ _)
  rw [val_bits 16 a ha.1 (by rw [p16]; exact ha.2), val_bits 16 b hb.1 (by rw [p16]; exact hb.2)] at v
  exact v
/-- so many times -/
def itI (f : Int → Int) : Nat → Int → Int
  | 0, a => a
  | n + 1, a => itI f n (f a)
theorem it_shl : ∀ (n : Nat) (a : Int), itI (fun x => x * 2 % 65536) n a = upN n a
  | 0, _ => rfl
  | n + 1, a => by rw [itI, upN, it_shl n, Int.mul_comm a 2]
theorem it_shr : ∀ (n : Nat) (a : Int), itI (fun x => x / 2) n a = a / 2 ^ n := by
  intro n
  induction n with
  | zero => intro a; rw [itI, show (2 : Int) ^ 0 = 1 from rfl, Int.ediv_one]
  | succ n ih =>
    intro a
    rw [itI, ih, Int.pow_succ, Int.mul_comm, dd]
theorem sgn_half {a : Int} (h : Wd a) : sgn (sgn a / 2 % 65536) = sgn a / 2 := by
  obtain ⟨h0, h1⟩ := h
  unfold sgn
  by_cases c : 32768 ≤ a
  · rw [if_pos c, if_pos (by omega)]
    omega
  · rw [if_neg c, if_neg (by omega)]
    omega
theorem it_sar : ∀ (n : Nat) {a : Int}, Wd a → itI (fun x => sgn x / 2 % 65536) n a = sgn a / 2 ^ n % 65536 := by
  intro n
  induction n with
  | zero =>
    intro a h
    rw [itI, show (2 : Int) ^ 0 = 1 from rfl, Int.ediv_one]
    exact (sgn_mod a h.1 h.2).symm
  | succ n ih =>
    intro a h
    rw [itI, ih (mod_wd _), sgn_half h, Int.pow_succ, Int.mul_comm, dd]
theorem sgn_lt (a : Int) : (if a < 32768 then a else a - 65536) = sgn a := by
  unfold sgn
  by_cases c : 32768 ≤ a
  · rw [if_pos c, if_neg (by omega)]
  · rw [if_neg c, if_pos (by omega)]
end MM
namespace MM
open PySem L2
def kS (b : Bool) : Str := if b then "r" else "n"
inductive Typ : List Bool → List Int → Prop
  | nil : Typ [] []
  | r {ks : List Bool} {v : Int} {vs : List Int} (k : Od.Rg v) (t : Typ ks vs) : Typ (true :: ks) (v :: vs)
  | n {ks : List Bool} {v : Int} {vs : List Int} (k : Od.Nu v) (t : Typ ks vs) : Typ (false :: ks) (v :: vs)
theorem Typ.snoc {ks : List Bool} {vs : List Int} (t : Typ ks vs) {b : Bool} {v : Int} (k : if b then Od.Rg v else Od.Nu v) : Typ (ks ++ [b]) (vs ++ [v]) := by
  induction t with
  | nil => cases b with
    | true => exact .r k .nil
    | false => exact .n k .nil
  | r k' t ih => exact .r k' ih
  | n k' t ih => exact .n k' ih
structure OkN (n t : Str) (ks : List Bool) : Prop where
  sg : signs t = ks.map fun b => D.str (kS b)
  od : ∀ vs, Typ ks vs → ∃ o : Od, o.ok ∧ o.nm = n ∧ o.args = vs ∧ o.kd = t
theorem okn3 {n : Str} (hn : n ∈ N3) : OkN n "rrr" [true, true, true] := ⟨rfl, fun vs t => by
  cases t with
  | r k1 t => cases t with
    | r k2 t => cases t with
      | r k3 t => cases t; exact ⟨.r3 n _ _ _, ⟨hn, k1, k2, k3⟩, rfl, rfl, rfl⟩⟩
theorem okn2 {n : Str} (hn : n ∈ N2) : OkN n "rrn" [true, true, false] := ⟨rfl, fun vs t => by
  cases t with
  | r k1 t => cases t with
    | r k2 t => cases t with
      | n k3 t => cases t; exact ⟨.r2 n _ _ _, ⟨hn, k1, k2, k3⟩, rfl, rfl, rfl⟩⟩
theorem oknb {n : Str} (hn : n ∈ NB) : OkN n "rrn" [true, true, false] := ⟨rfl, fun vs t => by
  cases t with
  | r k1 t => cases t with
    | r k2 t => cases t with
      | n k3 t => cases t; exact ⟨.br n _ _ _, ⟨hn, k1, k2, k3⟩, rfl, rfl, rfl⟩⟩
theorem okn_lw : OkN "lw" "rrn" [true, true, false] := ⟨rfl, fun vs t => by
  cases t with
  | r k1 t => cases t with
    | r k2 t => cases t with
      | n k3 t => cases t; exact ⟨.lw _ _ _, ⟨k1, k2, k3⟩, rfl, rfl, rfl⟩⟩
theorem okn_sw : OkN "sw" "rrn" [true, true, false] := ⟨rfl, fun vs t => by
  cases t with
  | r k1 t => cases t with
    | r k2 t => cases t with
      | n k3 t => cases t; exact ⟨.sw _ _ _, ⟨k1, k2, k3⟩, rfl, rfl, rfl⟩⟩
theorem okn_jalr : OkN "jalr" "rrn" [true, true, false] := ⟨rfl, fun vs t => by
  cases t with
  | r k1 t => cases t with
    | r k2 t => cases t with
      | n k3 t => cases t; exact ⟨.jalr _ _ _, ⟨k1, k2, k3⟩, rfl, rfl, rfl⟩⟩
theorem okn_lui : OkN "lui" "rn" [true, false] := ⟨rfl, fun vs t => by
  cases t with
  | r k1 t => cases t with
    | n k2 t => cases t; exact ⟨.lui _ _, ⟨k1, k2⟩, rfl, rfl, rfl⟩⟩
theorem okn_jal : OkN "jal" "rn" [true, false] := ⟨rfl, fun vs t => by
  cases t with
  | r k1 t => cases t with
    | n k2 t => cases t; exact ⟨.jal _ _, ⟨k1, k2⟩, rfl, rfl, rfl⟩⟩
theorem okn_call : OkN "call" "n" [false] := ⟨rfl, fun vs t => by
  cases t with
  | n k2 t => cases t; exact ⟨.call _, k2, rfl, rfl, rfl⟩⟩
theorem okn_back : OkN "back" "" [] := ⟨rfl, fun vs t => by cases t; exact ⟨.back, trivial, rfl, rfl, rfl⟩⟩
def nm27 : List Str := N3 ++ N2 ++ NB ++ (["lui", "lw", "sw", "jal", "lw", "sw"] : List Str)
def nm30 : List Str := nm27 ++ (["call", "back", "jalr"] : List Str)
theorem nm27_okn {n : Str} (h : n ∈ nm27) : ∃ t ks, OkN n t ks := by
  simp only [nm27, List.mem_append, List.mem_cons, List.not_mem_nil, or_false] at h
  rcases h with ((h | h) | h) | rfl | rfl | rfl | rfl | rfl | rfl
  · exact ⟨_, _, okn3 h⟩
  · exact ⟨_, _, okn2 h⟩
  · exact ⟨_, _, oknb h⟩
  · exact ⟨_, _, okn_lui⟩
  · exact ⟨_, _, okn_lw⟩
  · exact ⟨_, _, okn_sw⟩
  · exact ⟨_, _, okn_jal⟩
  · exact ⟨_, _, okn_lw⟩
  · exact ⟨_, _, okn_sw⟩
theorem nm30_okn {n : Str} (h : n ∈ nm30) : ∃ t ks, OkN n t ks := by
  simp only [nm30, List.mem_append, List.mem_cons, List.not_mem_nil, or_false] at h
  rcases h with h | rfl | rfl | rfl
  · exact nm27_okn h
  · exact ⟨_, _, okn_call⟩
  · exact ⟨_, _, okn_back⟩
  · exact ⟨_, _, okn_jalr⟩
theorem typ_len {ks : List Bool} {vs : List Int} (t : Typ ks vs) : vs.length = ks.length := by
  induction t with
  | nil => rfl
  | r _ _ ih => rw [List.length_cons, List.length_cons, ih]
  | n _ _ ih => rw [List.length_cons, List.length_cons, ih]
/-- any values of the right kinds -/
theorem typ_ex : ∀ ks : List Bool, ∃ vs, Typ ks vs
  | [] => ⟨[], .nil⟩
  | true :: ks => by
    obtain ⟨vs, t⟩ := typ_ex ks
    exact ⟨0 :: vs, .r ⟨by decide, by decide⟩ t⟩
  | false :: ks => by
    obtain ⟨vs, t⟩ := typ_ex ks
    exact ⟨0 :: vs, .n ⟨by decide, by decide⟩ t⟩
end MM
namespace MM
namespace K03
open PySem L2
noncomputable section
def told_cs : List (Str × Str) := [("BadOrder", "order"), ("BadProgram", "program"), ("NoWay", "no way"), ("TooLarge", "large")]
def d_THREE : D := .tup [.str "add", .str "sub", .str "mul", .str "and", .str "or", .str "xor", .str "shl", .str "shr", .str "sar", .str "slt", .str "sltu"]
def d_TWO : D := .tup [.str "addi", .str "andi", .str "ori", .str "xori", .str "shli", .str "slti"]
def d_BRANCH : D := .tup [.str "beq", .str "bne", .str "blt", .str "bge"]
def d_NAMES : D := .tup [.str "add", .str "sub", .str "mul", .str "and", .str "or", .str "xor", .str "shl", .str "shr", .str "sar", .str "slt", .str "sltu", .str "addi", .str "andi", .str "ori", .str "xori", .str "shli", .str "slti", .str "beq", .str "bne", .str "blt", .str "bge", .str "lui", .str "lw", .str "sw", .str "jal", .str "jalr", .str "call", .str "back", .str "halt"]
def cs_program : List Str := ["State"]
def cs_place : List Str := ["State"]
def cs_registers : List Str := ["State"]
def cs_memory : List Str := ["State"]
def cs_out : List Str := ["State"]
def cs_incoming : List Str := ["State"]
def cs_cause : List Str := ["State"]
def cs_return_place : List Str := ["State"]
def cs_handler : List Str := ["State"]
def cs_ended : List Str := ["State"]
def cs_count : List Str := ["State"]
/-- _law_dice: 0 cell -/
def b__law_dice : Ev → Hm → SR := (sSeq (sIf (mBool (mChain fLt fLt (m2 fSub (mC (.int 0)) (mC (.int 10))) (mVar 0) (mC (.int 10))))
  (sRet (mLst (mCons (mCall fAbs (mCons (mVar 0) mNil)) (mCons (mC (.int 0)) (mCons (mC (.int 2)) mNil)))))
  sNil)
  (sRet (mLst (mCons (mVar 0) (mCons (m2 fAdd (mC (.int 1)) (m2 fMod (mCall fInt (mCons (mVar 0) mNil)) (mC (.int 1009)))) (mCons (mCall fInt (mCons (m2 fGe (mVar 0) (m2 fPow (mC (.int 10)) (mC (.int 18)))) mNil)) mNil))))))
def f__law_dice : Fc := callM 1 1 b__law_dice
/-- _law_rounds: 0 script, 1 most, 2 cells, 3 cell -/
def b__law_rounds : Ev → Hm → SR := (sSeq (sAsg (gN 2) (mSl (mVar 0) mNo (mSome (mVar 1))))
  (sSeq (sIf (mBool (m2 fEq (mVar 2) (mLst mNil)))
  (sAsg (gN 2) (mLst (mCons (mC (.int 0)) mNil)))
  sNil)
  (sRet (mLc [3] (mItA (mVar 2)) (gN 3) tYesM (mCallF 1 f__law_dice (mCons (mVar 3) mNil))))))
def f__law_rounds : Fc := callM 4 2 b__law_rounds
/-- _law_roll: 0 dice, 1 many, 2 found -/
def b__law_roll : Ev → Hm → SR := (sSeq (sIf (mOr (mBool (m2 fEq (m2 fIx (mVar 0) (mC (.int 2))) (mC (.int 2)))) (mAnd (mBool (m2 fEq (m2 fIx (mVar 0) (mC (.int 2))) (mC (.int 1)))) (mBool (m2 fGt (m2 fIx (mVar 0) (mC (.int 0))) (mC (.int 0))))))
  (sSeq (sAsg (gN 2) (m2 fMod (mCall fInt (mCons (m2 fIx (mVar 0) (mC (.int 0))) mNil)) (mVar 1)))
  (sSeq (sAsg (gSubM (mVar 0) (mC (.int 0))) (m2 fDiv (m2 fIx (mVar 0) (mC (.int 0))) (mVar 1)))
  (sRet (mVar 2))))
  sNil)
  (sSeq (sAsg (gSubM (mVar 0) (mC (.int 2))) (mC (.int 0)))
  (sSeq (sAsg (gSubM (mVar 0) (mC (.int 0))) (m2 fMod (mCall fInt (mCons (m2 fAdd (m2 fAdd (m2 fMul (m2 fIx (mVar 0) (mC (.int 0))) (mC (.int 48271))) (m2 fMul (m2 fIx (mVar 0) (mC (.int 1))) (mC (.int 69621)))) (mC (.int 11))) mNil)) (mC (.int 2147483647))))
  (sSeq (sAsg (gSubM (mVar 0) (mC (.int 1))) (m2 fAdd (m2 fIx (mVar 0) (mC (.int 1))) (mC (.int 1))))
  (sRet (m2 fMod (mCall fInt (mCons (m2 fAdd (m2 fDiv (m2 fIx (mVar 0) (mC (.int 0))) (mC (.int 7))) (m2 fIx (mVar 0) (mC (.int 0)))) mNil)) (mVar 1)))))))
def f__law_roll : Fc := callM 3 2 b__law_roll
/-- shape: 0 name -/
def b_shape : Ev → Hm → SR := (sSeq (sIf (mBool (m2 (fIn false) (mVar 0) (mC d_THREE)))
  (sRet (mC (.str "rrr")))
  sNil)
  (sSeq (sIf (mOr (mBool (m2 (fIn false) (mVar 0) (mC d_TWO))) (mBool (m2 (fIn false) (mVar 0) (mTup (mCons (mC (.str "lw")) (mCons (mC (.str "sw")) (mCons (mC (.str "jalr")) mNil)))))))
  (sRet (mC (.str "rrn")))
  sNil)
  (sSeq (sIf (mBool (m2 (fIn false) (mVar 0) (mC d_BRANCH)))
  (sRet (mC (.str "rrn")))
  sNil)
  (sSeq (sIf (mBool (m2 (fIn false) (mVar 0) (mTup (mCons (mC (.str "lui")) (mCons (mC (.str "jal")) mNil)))))
  (sRet (mC (.str "rn")))
  sNil)
  (sSeq (sIf (mBool (m2 fEq (mVar 0) (mC (.str "call"))))
  (sRet (mC (.str "n")))
  sNil)
  (sSeq (sIf (mBool (m2 (fIn false) (mVar 0) (mTup (mCons (mC (.str "back")) (mCons (mC (.str "halt")) mNil)))))
  (sRet (mC (.str "")))
  sNil)
  (sRaise "BadOrder")))))))
theorem o_shape : ∃ f : Fc, f = callM 1 1 b_shape := ⟨_, rfl⟩
def f_shape : Fc := o_shape.choose
theorem f_shape_eq : f_shape = callM 1 1 b_shape := o_shape.choose_spec
/-- _law_order: 0 dice, 1 wild, 2 names, 3 name, 4 row, 5 kind -/
abbrev p__law_order_0 : Ev → Hm → SR := (sAsg (gN 2) (mLst (mCons (mC (.str "add")) (mCons (mC (.str "sub")) (mCons (mC (.str "mul")) (mCons (mC (.str "and")) (mCons (mC (.str "or")) (mCons (mC (.str "xor")) (mCons (mC (.str "shl")) (mCons (mC (.str "shr")) (mCons (mC (.str "sar")) (mCons (mC (.str "slt")) (mCons (mC (.str "sltu")) (mCons (mC (.str "addi")) (mCons (mC (.str "andi")) (mCons (mC (.str "ori")) (mCons (mC (.str "xori")) (mCons (mC (.str "shli")) (mCons (mC (.str "slti")) mNil)))))))))))))))))))
abbrev p__law_order_1 : Ev → Hm → SR := (sAsg (gN 2) (m2 fAdd (m2 fAdd (mVar 2) (mLst (mCons (mC (.str "beq")) (mCons (mC (.str "bne")) (mCons (mC (.str "blt")) (mCons (mC (.str "bge")) (mCons (mC (.str "lui")) (mCons (mC (.str "lw")) (mCons (mC (.str "sw")) (mCons (mC (.str "jal")) (mCons (mC (.str "lw")) (mCons (mC (.str "sw")) mNil)))))))))))) (m2 fMul (mLst (mCons (mC (.str "call")) (mCons (mC (.str "back")) (mCons (mC (.str "jalr")) mNil)))) (mVar 1))))
abbrev p__law_order_2 : Ev → Hm → SR := (sPar 3 4 (mCons (m2 fIx (mVar 2) (mCallF 2 f__law_roll (mCons (mVar 0) (mCons (mCall fLen (mCons (mVar 2) mNil)) mNil)))) (mCons (mLst mNil) mNil)))
abbrev t__law_order_0 : Ev → Hm → SR := (sDrop (mMeth isL fAppend (mVar 4) (mCons (mCallF 2 f__law_roll (mCons (mVar 0) (mCons (mC (.int 8)) mNil))) mNil)))
abbrev t__law_order_1 : Ev → Hm → SR := (sDrop (mMeth isL fAppend (mVar 4) (mCons (m2 fSub (mCallF 2 f__law_roll (mCons (mVar 0) (mCons (mC (.int 6)) mNil))) (mC (.int 1))) mNil)))
abbrev t__law_order_2 : Ev → Hm → SR := (sDrop (mMeth isL fAppend (mVar 4) (mCons (m2 fIx (mLst (mCons (mC (.int 0)) (mCons (mC (.int 1)) (mCons (mC (.int 2)) (mCons (mC (.int 5)) (mCons (mC (.int 254)) (mCons (mC (.int 255)) (mCons (mC (.int 300)) (mCons (m2 fSub (mC (.int 0)) (mC (.int 1))) mNil))))))))) (mCallF 2 f__law_roll (mCons (mVar 0) (mCons (mC (.int 8)) mNil)))) mNil)))
abbrev t__law_order_3 : Ev → Hm → SR := (sDrop (mMeth isL fAppend (mVar 4) (mCons (mIf (mBool (m2 fEq (mVar 3) (mC (.str "call")))) (mCallF 2 f__law_roll (mCons (mVar 0) (mCons (mC (.int 3)) mNil))) (m2 fSub (mCallF 2 f__law_roll (mCons (mVar 0) (mCons (mC (.int 15)) mNil))) (mC (.int 5)))) mNil)))
abbrev t__law_order_4 : Ev → Hm → SR := (sIf (mBool (m2 (fIn false) (mVar 3) (mLst (mCons (mC (.str "lw")) (mCons (mC (.str "sw")) mNil)))))
  t__law_order_2
  t__law_order_3)
abbrev t__law_order_5 : Ev → Hm → SR := (sIf (mBool (m2 (fIn false) (mVar 3) (mLst (mCons (mC (.str "beq")) (mCons (mC (.str "bne")) (mCons (mC (.str "blt")) (mCons (mC (.str "bge")) (mCons (mC (.str "jal")) mNil))))))))
  t__law_order_1
  t__law_order_4)
abbrev t__law_order_6 : Ev → Hm → SR := (sIf (mBool (m2 fEq (mVar 5) (mC (.str "r"))))
  t__law_order_0
  t__law_order_5)
def l__law_order_0 : Ev → Hm → SR := t__law_order_6
abbrev p__law_order_3 : Ev → Hm → SR := (sFor (mSigns (mCallF 1 f_shape (mCons (mVar 3) mNil))) (gN 5)
  l__law_order_0)
abbrev p__law_order_4 : Ev → Hm → SR := (sRet (m2 fAdd (mTup (mCons (mVar 3) mNil)) (mCall fTuple (mCons (mVar 4) mNil))))
def b__law_order : Ev → Hm → SR := (sSeq p__law_order_0 (sSeq p__law_order_1 (sSeq p__law_order_2 (sSeq p__law_order_3 p__law_order_4))))
theorem o__law_order : ∃ f : Fc, f = callM 6 2 b__law_order := ⟨_, rfl⟩
def f__law_order : Fc := o__law_order.choose
theorem f__law_order_eq : f__law_order = callM 6 2 b__law_order := o__law_order.choose_spec
/-- _law_program: 0 dice, 1 most, 2 wild, 3 k -/
def b__law_program : Ev → Hm → SR := (sRet (mCall fTuple (mCons (mLc [3] (mRg1 (mCons (m2 fAdd (mC (.int 1)) (mCallF 2 f__law_roll (mCons (mVar 0) (mCons (mVar 1) mNil)))) mNil)) (gN 3) tYesM (mCallF 2 f__law_order (mCons (mVar 0) (mCons (mVar 2) mNil)))) mNil)))
theorem o__law_program : ∃ f : Fc, f = callM 4 3 b__law_program := ⟨_, rfl⟩
def f__law_program : Fc := o__law_program.choose
theorem f__law_program_eq : f__law_program = callM 4 3 b__law_program := o__law_program.choose_spec
/-- is_order: 0 thing, 1 kinds, 2 kind, 3 part -/
def l_is_order_0 : Ev → Hm → SR := (sSeq (sIf (mOr (mNot (mTru (mIsi "int" (mVar 3)))) (mTru (mIsi "bool" (mVar 3))))
  (sRet (mC (.bl false)))
  sNil)
  (sIf (mOr (mAnd (mBool (m2 fEq (mVar 2) (mC (.str "r")))) (mNot (mBool (mChain fLe fLt (mC (.int 0)) (mVar 3) (mC (.int 8)))))) (mAnd (mBool (m2 fEq (mVar 2) (mC (.str "n")))) (mNot (mBool (mChain fLe fLt (mNeg (mC (.int 32768))) (mVar 3) (mC (.int 32768)))))))
  (sRet (mC (.bl false)))
  sNil))
def b_is_order : Ev → Hm → SR := (sSeq (sIf (mOr (mNot (mTru (mIsi "tuple" (mVar 0)))) (mOr (mBool (m2 fEq (mVar 0) (mTup mNil))) (mBool (m2 (fIn true) (m2 fIx (mVar 0) (mC (.int 0))) (mC d_NAMES)))))
  (sRet (mC (.bl false)))
  sNil)
  (sSeq (sAsg (gN 1) (mCallF 1 f_shape (mCons (m2 fIx (mVar 0) (mC (.int 0))) mNil)))
  (sSeq (sIf (mBool (m2 fNe (mCall fLen (mCons (mVar 0) mNil)) (m2 fAdd (mC (.int 1)) (mCall fLen (mCons (mVar 1) mNil)))))
  (sRet (mC (.bl false)))
  sNil)
  (sSeq (sFor (mZipS (mCons (mVar 1) (mCons (mSl (mVar 0) (mSome (mC (.int 1))) mNo) mNil))) (gU 2 (gsCons (gN 2) (gsCons (gN 3) gsNil)))
  l_is_order_0)
  (sRet (mC (.bl true)))))))
theorem o_is_order : ∃ f : Fc, f = callM 4 1 b_is_order := ⟨_, rfl⟩
def f_is_order : Fc := o_is_order.choose
theorem f_is_order_eq : f_is_order = callM 4 1 b_is_order := o_is_order.choose_spec
/-- check_order: 0 thing -/
def b_check_order : Ev → Hm → SR := (sIf (mNot (mTru (mCallF 1 f_is_order (mCons (mVar 0) mNil))))
  (sRaise "BadOrder")
  sNil)
theorem o_check_order : ∃ f : Fc, f = callM 1 1 b_check_order := ⟨_, rfl⟩
def f_check_order : Fc := o_check_order.choose
theorem f_check_order_eq : f_check_order = callM 1 1 b_check_order := o_check_order.choose_spec
/-- check_word: 0 word -/
def b_check_word : Ev → Hm → SR := (sIf (mOr (mNot (mTru (mIsi "int" (mVar 0)))) (mOr (mTru (mIsi "bool" (mVar 0))) (mNot (mBool (mChain fLe fLt (mC (.int 0)) (mVar 0) (mC (.int 65536)))))))
  (sRaise "BadOrder")
  sNil)
theorem o_check_word : ∃ f : Fc, f = callM 1 1 b_check_word := ⟨_, rfl⟩
def f_check_word : Fc := o_check_word.choose
theorem f_check_word_eq : f_check_word = callM 1 1 b_check_word := o_check_word.choose_spec
/-- State___init__: 0 self, 1 program, 2 incoming, 3 order, 4 word -/
abbrev p_State___init___0 : Ev → Hm → SR := (sIf (mNot (mBool (mChain fLt fLe (mC (.int 0)) (mCall fLen (mCons (mVar 1) mNil)) (mC (.int 400)))))
  (sRaise "BadProgram")
  sNil)
abbrev t_State___init___0 : Ev → Hm → SR := (sDrop (mCallF 1 f_check_order (mCons (mVar 3) mNil)))
def l_State___init___0 : Ev → Hm → SR := t_State___init___0
abbrev p_State___init___1 : Ev → Hm → SR := (sFor (mItA (mVar 1)) (gN 3)
  l_State___init___0)
abbrev t_State___init___1 : Ev → Hm → SR := (sDrop (mCallF 1 f_check_word (mCons (mVar 4) mNil)))
def l_State___init___1 : Ev → Hm → SR := t_State___init___1
abbrev p_State___init___2 : Ev → Hm → SR := (sFor (mItA (mVar 2)) (gN 4)
  l_State___init___1)
abbrev p_State___init___3 : Ev → Hm → SR := (sFldM cs_program "program" (mVar 0) (mCall fTuple (mCons (mVar 1) mNil)))
abbrev p_State___init___4 : Ev → Hm → SR := (sFldM cs_place "place" (mVar 0) (mC (.int 0)))
abbrev p_State___init___5 : Ev → Hm → SR := (sFldM cs_registers "registers" (mVar 0) (m2 fMul (mLst (mCons (mC (.int 0)) mNil)) (mC (.int 8))))
abbrev p_State___init___6 : Ev → Hm → SR := (sFldM cs_memory "memory" (mVar 0) (m2 fMul (mLst (mCons (mC (.int 0)) mNil)) (mC (.int 256))))
abbrev p_State___init___7 : Ev → Hm → SR := (sFldM cs_out "out" (mVar 0) (mTup mNil))
abbrev p_State___init___8 : Ev → Hm → SR := (sFldM cs_incoming "incoming" (mVar 0) (mCall fTuple (mCons (mVar 2) mNil)))
abbrev p_State___init___9 : Ev → Hm → SR := (sFldM cs_cause "cause" (mVar 0) (mC (.int 0)))
abbrev p_State___init___10 : Ev → Hm → SR := (sFldM cs_return_place "return_place" (mVar 0) (mC (.int 0)))
abbrev p_State___init___11 : Ev → Hm → SR := (sFldM cs_handler "handler" (mVar 0) (mC .non))
abbrev p_State___init___12 : Ev → Hm → SR := (sFldM cs_ended "ended" (mVar 0) (mC .non))
abbrev p_State___init___13 : Ev → Hm → SR := (sFldM cs_count "count" (mVar 0) (mC (.int 0)))
def b_State___init__ : Ev → Hm → SR := (sSeq p_State___init___0 (sSeq p_State___init___1 (sSeq p_State___init___2 (sSeq p_State___init___3 (sSeq p_State___init___4 (sSeq p_State___init___5 (sSeq p_State___init___6 (sSeq p_State___init___7 (sSeq p_State___init___8 (sSeq p_State___init___9 (sSeq p_State___init___10 (sSeq p_State___init___11 (sSeq p_State___init___12 p_State___init___13)))))))))))))
theorem o_State___init__ : ∃ f : Fc, f = callM 5 3 b_State___init__ := ⟨_, rfl⟩
def f_State___init__ : Fc := o_State___init__.choose
theorem f_State___init___eq : f_State___init__ = callM 5 3 b_State___init__ := o_State___init__.choose_spec
/-- _law_fault: 0 state, 1 cause -/
def b__law_fault : Ev → Hm → SR := (sSeq (sAsg (gU 2 (gsCons (gSubM (mVar 0) (mC (.int 5))) (gsCons (gSubM (mVar 0) (mC (.int 6))) gsNil))) (mTup (mCons (mVar 1) (mCons (m2 fIx (mVar 0) (mC (.int 0))) mNil))))
  (sIf (mBool (m2 (fIs false) (m2 fIx (mVar 0) (mC (.int 7))) (mC .non)))
  (sAsg (gSubM (mVar 0) (mC (.int 8))) (mTup (mCons (mC (.str "fault")) (mCons (mVar 1) (mCons (m2 fIx (mVar 0) (mC (.int 0))) mNil)))))
  (sAsg (gSubM (mVar 0) (mC (.int 0))) (m2 fIx (mVar 0) (mC (.int 7))))))
theorem o__law_fault : ∃ f : Fc, f = callM 2 2 b__law_fault := ⟨_, rfl⟩
def f__law_fault : Fc := o__law_fault.choose
theorem f__law_fault_eq : f__law_fault = callM 2 2 b__law_fault := o__law_fault.choose_spec
/-- _law_memory: 0 state, 1 order, 2 address, 3 word -/
def b__law_memory : Ev → Hm → SR := (sIf (mBool (m2 fGt (mVar 2) (mC (.int 255))))
  (sDrop (mCallF 2 f__law_fault (mCons (mVar 0) (mCons (mC (.int 1)) mNil))))
  (sIf (mBool (m2 fEq (m2 fIx (mVar 1) (mC (.int 0))) (mC (.str "lw"))))
  (sSeq (sAsg (gN 3) (m2 fIx (m2 fIx (mVar 0) (mC (.int 2))) (mVar 2)))
  (sSeq (sIf (mBool (m2 fEq (mVar 2) (mC (.int 254))))
  (sAsg (gU 2 (gsCons (gN 3) (gsCons (gSubM (mVar 0) (mC (.int 4))) gsNil))) (mTup (mCons (m2 fIx (m2 fAdd (m2 fIx (mVar 0) (mC (.int 4))) (mLst (mCons (mC (.int 0)) mNil))) (mC (.int 0))) (mCons (mSl (m2 fIx (mVar 0) (mC (.int 4))) (mSome (mC (.int 1))) mNo) mNil))))
  sNil)
  (sSeq (sIf (mBool (m2 fNe (m2 fIx (mVar 1) (mC (.int 1))) (mC (.int 0))))
  (sAsg (gSubM (m2 fIx (mVar 0) (mC (.int 1))) (m2 fIx (mVar 1) (mC (.int 1)))) (mVar 3))
  sNil)
  (sAsg (gSubM (mVar 0) (mC (.int 0))) (m2 fAdd (m2 fIx (mVar 0) (mC (.int 0))) (mC (.int 1)))))))
  (sSeq (sIf (mBool (m2 fEq (mVar 2) (mC (.int 255))))
  (sAsg (gSubM (mVar 0) (mC (.int 3))) (m2 fAdd (m2 fIx (mVar 0) (mC (.int 3))) (mLst (mCons (m2 fIx (m2 fIx (mVar 0) (mC (.int 1))) (m2 fIx (mVar 1) (mC (.int 1)))) mNil))))
  (sIf (mBool (m2 fNe (mVar 2) (mC (.int 254))))
  (sAsg (gSubM (m2 fIx (mVar 0) (mC (.int 2))) (mVar 2)) (m2 fIx (m2 fIx (mVar 0) (mC (.int 1))) (m2 fIx (mVar 1) (mC (.int 1)))))
  sNil))
  (sAsg (gSubM (mVar 0) (mC (.int 0))) (m2 fAdd (m2 fIx (mVar 0) (mC (.int 0))) (mC (.int 1)))))))
theorem o__law_memory : ∃ f : Fc, f = callM 4 3 b__law_memory := ⟨_, rfl⟩
def f__law_memory : Fc := o__law_memory.choose
theorem f__law_memory_eq : f__law_memory = callM 4 3 b__law_memory := o__law_memory.choose_spec
/-- _law_number: 0 word -/
def b__law_number : Ev → Hm → SR := (sRet (mIf (mBool (m2 fLt (mVar 0) (mC (.int 32768)))) (mVar 0) (m2 fSub (mVar 0) (mC (.int 65536)))))
theorem o__law_number : ∃ f : Fc, f = callM 1 1 b__law_number := ⟨_, rfl⟩
def f__law_number : Fc := o__law_number.choose
theorem f__law_number_eq : f__law_number = callM 1 1 b__law_number := o__law_number.choose_spec
/-- _law_reckon: 0 name, 1 a, 2 b, 3 found, 4 weight, 5 x, 6 y, 7 k, 8 bit -/
abbrev t__law_reckon_0 : Ev → Hm → SR := (sRet (m2 fMod (mIf (mBool (m2 fEq (mSl (mVar 0) mNo (mSome (mC (.int 3)))) (mC (.str "add")))) (m2 fAdd (mVar 1) (mVar 2)) (mIf (mBool (m2 fEq (mVar 0) (mC (.str "sub")))) (m2 fSub (mVar 1) (mVar 2)) (m2 fMul (mVar 1) (mVar 2)))) (mC (.int 65536))))
abbrev p__law_reckon_0 : Ev → Hm → SR := (sIf (mBool (m2 (fIn false) (mVar 0) (mLst (mCons (mC (.str "add")) (mCons (mC (.str "addi")) (mCons (mC (.str "sub")) (mCons (mC (.str "mul")) mNil)))))))
  t__law_reckon_0
  sNil)
abbrev t__law_reckon_1 : Ev → Hm → SR := (sRet (mIf (mBool (m2 fNe (mVar 0) (mC (.str "sltu")))) (mCall fInt (mCons (m2 fLt (mCallF 1 f__law_number (mCons (mVar 1) mNil)) (mCallF 1 f__law_number (mCons (mVar 2) mNil))) mNil)) (mCall fInt (mCons (m2 fLt (mVar 1) (mVar 2)) mNil))))
abbrev p__law_reckon_1 : Ev → Hm → SR := (sIf (mBool (m2 (fIn false) (mVar 0) (mLst (mCons (mC (.str "slt")) (mCons (mC (.str "slti")) (mCons (mC (.str "sltu")) mNil))))))
  t__law_reckon_1
  sNil)
abbrev p__law_reckon_2 : Ev → Hm → SR := (sAsg (gU 4 (gsCons (gN 3) (gsCons (gN 4) (gsCons (gN 5) (gsCons (gN 6) gsNil))))) (mTup (mCons (mC (.int 0)) (mCons (mC (.int 1)) (mCons (mVar 1) (mCons (mVar 2) mNil))))))
abbrev t__law_reckon_2 : Ev → Hm → SR := (sAsg (gN 5) (mIf (mBool (m2 fEq (mSl (mVar 0) mNo (mSome (mC (.int 3)))) (mC (.str "shl")))) (m2 fMod (m2 fMul (mVar 5) (mC (.int 2))) (mC (.int 65536))) (mIf (mBool (m2 fEq (mVar 0) (mC (.str "shr")))) (m2 fDiv (mVar 5) (mC (.int 2))) (m2 fMod (m2 fDiv (mCallF 1 f__law_number (mCons (mVar 5) mNil)) (mC (.int 2))) (mC (.int 65536))))))
def l__law_reckon_0 : Ev → Hm → SR := t__law_reckon_2
abbrev t__law_reckon_3 : Ev → Hm → SR := (sFor (mRg1 (mCons (m2 fMod (mVar 2) (mC (.int 16))) mNil)) (gN 7)
  l__law_reckon_0)
abbrev p__law_reckon_3 : Ev → Hm → SR := (sIf (mBool (m2 (fIn false) (mSl (mVar 0) mNo (mSome (mC (.int 2)))) (mLst (mCons (mC (.str "sh")) (mCons (mC (.str "sa")) mNil)))))
  (sSeq t__law_reckon_3
  (sRet (mVar 5)))
  sNil)
abbrev t__law_reckon_4 : Ev → Hm → SR := (sAsg (gN 8) (m2 fIx (mDisp [((mC (.str "and")), (m2 fMul (m2 fMod (mVar 5) (mC (.int 2))) (m2 fMod (mVar 6) (mC (.int 2))))), ((mC (.str "or")), (mCall fMax2 (mCons (m2 fMod (mVar 5) (mC (.int 2))) (mCons (m2 fMod (mVar 6) (mC (.int 2))) mNil)))), ((mC (.str "xor")), (m2 fMod (m2 fAdd (mVar 5) (mVar 6)) (mC (.int 2))))]) (mIf (mBool (m2 (fIn false) (mVar 0) (mLst (mCons (mC (.str "and")) (mCons (mC (.str "or")) (mCons (mC (.str "xor")) mNil)))))) (mVar 0) (mSl (mVar 0) mNo (mSome (m2 fSub (mCall fLen (mCons (mVar 0) mNil)) (mC (.int 1))))))))
abbrev t__law_reckon_5 : Ev → Hm → SR := (sAsg (gU 4 (gsCons (gN 3) (gsCons (gN 4) (gsCons (gN 5) (gsCons (gN 6) gsNil))))) (mTup (mCons (m2 fAdd (mVar 3) (m2 fMul (mVar 8) (mVar 4))) (mCons (m2 fMul (mVar 4) (mC (.int 2))) (mCons (m2 fDiv (mVar 5) (mC (.int 2))) (mCons (m2 fDiv (mVar 6) (mC (.int 2))) mNil))))))
def l__law_reckon_1 : Ev → Hm → SR := (sSeq t__law_reckon_4
  t__law_reckon_5)
abbrev p__law_reckon_4 : Ev → Hm → SR := (sFor (mRg1 (mCons (mC (.int 16)) mNil)) (gN 7)
  l__law_reckon_1)
abbrev p__law_reckon_5 : Ev → Hm → SR := (sRet (mVar 3))
def b__law_reckon : Ev → Hm → SR := (sSeq p__law_reckon_0 (sSeq p__law_reckon_1 (sSeq p__law_reckon_2 (sSeq p__law_reckon_3 (sSeq p__law_reckon_4 p__law_reckon_5)))))
theorem o__law_reckon : ∃ f : Fc, f = callM 9 3 b__law_reckon := ⟨_, rfl⟩
def f__law_reckon : Fc := o__law_reckon.choose
theorem f__law_reckon_eq : f__law_reckon = callM 9 3 b__law_reckon := o__law_reckon.choose_spec
/-- _law_word: 0 order, 1 place, 2 registers, 3 other -/
def b__law_word : Ev → Hm → SR := (sSeq (sIf (mBool (m2 (fIn false) (m2 fIx (mVar 0) (mC (.int 0))) (mLst (mCons (mC (.str "jal")) (mCons (mC (.str "jalr")) mNil)))))
  (sRet (m2 fAdd (mVar 1) (mC (.int 1))))
  sNil)
  (sSeq (sIf (mBool (m2 fEq (m2 fIx (mVar 0) (mC (.int 0))) (mC (.str "lui"))))
  (sRet (m2 fMul (m2 fMod (m2 fIx (mVar 0) (mC (.int 2))) (mC (.int 256))) (mC (.int 256))))
  sNil)
  (sSeq (sAsg (gN 3) (mIf (mBool (m2 fEq (mCallF 1 f_shape (mCons (m2 fIx (mVar 0) (mC (.int 0))) mNil)) (mC (.str "rrr")))) (m2 fIx (mVar 2) (m2 fIx (mVar 0) (mC (.int 3)))) (m2 fMod (m2 fIx (mVar 0) (mC (.int 3))) (mC (.int 65536)))))
  (sRet (mCallF 3 f__law_reckon (mCons (m2 fIx (mVar 0) (mC (.int 0))) (mCons (m2 fIx (mVar 2) (m2 fIx (mVar 0) (mC (.int 2)))) (mCons (mVar 3) mNil))))))))
theorem o__law_word : ∃ f : Fc, f = callM 4 3 b__law_word := ⟨_, rfl⟩
def f__law_word : Fc := o__law_word.choose
theorem f__law_word_eq : f__law_word = callM 4 3 b__law_word := o__law_word.choose_spec
/-- _law_do: 0 state, 1 order, 2 program, 3 place, 4 registers, 5 name, 6 base, 7 a, 8 b, 9 less_v, 10 goes, 11 word, 12 there -/
abbrev p__law_do_0 : Ev → Hm → SR := (sPar 3 4 (mCons (m2 fIx (mVar 0) (mC (.int 0))) (mCons (m2 fIx (mVar 0) (mC (.int 1))) mNil)))
abbrev p__law_do_1 : Ev → Hm → SR := (sAsg (gN 5) (m2 fIx (mVar 1) (mC (.int 0))))
abbrev t__law_do_0 : Ev → Hm → SR := (sAsg (gSubM (mVar 0) (mC (.int 8))) (mTup (mCons (mC (.str "halt")) mNil)))
abbrev t__law_do_1 : Ev → Hm → SR := (sAsg (gSubM (mVar 0) (mC (.int 0))) (m2 fIx (mVar 0) (mC (.int 6))))
abbrev t__law_do_2 : Ev → Hm → SR := (sAsg (gU 2 (gsCons (gSubM (mVar 0) (mC (.int 7))) (gsCons (gSubM (mVar 0) (mC (.int 0))) gsNil))) (mTup (mCons (m2 fIx (mVar 4) (mC (.int 1))) (mCons (m2 fAdd (mVar 3) (mC (.int 1))) mNil))))
abbrev t__law_do_3 : Ev → Hm → SR := (sAsg (gSubM (mVar 4) (mC (.int 7))) (m2 fMod (m2 fIx (mVar 1) (mC (.int 1))) (mC (.int 65536))))
abbrev t__law_do_4 : Ev → Hm → SR := (sAsg (gSubM (mVar 0) (mC (.int 0))) (m2 fAdd (mVar 3) (mC (.int 1))))
abbrev t__law_do_5 : Ev → Hm → SR := (sDrop (mCallF 2 f__law_fault (mCons (mVar 0) (mCons (mC (.int 2)) mNil))))
abbrev t__law_do_6 : Ev → Hm → SR := (sAsg (gN 6) (m2 fIx (mVar 4) (m2 fIx (mVar 1) (mC (.int 2)))))
abbrev t__law_do_7 : Ev → Hm → SR := (sDrop (mCallF 3 f__law_memory (mCons (mVar 0) (mCons (mVar 1) (mCons (m2 fMod (m2 fAdd (mVar 6) (m2 fIx (mVar 1) (mC (.int 3)))) (mC (.int 65536))) mNil)))))
abbrev t__law_do_8 : Ev → Hm → SR := (sPar 7 8 (mCons (m2 fIx (mVar 4) (m2 fIx (mVar 1) (mC (.int 1)))) (mCons (m2 fIx (mVar 4) (m2 fIx (mVar 1) (mC (.int 2)))) mNil)))
abbrev t__law_do_9 : Ev → Hm → SR := (sAsg (gN 9) (m2 fLt (mCallF 1 f__law_number (mCons (mVar 7) mNil)) (mCallF 1 f__law_number (mCons (mVar 8) mNil))))
abbrev t__law_do_10 : Ev → Hm → SR := (sAsg (gN 10) (m2 fIx (mDisp [((mC (.str "beq")), (m2 fEq (mVar 7) (mVar 8))), ((mC (.str "bne")), (m2 fNe (mVar 7) (mVar 8))), ((mC (.str "blt")), (mVar 9)), ((mC (.str "bge")), (mNotV (mVar 9)))]) (mVar 5)))
abbrev t__law_do_11 : Ev → Hm → SR := (sAsg (gSubM (mVar 0) (mC (.int 0))) (mIf (mTru (mVar 10)) (m2 fAdd (mVar 3) (m2 fIx (mVar 1) (mC (.int 3)))) (m2 fAdd (mVar 3) (mC (.int 1)))))
abbrev t__law_do_12 : Ev → Hm → SR := (sPar 11 12 (mCons (mCallF 3 f__law_word (mCons (mVar 1) (mCons (mVar 3) (mCons (mVar 4) mNil)))) (mCons (m2 fAdd (mVar 3) (mC (.int 1))) mNil)))
abbrev t__law_do_13 : Ev → Hm → SR := (sAsg (gN 12) (m2 fAdd (mVar 3) (m2 fIx (mVar 1) (mC (.int 2)))))
abbrev t__law_do_14 : Ev → Hm → SR := (sIf (mBool (m2 fEq (mVar 5) (mC (.str "jal"))))
  t__law_do_13
  sNil)
abbrev t__law_do_15 : Ev → Hm → SR := (sAsg (gN 12) (m2 fMod (m2 fAdd (m2 fIx (mVar 4) (m2 fIx (mVar 1) (mC (.int 2)))) (m2 fIx (mVar 1) (mC (.int 3)))) (mC (.int 65536))))
abbrev t__law_do_16 : Ev → Hm → SR := (sIf (mBool (m2 fEq (mVar 5) (mC (.str "jalr"))))
  t__law_do_15
  sNil)
abbrev t__law_do_17 : Ev → Hm → SR := (sAsg (gSubM (mVar 4) (m2 fIx (mVar 1) (mC (.int 1)))) (mVar 11))
abbrev t__law_do_18 : Ev → Hm → SR := (sIf (mBool (m2 fNe (m2 fIx (mVar 1) (mC (.int 1))) (mC (.int 0))))
  t__law_do_17
  sNil)
abbrev t__law_do_19 : Ev → Hm → SR := (sAsg (gSubM (mVar 0) (mC (.int 0))) (mVar 12))
abbrev t__law_do_20 : Ev → Hm → SR := (sIf (mBool (m2 (fIn false) (mVar 5) (mLst (mCons (mC (.str "beq")) (mCons (mC (.str "bne")) (mCons (mC (.str "blt")) (mCons (mC (.str "bge")) mNil)))))))
  (sSeq t__law_do_8
  (sSeq t__law_do_9
  (sSeq t__law_do_10
  t__law_do_11)))
  (sSeq t__law_do_12
  (sSeq t__law_do_14
  (sSeq t__law_do_16
  (sSeq t__law_do_18
  t__law_do_19)))))
abbrev t__law_do_21 : Ev → Hm → SR := (sIf (mBool (m2 (fIn false) (mVar 5) (mLst (mCons (mC (.str "lw")) (mCons (mC (.str "sw")) mNil)))))
  (sSeq t__law_do_6
  t__law_do_7)
  t__law_do_20)
abbrev t__law_do_22 : Ev → Hm → SR := (sIf (mBool (m2 fEq (mVar 5) (mC (.str "call"))))
  (sSeq t__law_do_3
  (sSeq t__law_do_4
  t__law_do_5))
  t__law_do_21)
abbrev t__law_do_23 : Ev → Hm → SR := (sIf (mAnd (mBool (m2 fEq (mVar 5) (mC (.str "call")))) (mBool (m2 fEq (m2 fIx (mVar 1) (mC (.int 1))) (mC (.int 0)))))
  t__law_do_2
  t__law_do_22)
abbrev t__law_do_24 : Ev → Hm → SR := (sIf (mBool (m2 fEq (mVar 5) (mC (.str "back"))))
  t__law_do_1
  t__law_do_23)
abbrev p__law_do_2 : Ev → Hm → SR := (sIf (mBool (m2 fEq (mVar 5) (mC (.str "halt"))))
  t__law_do_0
  t__law_do_24)
def b__law_do : Ev → Hm → SR := (sSeq p__law_do_0 (sSeq p__law_do_1 p__law_do_2))
theorem o__law_do : ∃ f : Fc, f = callM 13 3 b__law_do := ⟨_, rfl⟩
def f__law_do : Fc := o__law_do.choose
theorem f__law_do_eq : f__law_do = callM 13 3 b__law_do := o__law_do.choose_spec
/-- State_put: 0 self, 1 cell, 2 word -/
def b_State_put : Ev → Hm → SR := (sIf (mAnd (mBool (m2 (fIs true) (mVar 1) (mC .non))) (mBool (m2 fNe (mVar 1) (mC (.int 0)))))
  (sAsg (gSubM (mFld cs_registers "registers" (mVar 0)) (mVar 1)) (mVar 2))
  sNil)
theorem o_State_put : ∃ f : Fc, f = callM 3 3 b_State_put := ⟨_, rfl⟩
def f_State_put : Fc := o_State_put.choose
theorem f_State_put_eq : f_State_put = callM 3 3 b_State_put := o_State_put.choose_spec
/-- State_fault: 0 self, 1 cause -/
def b_State_fault : Ev → Hm → SR := (sSeq (sFldM cs_cause "cause" (mVar 0) (mVar 1))
  (sSeq (sFldM cs_return_place "return_place" (mVar 0) (mFld cs_place "place" (mVar 0)))
  (sIf (mBool (m2 (fIs false) (mFld cs_handler "handler" (mVar 0)) (mC .non)))
  (sFldM cs_ended "ended" (mVar 0) (mTup (mCons (mC (.str "fault")) (mCons (mVar 1) (mCons (mFld cs_place "place" (mVar 0)) mNil)))))
  (sFldM cs_place "place" (mVar 0) (mFld cs_handler "handler" (mVar 0))))))
theorem o_State_fault : ∃ f : Fc, f = callM 2 2 b_State_fault := ⟨_, rfl⟩
def f_State_fault : Fc := o_State_fault.choose
theorem f_State_fault_eq : f_State_fault = callM 2 2 b_State_fault := o_State_fault.choose_spec
/-- call: 0 state, 1 number -/
def b_call : Ev → Hm → SR := (sSeq (sIf (mBool (m2 fEq (mVar 1) (mC (.int 0))))
  (sSeq (sFldM cs_handler "handler" (mVar 0) (m2 fIx (mFld cs_registers "registers" (mVar 0)) (mC (.int 1))))
  (sSeq (sFldA cs_place "place" fIAdd (mVar 0) (mC (.int 1)))
  sRetN))
  sNil)
  (sSeq (sDrop (mMethF "State" "put" 3 f_State_put (mVar 0) (mCons (mC (.int 7)) (mCons (m2 fMod (mVar 1) (mC (.int 65536))) mNil))))
  (sSeq (sFldA cs_place "place" fIAdd (mVar 0) (mC (.int 1)))
  (sDrop (mMethF "State" "fault" 2 f_State_fault (mVar 0) (mCons (mC (.int 2)) mNil))))))
theorem o_call : ∃ f : Fc, f = callM 2 2 b_call := ⟨_, rfl⟩
def f_call : Fc := o_call.choose
theorem f_call_eq : f_call = callM 2 2 b_call := o_call.choose_spec
/-- reads: 0 order, 1 name -/
def b_reads : Ev → Hm → SR := (sSeq (sAsg (gN 1) (m2 fIx (mVar 0) (mC (.int 0))))
  (sSeq (sIf (mBool (m2 (fIn false) (mVar 1) (mC d_THREE)))
  (sRet (mSl (mVar 0) (mSome (mC (.int 2))) (mSome (mC (.int 4)))))
  sNil)
  (sSeq (sIf (mOr (mBool (m2 (fIn false) (mVar 1) (mC d_TWO))) (mBool (m2 (fIn false) (mVar 1) (mTup (mCons (mC (.str "lw")) (mCons (mC (.str "jalr")) mNil))))))
  (sRet (mSl (mVar 0) (mSome (mC (.int 2))) (mSome (mC (.int 3)))))
  sNil)
  (sSeq (sIf (mOr (mBool (m2 (fIn false) (mVar 1) (mC d_BRANCH))) (mBool (m2 fEq (mVar 1) (mC (.str "sw")))))
  (sRet (mSl (mVar 0) (mSome (mC (.int 1))) (mSome (mC (.int 3)))))
  sNil)
  (sRet (mTup mNil))))))
theorem o_reads : ∃ f : Fc, f = callM 2 1 b_reads := ⟨_, rfl⟩
def f_reads : Fc := o_reads.choose
theorem f_reads_eq : f_reads = callM 2 1 b_reads := o_reads.choose_spec
/-- words_for: 0 order, 1 registers, 2 row, 3 cell -/
def b_words_for : Ev → Hm → SR := (sSeq (sAsg (gN 2) (m2 fAdd (mLc [3] (mItA (mCallF 1 f_reads (mCons (mVar 0) mNil))) (gN 3) tYesM (m2 fIx (mVar 1) (mVar 3))) (mLst (mCons (mC (.int 0)) (mCons (mC (.int 0)) mNil)))))
  (sRet (mTup (mCons (m2 fIx (mVar 2) (mC (.int 0))) (mCons (m2 fIx (mVar 2) (mC (.int 1))) mNil)))))
theorem o_words_for : ∃ f : Fc, f = callM 4 2 b_words_for := ⟨_, rfl⟩
def f_words_for : Fc := o_words_for.choose
theorem f_words_for_eq : f_words_for = callM 4 2 b_words_for := o_words_for.choose_spec
/-- add: 0 a, 1 b -/
def b_add : Ev → Hm → SR := (sRet (m2 fMod (m2 fAdd (mVar 0) (mVar 1)) (mC (.int 65536))))
theorem o_add : ∃ f : Fc, f = callM 2 2 b_add := ⟨_, rfl⟩
def f_add : Fc := o_add.choose
theorem f_add_eq : f_add = callM 2 2 b_add := o_add.choose_spec
/-- less: 0 a, 1 b -/
def b_less : Ev → Hm → SR := (sRet (m2 fMod (m2 fSub (mVar 0) (mVar 1)) (mC (.int 65536))))
theorem o_less : ∃ f : Fc, f = callM 2 2 b_less := ⟨_, rfl⟩
def f_less : Fc := o_less.choose
theorem f_less_eq : f_less = callM 2 2 b_less := o_less.choose_spec
/-- times: 0 a, 1 b -/
def b_times : Ev → Hm → SR := (sRet (m2 fMod (m2 fMul (mVar 0) (mVar 1)) (mC (.int 65536))))
theorem o_times : ∃ f : Fc, f = callM 2 2 b_times := ⟨_, rfl⟩
def f_times : Fc := o_times.choose
theorem f_times_eq : f_times = callM 2 2 b_times := o_times.choose_spec
/-- of_bits: 0 row, 1 found, 2 bit -/
def l_of_bits_0 : Ev → Hm → SR := (sAsg (gN 1) (m2 fAdd (m2 fMul (mC (.int 2)) (mVar 1)) (mVar 2)))
def b_of_bits : Ev → Hm → SR := (sSeq (sAsg (gN 1) (mC (.int 0)))
  (sSeq (sFor (mRev (mVar 0)) (gN 2)
  l_of_bits_0)
  (sRet (mVar 1))))
theorem o_of_bits : ∃ f : Fc, f = callM 3 1 b_of_bits := ⟨_, rfl⟩
def f_of_bits : Fc := o_of_bits.choose
theorem f_of_bits_eq : f_of_bits = callM 3 1 b_of_bits := o_of_bits.choose_spec
/-- bits_of: 0 word, 1 found, 2 k -/
def l_bits_of_0 : Ev → Hm → SR := (sSeq (sDrop (mMeth isL fAppend (mVar 1) (mCons (m2 fMod (mVar 0) (mC (.int 2))) mNil)))
  (sAug 0 fIDiv (mC (.int 2))))
def b_bits_of : Ev → Hm → SR := (sSeq (sAsg (gN 1) (mLst mNil))
  (sSeq (sFor (mRg1 (mCons (mC (.int 16)) mNil)) (gN 2)
  l_bits_of_0)
  (sRet (mCall fTuple (mCons (mVar 1) mNil)))))
theorem o_bits_of : ∃ f : Fc, f = callM 3 1 b_bits_of := ⟨_, rfl⟩
def f_bits_of : Fc := o_bits_of.choose
theorem f_bits_of_eq : f_bits_of = callM 3 1 b_bits_of := o_bits_of.choose_spec
/-- shared: 0 a, 1 b, 2 x, 3 y -/
def b_shared : Ev → Hm → SR := (sRet (mCallF 1 f_of_bits (mCons (mLc [2, 3] (mZip (mCons (mCallF 1 f_bits_of (mCons (mVar 0) mNil)) (mCons (mCallF 1 f_bits_of (mCons (mVar 1) mNil)) mNil))) (gU 2 (gsCons (gN 2) (gsCons (gN 3) gsNil))) tYesM (m2 fMul (mVar 2) (mVar 3))) mNil)))
theorem o_shared : ∃ f : Fc, f = callM 4 2 b_shared := ⟨_, rfl⟩
def f_shared : Fc := o_shared.choose
theorem f_shared_eq : f_shared = callM 4 2 b_shared := o_shared.choose_spec
/-- either: 0 a, 1 b -/
def b_either : Ev → Hm → SR := (sRet (m2 fSub (m2 fAdd (mVar 0) (mVar 1)) (mCallF 2 f_shared (mCons (mVar 0) (mCons (mVar 1) mNil)))))
theorem o_either : ∃ f : Fc, f = callM 2 2 b_either := ⟨_, rfl⟩
def f_either : Fc := o_either.choose
theorem f_either_eq : f_either = callM 2 2 b_either := o_either.choose_spec
/-- unlike: 0 a, 1 b -/
def b_unlike : Ev → Hm → SR := (sRet (m2 fSub (m2 fAdd (mVar 0) (mVar 1)) (m2 fMul (mC (.int 2)) (mCallF 2 f_shared (mCons (mVar 0) (mCons (mVar 1) mNil))))))
theorem o_unlike : ∃ f : Fc, f = callM 2 2 b_unlike := ⟨_, rfl⟩
def f_unlike : Fc := o_unlike.choose
theorem f_unlike_eq : f_unlike = callM 2 2 b_unlike := o_unlike.choose_spec
/-- up: 0 a, 1 many, 2 k -/
def l_up_0 : Ev → Hm → SR := (sAsg (gN 0) (m2 fMod (m2 fMul (mC (.int 2)) (mVar 0)) (mC (.int 65536))))
def b_up : Ev → Hm → SR := (sSeq (sAug 1 fIMod (mC (.int 16)))
  (sSeq (sFor (mRg1 (mCons (mVar 1) mNil)) (gN 2)
  l_up_0)
  (sRet (mVar 0))))
theorem o_up : ∃ f : Fc, f = callM 3 2 b_up := ⟨_, rfl⟩
def f_up : Fc := o_up.choose
theorem f_up_eq : f_up = callM 3 2 b_up := o_up.choose_spec
/-- down: 0 a, 1 many, 2 k -/
def l_down_0 : Ev → Hm → SR := (sAug 0 fIDiv (mC (.int 2)))
def b_down : Ev → Hm → SR := (sSeq (sAug 1 fIMod (mC (.int 16)))
  (sSeq (sFor (mRg1 (mCons (mVar 1) mNil)) (gN 2)
  l_down_0)
  (sRet (mVar 0))))
theorem o_down : ∃ f : Fc, f = callM 3 2 b_down := ⟨_, rfl⟩
def f_down : Fc := o_down.choose
theorem f_down_eq : f_down = callM 3 2 b_down := o_down.choose_spec
/-- signed: 0 word -/
def b_signed : Ev → Hm → SR := (sRet (mIf (mBool (m2 fGe (mVar 0) (mC (.int 32768)))) (m2 fSub (mVar 0) (mC (.int 65536))) (mVar 0)))
theorem o_signed : ∃ f : Fc, f = callM 1 1 b_signed := ⟨_, rfl⟩
def f_signed : Fc := o_signed.choose
theorem f_signed_eq : f_signed = callM 1 1 b_signed := o_signed.choose_spec
/-- down_signed: 0 a, 1 many, 2 number, 3 k -/
def l_down_signed_0 : Ev → Hm → SR := (sAug 2 fIDiv (mC (.int 2)))
def b_down_signed : Ev → Hm → SR := (sSeq (sAsg (gN 2) (mCallF 1 f_signed (mCons (mVar 0) mNil)))
  (sSeq (sFor (mRg1 (mCons (m2 fMod (mVar 1) (mC (.int 16))) mNil)) (gN 3)
  l_down_signed_0)
  (sRet (m2 fMod (mVar 2) (mC (.int 65536))))))
theorem o_down_signed : ∃ f : Fc, f = callM 4 2 b_down_signed := ⟨_, rfl⟩
def f_down_signed : Fc := o_down_signed.choose
theorem f_down_signed_eq : f_down_signed = callM 4 2 b_down_signed := o_down_signed.choose_spec
/-- is_less: 0 a, 1 b -/
def b_is_less : Ev → Hm → SR := (sRet (mCall fInt (mCons (m2 fLt (mCallF 1 f_signed (mCons (mVar 0) mNil)) (mCallF 1 f_signed (mCons (mVar 1) mNil))) mNil)))
theorem o_is_less : ∃ f : Fc, f = callM 2 2 b_is_less := ⟨_, rfl⟩
def f_is_less : Fc := o_is_less.choose
theorem f_is_less_eq : f_is_less = callM 2 2 b_is_less := o_is_less.choose_spec
/-- is_below: 0 a, 1 b -/
def b_is_below : Ev → Hm → SR := (sRet (mCall fInt (mCons (m2 fLt (mVar 0) (mVar 1)) mNil)))
theorem o_is_below : ∃ f : Fc, f = callM 2 2 b_is_below := ⟨_, rfl⟩
def f_is_below : Fc := o_is_below.choose
theorem f_is_below_eq : f_is_below = callM 2 2 b_is_below := o_is_below.choose_spec
/-- reckoned: 0 order, 1 a, 2 b, 3 name -/
abbrev p_reckoned_0 : Ev → Hm → SR := (sAsg (gN 3) (m2 fIx (mVar 0) (mC (.int 0))))
abbrev t_reckoned_0 : Ev → Hm → SR := (sRet (mCallF 2 f_add (mCons (mVar 1) (mCons (mVar 2) mNil))))
abbrev p_reckoned_1 : Ev → Hm → SR := (sIf (mBool (m2 (fIn false) (mVar 3) (mTup (mCons (mC (.str "add")) (mCons (mC (.str "addi")) mNil)))))
  t_reckoned_0
  sNil)
abbrev t_reckoned_1 : Ev → Hm → SR := (sRet (mCallF 2 f_less (mCons (mVar 1) (mCons (mVar 2) mNil))))
abbrev p_reckoned_2 : Ev → Hm → SR := (sIf (mBool (m2 fEq (mVar 3) (mC (.str "sub"))))
  t_reckoned_1
  sNil)
abbrev t_reckoned_2 : Ev → Hm → SR := (sRet (mCallF 2 f_times (mCons (mVar 1) (mCons (mVar 2) mNil))))
abbrev p_reckoned_3 : Ev → Hm → SR := (sIf (mBool (m2 fEq (mVar 3) (mC (.str "mul"))))
  t_reckoned_2
  sNil)
abbrev t_reckoned_3 : Ev → Hm → SR := (sRet (mCallF 2 f_shared (mCons (mVar 1) (mCons (mVar 2) mNil))))
abbrev p_reckoned_4 : Ev → Hm → SR := (sIf (mBool (m2 (fIn false) (mVar 3) (mTup (mCons (mC (.str "and")) (mCons (mC (.str "andi")) mNil)))))
  t_reckoned_3
  sNil)
abbrev t_reckoned_4 : Ev → Hm → SR := (sRet (mCallF 2 f_either (mCons (mVar 1) (mCons (mVar 2) mNil))))
abbrev p_reckoned_5 : Ev → Hm → SR := (sIf (mBool (m2 (fIn false) (mVar 3) (mTup (mCons (mC (.str "or")) (mCons (mC (.str "ori")) mNil)))))
  t_reckoned_4
  sNil)
abbrev t_reckoned_5 : Ev → Hm → SR := (sRet (mCallF 2 f_unlike (mCons (mVar 1) (mCons (mVar 2) mNil))))
abbrev p_reckoned_6 : Ev → Hm → SR := (sIf (mBool (m2 (fIn false) (mVar 3) (mTup (mCons (mC (.str "xor")) (mCons (mC (.str "xori")) mNil)))))
  t_reckoned_5
  sNil)
abbrev t_reckoned_6 : Ev → Hm → SR := (sRet (mCallF 2 f_up (mCons (mVar 1) (mCons (mVar 2) mNil))))
abbrev p_reckoned_7 : Ev → Hm → SR := (sIf (mBool (m2 (fIn false) (mVar 3) (mTup (mCons (mC (.str "shl")) (mCons (mC (.str "shli")) mNil)))))
  t_reckoned_6
  sNil)
abbrev t_reckoned_7 : Ev → Hm → SR := (sRet (mCallF 2 f_down (mCons (mVar 1) (mCons (mVar 2) mNil))))
abbrev p_reckoned_8 : Ev → Hm → SR := (sIf (mBool (m2 fEq (mVar 3) (mC (.str "shr"))))
  t_reckoned_7
  sNil)
abbrev t_reckoned_8 : Ev → Hm → SR := (sRet (mCallF 2 f_down_signed (mCons (mVar 1) (mCons (mVar 2) mNil))))
abbrev p_reckoned_9 : Ev → Hm → SR := (sIf (mBool (m2 fEq (mVar 3) (mC (.str "sar"))))
  t_reckoned_8
  sNil)
abbrev t_reckoned_9 : Ev → Hm → SR := (sRet (mCallF 2 f_is_less (mCons (mVar 1) (mCons (mVar 2) mNil))))
abbrev p_reckoned_10 : Ev → Hm → SR := (sIf (mBool (m2 (fIn false) (mVar 3) (mTup (mCons (mC (.str "slt")) (mCons (mC (.str "slti")) mNil)))))
  t_reckoned_9
  sNil)
abbrev t_reckoned_10 : Ev → Hm → SR := (sRet (mCallF 2 f_is_below (mCons (mVar 1) (mCons (mVar 2) mNil))))
abbrev p_reckoned_11 : Ev → Hm → SR := (sIf (mBool (m2 fEq (mVar 3) (mC (.str "sltu"))))
  t_reckoned_10
  sNil)
abbrev p_reckoned_12 : Ev → Hm → SR := (sRaise "BadOrder")
def b_reckoned : Ev → Hm → SR := (sSeq p_reckoned_0 (sSeq p_reckoned_1 (sSeq p_reckoned_2 (sSeq p_reckoned_3 (sSeq p_reckoned_4 (sSeq p_reckoned_5 (sSeq p_reckoned_6 (sSeq p_reckoned_7 (sSeq p_reckoned_8 (sSeq p_reckoned_9 (sSeq p_reckoned_10 (sSeq p_reckoned_11 p_reckoned_12))))))))))))
theorem o_reckoned : ∃ f : Fc, f = callM 4 3 b_reckoned := ⟨_, rfl⟩
def f_reckoned : Fc := o_reckoned.choose
theorem f_reckoned_eq : f_reckoned = callM 4 3 b_reckoned := o_reckoned.choose_spec
/-- is_taken: 0 order, 1 a, 2 b -/
def b_is_taken : Ev → Hm → SR := (sSeq (sIf (mBool (m2 fEq (m2 fIx (mVar 0) (mC (.int 0))) (mC (.str "beq"))))
  (sRet (m2 fEq (mVar 1) (mVar 2)))
  sNil)
  (sSeq (sIf (mBool (m2 fEq (m2 fIx (mVar 0) (mC (.int 0))) (mC (.str "bne"))))
  (sRet (m2 fNe (mVar 1) (mVar 2)))
  sNil)
  (sRet (m2 fEq (mCallF 2 f_is_less (mCons (mVar 1) (mCons (mVar 2) mNil))) (mIf (mBool (m2 fEq (m2 fIx (mVar 0) (mC (.int 0))) (mC (.str "blt")))) (mC (.int 1)) (mC (.int 0)))))))
theorem o_is_taken : ∃ f : Fc, f = callM 3 3 b_is_taken := ⟨_, rfl⟩
def f_is_taken : Fc := o_is_taken.choose
theorem f_is_taken_eq : f_is_taken = callM 3 3 b_is_taken := o_is_taken.choose_spec
/-- effect: 0 order, 1 place, 2 a, 3 b, 4 name -/
abbrev p_effect_0 : Ev → Hm → SR := (sAsg (gN 4) (m2 fIx (mVar 0) (mC (.int 0))))
abbrev t_effect_0 : Ev → Hm → SR := (sRet (mTup (mCons (mCallF 3 f_reckoned (mCons (mVar 0) (mCons (mVar 2) (mCons (mVar 3) mNil)))) (mCons (m2 fAdd (mVar 1) (mC (.int 1))) (mCons (mC .non) mNil)))))
abbrev p_effect_1 : Ev → Hm → SR := (sIf (mBool (m2 (fIn false) (mVar 4) (mC d_THREE)))
  t_effect_0
  sNil)
abbrev t_effect_1 : Ev → Hm → SR := (sRet (mTup (mCons (mCallF 3 f_reckoned (mCons (mVar 0) (mCons (mVar 2) (mCons (m2 fMod (m2 fIx (mVar 0) (mC (.int 3))) (mC (.int 65536))) mNil)))) (mCons (m2 fAdd (mVar 1) (mC (.int 1))) (mCons (mC .non) mNil)))))
abbrev p_effect_2 : Ev → Hm → SR := (sIf (mBool (m2 (fIn false) (mVar 4) (mC d_TWO)))
  t_effect_1
  sNil)
abbrev t_effect_2 : Ev → Hm → SR := (sRet (mTup (mCons (m2 fMul (m2 fMod (m2 fIx (mVar 0) (mC (.int 2))) (mC (.int 256))) (mC (.int 256))) (mCons (m2 fAdd (mVar 1) (mC (.int 1))) (mCons (mC .non) mNil)))))
abbrev p_effect_3 : Ev → Hm → SR := (sIf (mBool (m2 fEq (mVar 4) (mC (.str "lui"))))
  t_effect_2
  sNil)
abbrev t_effect_3 : Ev → Hm → SR := (sRet (mTup (mCons (mC .non) (mCons (m2 fAdd (mVar 1) (mC (.int 1))) (mCons (mTup (mCons (mC (.str "load")) (mCons (mCallF 2 f_add (mCons (mVar 2) (mCons (m2 fMod (m2 fIx (mVar 0) (mC (.int 3))) (mC (.int 65536))) mNil))) mNil))) mNil)))))
abbrev p_effect_4 : Ev → Hm → SR := (sIf (mBool (m2 fEq (mVar 4) (mC (.str "lw"))))
  t_effect_3
  sNil)
abbrev t_effect_4 : Ev → Hm → SR := (sRet (mTup (mCons (mC .non) (mCons (m2 fAdd (mVar 1) (mC (.int 1))) (mCons (mTup (mCons (mC (.str "store")) (mCons (mCallF 2 f_add (mCons (mVar 3) (mCons (m2 fMod (m2 fIx (mVar 0) (mC (.int 3))) (mC (.int 65536))) mNil))) (mCons (mVar 2) mNil)))) mNil)))))
abbrev p_effect_5 : Ev → Hm → SR := (sIf (mBool (m2 fEq (mVar 4) (mC (.str "sw"))))
  t_effect_4
  sNil)
abbrev t_effect_5 : Ev → Hm → SR := (sRet (mTup (mCons (mC .non) (mCons (mIf (mTru (mCallF 3 f_is_taken (mCons (mVar 0) (mCons (mVar 2) (mCons (mVar 3) mNil))))) (m2 fAdd (mVar 1) (m2 fIx (mVar 0) (mC (.int 3)))) (m2 fAdd (mVar 1) (mC (.int 1)))) (mCons (mC .non) mNil)))))
abbrev p_effect_6 : Ev → Hm → SR := (sIf (mBool (m2 (fIn false) (mVar 4) (mC d_BRANCH)))
  t_effect_5
  sNil)
abbrev t_effect_6 : Ev → Hm → SR := (sRet (mTup (mCons (m2 fAdd (mVar 1) (mC (.int 1))) (mCons (m2 fAdd (mVar 1) (m2 fIx (mVar 0) (mC (.int 2)))) (mCons (mC .non) mNil)))))
abbrev p_effect_7 : Ev → Hm → SR := (sIf (mBool (m2 fEq (mVar 4) (mC (.str "jal"))))
  t_effect_6
  sNil)
abbrev t_effect_7 : Ev → Hm → SR := (sRet (mTup (mCons (m2 fAdd (mVar 1) (mC (.int 1))) (mCons (mCallF 2 f_add (mCons (mVar 2) (mCons (m2 fMod (m2 fIx (mVar 0) (mC (.int 3))) (mC (.int 65536))) mNil))) (mCons (mC .non) mNil)))))
abbrev p_effect_8 : Ev → Hm → SR := (sIf (mBool (m2 fEq (mVar 4) (mC (.str "jalr"))))
  t_effect_7
  sNil)
abbrev p_effect_9 : Ev → Hm → SR := (sRet (mTup (mCons (mC .non) (mCons (m2 fAdd (mVar 1) (mC (.int 1))) (mCons (mC .non) mNil)))))
def b_effect : Ev → Hm → SR := (sSeq p_effect_0 (sSeq p_effect_1 (sSeq p_effect_2 (sSeq p_effect_3 (sSeq p_effect_4 (sSeq p_effect_5 (sSeq p_effect_6 (sSeq p_effect_7 (sSeq p_effect_8 p_effect_9)))))))))
theorem o_effect : ∃ f : Fc, f = callM 5 4 b_effect := ⟨_, rfl⟩
def f_effect : Fc := o_effect.choose
theorem f_effect_eq : f_effect = callM 5 4 b_effect := o_effect.choose_spec
/-- State_load: 0 self, 1 address -/
def b_State_load : Ev → Hm → SR := (sSeq (sIf (mBool (m2 fEq (mVar 1) (mC (.int 254))))
  (sRet (mTup (mCons (mIf (mBool (m2 fNe (mFld cs_incoming "incoming" (mVar 0)) (mTup mNil))) (m2 fIx (mFld cs_incoming "incoming" (mVar 0)) (mC (.int 0))) (mC (.int 0))) (mCons (mC (.bl true)) mNil))))
  sNil)
  (sSeq (sIf (mBool (m2 fGe (mVar 1) (mC (.int 256))))
  (sRet (mTup (mCons (mC (.int 0)) (mCons (mC (.bl false)) mNil))))
  sNil)
  (sRet (mTup (mCons (m2 fIx (mFld cs_memory "memory" (mVar 0)) (mVar 1)) (mCons (mC (.bl true)) mNil))))))
theorem o_State_load : ∃ f : Fc, f = callM 2 2 b_State_load := ⟨_, rfl⟩
def f_State_load : Fc := o_State_load.choose
theorem f_State_load_eq : f_State_load = callM 2 2 b_State_load := o_State_load.choose_spec
/-- State_taken_in: 0 self, 1 address -/
def b_State_taken_in : Ev → Hm → SR := (sIf (mBool (m2 fEq (mVar 1) (mC (.int 254))))
  (sFldM cs_incoming "incoming" (mVar 0) (mSl (mFld cs_incoming "incoming" (mVar 0)) (mSome (mC (.int 1))) mNo))
  sNil)
theorem o_State_taken_in : ∃ f : Fc, f = callM 2 2 b_State_taken_in := ⟨_, rfl⟩
def f_State_taken_in : Fc := o_State_taken_in.choose
theorem f_State_taken_in_eq : f_State_taken_in = callM 2 2 b_State_taken_in := o_State_taken_in.choose_spec
/-- State_store: 0 self, 1 address, 2 word -/
def b_State_store : Ev → Hm → SR := (sSeq (sIf (mBool (m2 fGe (mVar 1) (mC (.int 256))))
  (sRet (mC (.bl false)))
  sNil)
  (sSeq (sIf (mBool (m2 fEq (mVar 1) (mC (.int 255))))
  (sFldM cs_out "out" (mVar 0) (m2 fAdd (mFld cs_out "out" (mVar 0)) (mTup (mCons (mVar 2) mNil))))
  (sIf (mBool (m2 fNe (mVar 1) (mC (.int 254))))
  (sAsg (gSubM (mFld cs_memory "memory" (mVar 0)) (mVar 1)) (mVar 2))
  sNil))
  (sRet (mC (.bl true)))))
theorem o_State_store : ∃ f : Fc, f = callM 3 3 b_State_store := ⟨_, rfl⟩
def f_State_store : Fc := o_State_store.choose
theorem f_State_store_eq : f_State_store = callM 3 3 b_State_store := o_State_store.choose_spec
/-- writes: 0 order, 1 name -/
def b_writes : Ev → Hm → SR := (sSeq (sAsg (gN 1) (m2 fIx (mVar 0) (mC (.int 0))))
  (sSeq (sIf (mOr (mBool (m2 (fIn false) (mVar 1) (mC d_THREE))) (mOr (mBool (m2 (fIn false) (mVar 1) (mC d_TWO))) (mBool (m2 (fIn false) (mVar 1) (mTup (mCons (mC (.str "lui")) (mCons (mC (.str "lw")) (mCons (mC (.str "jal")) (mCons (mC (.str "jalr")) mNil)))))))))
  (sRet (mIf (mBool (m2 fNe (m2 fIx (mVar 0) (mC (.int 1))) (mC (.int 0)))) (m2 fIx (mVar 0) (mC (.int 1))) (mC .non)))
  sNil)
  (sRet (mC .non))))
theorem o_writes : ∃ f : Fc, f = callM 2 1 b_writes := ⟨_, rfl⟩
def f_writes : Fc := o_writes.choose
theorem f_writes_eq : f_writes = callM 2 1 b_writes := o_writes.choose_spec
/-- step: 0 state, 1 order, 2 a, 3 b, 4 word, 5 there, 6 deed, 7 fine -/
abbrev p_step_0 : Ev → Hm → SR := (sIf (mBool (m2 (fIs true) (mFld cs_ended "ended" (mVar 0)) (mC .non)))
  sRetN
  sNil)
abbrev t_step_0 : Ev → Hm → SR := (sFldM cs_ended "ended" (mVar 0) (mTup (mCons (mC (.str "past")) (mCons (mFld cs_place "place" (mVar 0)) mNil))))
abbrev p_step_1 : Ev → Hm → SR := (sIf (mNot (mBool (mChain fLe fLt (mC (.int 0)) (mFld cs_place "place" (mVar 0)) (mCall fLen (mCons (mFld cs_program "program" (mVar 0)) mNil)))))
  (sSeq t_step_0
  sRetN)
  sNil)
abbrev p_step_2 : Ev → Hm → SR := (sAsg (gN 1) (m2 fIx (mFld cs_program "program" (mVar 0)) (mFld cs_place "place" (mVar 0))))
abbrev p_step_3 : Ev → Hm → SR := (sFldA cs_count "count" fIAdd (mVar 0) (mC (.int 1)))
abbrev t_step_1 : Ev → Hm → SR := (sFldM cs_ended "ended" (mVar 0) (mTup (mCons (mC (.str "halt")) mNil)))
abbrev p_step_4 : Ev → Hm → SR := (sIf (mBool (m2 fEq (m2 fIx (mVar 1) (mC (.int 0))) (mC (.str "halt"))))
  (sSeq t_step_1
  sRetN)
  sNil)
abbrev t_step_2 : Ev → Hm → SR := (sDrop (mCallF 2 f_call (mCons (mVar 0) (mCons (m2 fIx (mVar 1) (mC (.int 1))) mNil))))
abbrev p_step_5 : Ev → Hm → SR := (sIf (mBool (m2 fEq (m2 fIx (mVar 1) (mC (.int 0))) (mC (.str "call"))))
  (sSeq t_step_2
  sRetN)
  sNil)
abbrev t_step_3 : Ev → Hm → SR := (sFldM cs_place "place" (mVar 0) (mFld cs_return_place "return_place" (mVar 0)))
abbrev p_step_6 : Ev → Hm → SR := (sIf (mBool (m2 fEq (m2 fIx (mVar 1) (mC (.int 0))) (mC (.str "back"))))
  (sSeq t_step_3
  sRetN)
  sNil)
abbrev p_step_7 : Ev → Hm → SR := (sAsg (gU 2 (gsCons (gN 2) (gsCons (gN 3) gsNil))) (mCallF 2 f_words_for (mCons (mVar 1) (mCons (mFld cs_registers "registers" (mVar 0)) mNil))))
abbrev p_step_8 : Ev → Hm → SR := (sAsg (gU 3 (gsCons (gN 4) (gsCons (gN 5) (gsCons (gN 6) gsNil)))) (mCallF 4 f_effect (mCons (mVar 1) (mCons (mFld cs_place "place" (mVar 0)) (mCons (mVar 2) (mCons (mVar 3) mNil))))))
abbrev t_step_4 : Ev → Hm → SR := (sAsg (gU 2 (gsCons (gN 4) (gsCons (gN 7) gsNil))) (mMethF "State" "load" 2 f_State_load (mVar 0) (mCons (m2 fIx (mVar 6) (mC (.int 1))) mNil)))
abbrev t_step_5 : Ev → Hm → SR := (sDrop (mMethF "State" "fault" 2 f_State_fault (mVar 0) (mCons (mC (.int 1)) mNil)))
abbrev t_step_6 : Ev → Hm → SR := (sIf (mNot (mTru (mVar 7)))
  (sSeq t_step_5
  sRetN)
  sNil)
abbrev t_step_7 : Ev → Hm → SR := (sDrop (mMethF "State" "taken_in" 2 f_State_taken_in (mVar 0) (mCons (m2 fIx (mVar 6) (mC (.int 1))) mNil)))
abbrev p_step_9 : Ev → Hm → SR := (sIf (mAnd (mBool (m2 (fIs true) (mVar 6) (mC .non))) (mBool (m2 fEq (m2 fIx (mVar 6) (mC (.int 0))) (mC (.str "load")))))
  (sSeq t_step_4
  (sSeq t_step_6
  t_step_7))
  sNil)
abbrev t_step_8 : Ev → Hm → SR := (sDrop (mMethF "State" "fault" 2 f_State_fault (mVar 0) (mCons (mC (.int 1)) mNil)))
abbrev p_step_10 : Ev → Hm → SR := (sIf (mAnd (mBool (m2 (fIs true) (mVar 6) (mC .non))) (mAnd (mBool (m2 fEq (m2 fIx (mVar 6) (mC (.int 0))) (mC (.str "store")))) (mNot (mTru (mMethF "State" "store" 3 f_State_store (mVar 0) (mCons (m2 fIx (mVar 6) (mC (.int 1))) (mCons (m2 fIx (mVar 6) (mC (.int 2))) mNil)))))))
  (sSeq t_step_8
  sRetN)
  sNil)
abbrev p_step_11 : Ev → Hm → SR := (sDrop (mMethF "State" "put" 3 f_State_put (mVar 0) (mCons (mCallF 1 f_writes (mCons (mVar 1) mNil)) (mCons (mVar 4) mNil))))
abbrev p_step_12 : Ev → Hm → SR := (sFldM cs_place "place" (mVar 0) (mVar 5))
def b_step : Ev → Hm → SR := (sSeq p_step_0 (sSeq p_step_1 (sSeq p_step_2 (sSeq p_step_3 (sSeq p_step_4 (sSeq p_step_5 (sSeq p_step_6 (sSeq p_step_7 (sSeq p_step_8 (sSeq p_step_9 (sSeq p_step_10 (sSeq p_step_11 p_step_12))))))))))))
theorem o_step : ∃ f : Fc, f = callM 8 1 b_step := ⟨_, rfl⟩
def f_step : Fc := o_step.choose
theorem f_step_eq : f_step = callM 8 1 b_step := o_step.choose_spec
/-- State_seen: 0 self -/
def b_State_seen : Ev → Hm → SR := (sRet (mTup (mCons (mFld cs_place "place" (mVar 0)) (mCons (mCall fTuple (mCons (mFld cs_registers "registers" (mVar 0)) mNil)) (mCons (mCall fTuple (mCons (mFld cs_memory "memory" (mVar 0)) mNil)) (mCons (mFld cs_out "out" (mVar 0)) (mCons (mFld cs_incoming "incoming" (mVar 0)) (mCons (mFld cs_cause "cause" (mVar 0)) (mCons (mFld cs_return_place "return_place" (mVar 0)) (mCons (mFld cs_handler "handler" (mVar 0)) (mCons (mFld cs_ended "ended" (mVar 0)) mNil)))))))))))
theorem o_State_seen : ∃ f : Fc, f = callM 1 1 b_State_seen := ⟨_, rfl⟩
def f_State_seen : Fc := o_State_seen.choose
theorem f_State_seen_eq : f_State_seen = callM 1 1 b_State_seen := o_State_seen.choose_spec
/-- run: 0 program, 1 incoming, 2 most, 3 state -/
abbrev p_run_0 : Ev → Hm → SR := (sAsg (gN 3) (mMake "State" 3 f_State___init__ (mCons (mVar 0) (mCons (mVar 1) mNil))))
abbrev t_run_0 : Ev → Hm → SR := (sIf (mBool (m2 fGe (mFld cs_count "count" (mVar 3)) (mVar 2)))
  (sRaise "TooLarge")
  sNil)
abbrev t_run_1 : Ev → Hm → SR := (sDrop (mCallF 1 f_step (mCons (mVar 3) mNil)))
def l_run_0 : Ev → Hm → SR := (sSeq t_run_0
  t_run_1)
abbrev p_run_1 : Ev → Hm → SR := (sWhile (mBool (m2 (fIs false) (mFld cs_ended "ended" (mVar 3)) (mC .non)))
  l_run_0 1000000)
abbrev p_run_2 : Ev → Hm → SR := (sRet (mVar 3))
def b_run : Ev → Hm → SR := (sSeq p_run_0 (sSeq p_run_1 p_run_2))
theorem o_run : ∃ f : Fc, f = callM 4 3 b_run := ⟨_, rfl⟩
def f_run : Fc := o_run.choose
theorem f_run_eq : f_run = callM 4 3 b_run := o_run.choose_spec
/-- trace: 0 program, 1 incoming, 2 most, 3 state, 4 found -/
abbrev p_trace_0 : Ev → Hm → SR := (sPar 3 4 (mCons (mMake "State" 3 f_State___init__ (mCons (mVar 0) (mCons (mVar 1) mNil))) (mCons (mLst mNil) mNil)))
abbrev t_trace_0 : Ev → Hm → SR := (sDrop (mMeth isL fAppend (mVar 4) (mCons (mTup (mCons (mFld cs_place "place" (mVar 3)) (mCons (mMethF "State" "seen" 1 f_State_seen (mVar 3) mNil) mNil))) mNil)))
abbrev t_trace_1 : Ev → Hm → SR := (sDrop (mCallF 1 f_step (mCons (mVar 3) mNil)))
def l_trace_0 : Ev → Hm → SR := (sSeq t_trace_0
  t_trace_1)
abbrev p_trace_1 : Ev → Hm → SR := (sWhile (mAnd (mBool (m2 (fIs false) (mFld cs_ended "ended" (mVar 3)) (mC .non))) (mBool (m2 fLt (mCall fLen (mCons (mVar 4) mNil)) (mVar 2))))
  l_trace_0 1000000)
abbrev p_trace_2 : Ev → Hm → SR := (sRet (mCall fTuple (mCons (mVar 4) mNil)))
def b_trace : Ev → Hm → SR := (sSeq p_trace_0 (sSeq p_trace_1 p_trace_2))
theorem o_trace : ∃ f : Fc, f = callM 5 3 b_trace := ⟨_, rfl⟩
def f_trace : Fc := o_trace.choose
theorem f_trace_eq : f_trace = callM 5 3 b_trace := o_trace.choose_spec
/-- law: 0 script, 1 dice, 2 program, 3 incoming, 4 there, 5 mine, 6 count, 7 answer, 8 rows, 9 k -/
def q_0 : Ev → Hm → SR := (sAsg (gN 2) (mCallF 3 f__law_program (mCons (mVar 1) (mCons (mC (.int 12)) (mCons (mC (.int 1)) mNil)))))
def q_1 : Ev → Hm → SR := (sAsg (gN 3) (mLc [9] (mRg1 (mCons (mCallF 2 f__law_roll (mCons (mVar 1) (mCons (mC (.int 4)) mNil))) mNil)) (gN 9) tYesM (mCallF 2 f__law_roll (mCons (mVar 1) (mCons (mC (.int 9)) mNil)))))
def q_2 : Ev → Hm → SR := (sAsg (gN 4) (mMake "State" 3 f_State___init__ (mCons (mVar 2) (mCons (mVar 3) mNil))))
def q_3 : Ev → Hm → SR := (sAsg (gN 5) (mLst (mCons (mC (.int 0)) (mCons (m2 fMul (mLst (mCons (mC (.int 0)) mNil)) (mC (.int 8))) (mCons (m2 fMul (mLst (mCons (mC (.int 0)) mNil)) (mC (.int 256))) (mCons (mLst mNil) (mCons (mCall fList (mCons (mVar 3) mNil)) (mCons (mC (.int 0)) (mCons (mC (.int 0)) (mCons (mC .non) (mCons (mC .non) mNil)))))))))))
def q_4 : Ev → Hm → SR := (sAsg (gN 6) (mC (.int 0)))
abbrev t_law_0 : Ev → Hm → SR := (sAsg (gSubM (mVar 5) (mC (.int 8))) (mTup (mCons (mC (.str "past")) (mCons (m2 fIx (mVar 5) (mC (.int 0))) mNil))))
abbrev t_law_1 : Ev → Hm → SR := (sDrop (mCallF 3 f__law_do (mCons (mVar 5) (mCons (m2 fIx (mVar 2) (m2 fIx (mVar 5) (mC (.int 0)))) (mCons (mVar 2) mNil)))))
abbrev t_law_2 : Ev → Hm → SR := (sAsg (gN 6) (m2 fAdd (mVar 6) (mC (.int 1))))
abbrev t_law_3 : Ev → Hm → SR := (sIf (mNot (mBool (mChain fLe fLt (mC (.int 0)) (m2 fIx (mVar 5) (mC (.int 0))) (mCall fLen (mCons (mVar 2) mNil)))))
  t_law_0
  (sSeq t_law_1
  t_law_2))
abbrev t_law_4 : Ev → Hm → SR := (sDrop (mCallF 1 f_step (mCons (mVar 4) mNil)))
abbrev t_law_5 : Ev → Hm → SR := (sIf (mBool (m2 fNe (mMethF "State" "seen" 1 f_State_seen (mVar 4) mNil) (mTup (mCons (m2 fIx (mVar 5) (mC (.int 0))) (mCons (mCall fTuple (mCons (m2 fIx (mVar 5) (mC (.int 1))) mNil)) (mCons (mCall fTuple (mCons (m2 fIx (mVar 5) (mC (.int 2))) mNil)) (mCons (mCall fTuple (mCons (m2 fIx (mVar 5) (mC (.int 3))) mNil)) (mCons (mCall fTuple (mCons (m2 fIx (mVar 5) (mC (.int 4))) mNil)) (mCons (m2 fIx (mVar 5) (mC (.int 5))) (mCons (m2 fIx (mVar 5) (mC (.int 6))) (mCons (m2 fIx (mVar 5) (mC (.int 7))) (mCons (m2 fIx (mVar 5) (mC (.int 8))) mNil))))))))))))
  (sRet (mC (.bl false)))
  sNil)
def l_law_0 : Ev → Hm → SR := (sSeq t_law_3
  (sSeq t_law_4
  t_law_5))
def q_5 : Ev → Hm → SR := (sWhile (mAnd (mBool (m2 (fIs false) (m2 fIx (mVar 5) (mC (.int 8))) (mC .non))) (mBool (m2 fLt (mVar 6) (mC (.int 60)))))
  l_law_0 1000000)
def q_6 : Ev → Hm → SR := (sAsg (gN 7) (mTold told_cs (mCallF 3 f_run (mCons (mVar 2) (mCons (mVar 3) (mCons (mC (.int 60)) mNil))))))
def q_7 : Ev → Hm → SR := (sIf (mAnd (mBool (m2 (fIs true) (m2 fIx (mVar 5) (mC (.int 8))) (mC .non))) (mOr (mBool (m2 (fEqI ["State"]) (mVar 7) (mC (.str "large")))) (mOr (mBool (m2 fNe (mMethF "State" "seen" 1 f_State_seen (mVar 7) mNil) (mMethF "State" "seen" 1 f_State_seen (mVar 4) mNil))) (mBool (m2 fNe (mFld cs_count "count" (mVar 7)) (mVar 6))))))
  (sRet (mC (.bl false)))
  sNil)
def q_8 : Ev → Hm → SR := (sAsg (gN 8) (mCallF 3 f_trace (mCons (mVar 2) (mCons (mVar 3) (mCons (mC (.int 60)) mNil)))))
def q_9 : Ev → Hm → SR := (sIf (mOr (mBool (m2 fNe (m2 fIx (m2 fIx (mVar 8) (mC (.int 0))) (mC (.int 0))) (mC (.int 0)))) (mBool (m2 fGt (mCall fLen (mCons (mVar 8) mNil)) (mC (.int 60)))))
  (sRet (mC (.bl false)))
  sNil)
def q_10 : Ev → Hm → SR := (sIf (mAnd (mBool (m2 fGt (mVar 6) (mC (.int 0)))) (mAnd (mBool (m2 (fIs true) (m2 fIx (mVar 5) (mC (.int 8))) (mC .non))) (mAnd (mBool (m2 fNe (m2 fIx (m2 fIx (mVar 5) (mC (.int 8))) (mC (.int 0))) (mC (.str "past")))) (mBool (m2 fNe (mCall fLen (mCons (mVar 8) mNil)) (mVar 6))))))
  (sRet (mC (.bl false)))
  sNil)
def q_11 : Ev → Hm → SR := (sIf (mAnd (mBool (m2 fGt (mVar 6) (mC (.int 0)))) (mBool (m2 fNe (mTold told_cs (mCallF 3 f_run (mCons (mVar 2) (mCons (mVar 3) (mCons (mC (.int 0)) mNil))))) (mC (.str "large")))))
  (sRet (mC (.bl false)))
  sNil)
def q_12 : Ev → Hm → SR := (sIf (mBool (m2 fNe (mTold told_cs (mCallF 3 f_run (mCons (mTup mNil) (mCons (mTup mNil) (mCons (mC (.int 9)) mNil))))) (mC (.str "program"))))
  (sRet (mC (.bl false)))
  sNil)
def q_13 : Ev → Hm → SR := (sIf (mBool (m2 fNe (mTold told_cs (mCallF 3 f_run (mCons (mVar 2) (mCons (mTup (mCons (mC (.int 65536)) mNil)) (mCons (mC (.int 9)) mNil))))) (mC (.str "order"))))
  (sRet (mC (.bl false)))
  sNil)
def l_law_1 : Ev → Hm → SR := (sSeq q_0 (sSeq q_1 (sSeq q_2 (sSeq q_3 (sSeq q_4 (sSeq q_5 (sSeq q_6 (sSeq q_7 (sSeq q_8 (sSeq q_9 (sSeq q_10 (sSeq q_11 (sSeq q_12 q_13)))))))))))))
abbrev t_law_6 : Ev → Hm → SR := (sFor (mItA (mCallF 2 f__law_rounds (mCons (mVar 0) (mCons (mC (.int 2)) mNil)))) (gN 1)
  l_law_1)
def b_law : Ev → Hm → SR := (sSeq t_law_6
  (sRet (mC (.bl true))))
def f_law : Fc := callM 10 1 b_law
end
end K03
end MM
namespace MM
namespace K03
open PySem L2
def top (i : Nat) : Stmt := PySem.Challenge.pw_corehall_k03_a_plain_machine.main.body.getD i (.Pass ⟨0, 0, 0, 0⟩)
def clsB (s : Stmt) : List Stmt := match s with
  | .ClassDef _ _ _ b _ _ _ _ _ _ _ => b
  | _ => []
def inC (i j : Nat) : Stmt := (clsB (top i)).getD j (.Pass ⟨0, 0, 0, 0⟩)
abbrev s__law_dice : Stmt := top 49
def df__law_dice : He.DefD := ⟨("_law_dice", none), "_law_dice", "_law_dice", defArgs s__law_dice, defBody s__law_dice, defScope s__law_dice, [], []⟩
abbrev s__law_rounds : Stmt := top 51
def df__law_rounds : He.DefD := ⟨("_law_rounds", none), "_law_rounds", "_law_rounds", defArgs s__law_rounds, defBody s__law_rounds, defScope s__law_rounds, [], []⟩
abbrev s__law_roll : Stmt := top 50
def df__law_roll : He.DefD := ⟨("_law_roll", none), "_law_roll", "_law_roll", defArgs s__law_roll, defBody s__law_roll, defScope s__law_roll, [], []⟩
abbrev s_shape : Stmt := top 30
def df_shape : He.DefD := ⟨("shape", none), "shape", "shape", defArgs s_shape, defBody s_shape, defScope s_shape, [], []⟩
abbrev s__law_order : Stmt := top 53
def df__law_order : He.DefD := ⟨("_law_order", none), "_law_order", "_law_order", defArgs s__law_order, defBody s__law_order, defScope s__law_order, [], []⟩
abbrev s__law_program : Stmt := top 54
def df__law_program : He.DefD := ⟨("_law_program", none), "_law_program", "_law_program", defArgs s__law_program, defBody s__law_program, defScope s__law_program, [], []⟩
abbrev s_is_order : Stmt := top 31
def df_is_order : He.DefD := ⟨("is_order", none), "is_order", "is_order", defArgs s_is_order, defBody s_is_order, defScope s_is_order, [], []⟩
abbrev s_check_order : Stmt := top 32
def df_check_order : He.DefD := ⟨("check_order", none), "check_order", "check_order", defArgs s_check_order, defBody s_check_order, defScope s_check_order, [], []⟩
abbrev s_check_word : Stmt := top 9
def df_check_word : He.DefD := ⟨("check_word", none), "check_word", "check_word", defArgs s_check_word, defBody s_check_word, defScope s_check_word, [], []⟩
abbrev s_State___init__ : Stmt := inC 41 0
def df_State___init__ : He.DefD := ⟨("State", some "__init__"), "__init__", "State.__init__", defArgs s_State___init__, defBody s_State___init__, defScope s_State___init__, [], []⟩
abbrev s__law_fault : Stmt := top 60
def df__law_fault : He.DefD := ⟨("_law_fault", none), "_law_fault", "_law_fault", defArgs s__law_fault, defBody s__law_fault, defScope s__law_fault, [], []⟩
abbrev s__law_memory : Stmt := top 59
def df__law_memory : He.DefD := ⟨("_law_memory", none), "_law_memory", "_law_memory", defArgs s__law_memory, defBody s__law_memory, defScope s__law_memory, [], []⟩
abbrev s__law_number : Stmt := top 55
def df__law_number : He.DefD := ⟨("_law_number", none), "_law_number", "_law_number", defArgs s__law_number, defBody s__law_number, defScope s__law_number, [], []⟩
abbrev s__law_reckon : Stmt := top 56
def df__law_reckon : He.DefD := ⟨("_law_reckon", none), "_law_reckon", "_law_reckon", defArgs s__law_reckon, defBody s__law_reckon, defScope s__law_reckon, [], []⟩
abbrev s__law_word : Stmt := top 58
def df__law_word : He.DefD := ⟨("_law_word", none), "_law_word", "_law_word", defArgs s__law_word, defBody s__law_word, defScope s__law_word, [], []⟩
abbrev s__law_do : Stmt := top 57
def df__law_do : He.DefD := ⟨("_law_do", none), "_law_do", "_law_do", defArgs s__law_do, defBody s__law_do, defScope s__law_do, [], []⟩
abbrev s_State_put : Stmt := inC 41 2
def df_State_put : He.DefD := ⟨("State", some "put"), "put", "State.put", defArgs s_State_put, defBody s_State_put, defScope s_State_put, [], []⟩
abbrev s_State_fault : Stmt := inC 41 6
def df_State_fault : He.DefD := ⟨("State", some "fault"), "fault", "State.fault", defArgs s_State_fault, defBody s_State_fault, defScope s_State_fault, [], []⟩
abbrev s_call : Stmt := top 44
def df_call : He.DefD := ⟨("call", none), "call", "call", defArgs s_call, defBody s_call, defScope s_call, [], []⟩
abbrev s_reads : Stmt := top 33
def df_reads : He.DefD := ⟨("reads", none), "reads", "reads", defArgs s_reads, defBody s_reads, defScope s_reads, [], []⟩
abbrev s_words_for : Stmt := top 45
def df_words_for : He.DefD := ⟨("words_for", none), "words_for", "words_for", defArgs s_words_for, defBody s_words_for, defScope s_words_for, [], []⟩
abbrev s_add : Stmt := top 13
def df_add : He.DefD := ⟨("add", none), "add", "add", defArgs s_add, defBody s_add, defScope s_add, [], []⟩
abbrev s_less : Stmt := top 14
def df_less : He.DefD := ⟨("less", none), "less", "less", defArgs s_less, defBody s_less, defScope s_less, [], []⟩
abbrev s_times : Stmt := top 15
def df_times : He.DefD := ⟨("times", none), "times", "times", defArgs s_times, defBody s_times, defScope s_times, [], []⟩
abbrev s_of_bits : Stmt := top 12
def df_of_bits : He.DefD := ⟨("of_bits", none), "of_bits", "of_bits", defArgs s_of_bits, defBody s_of_bits, defScope s_of_bits, [], []⟩
abbrev s_bits_of : Stmt := top 11
def df_bits_of : He.DefD := ⟨("bits_of", none), "bits_of", "bits_of", defArgs s_bits_of, defBody s_bits_of, defScope s_bits_of, [], []⟩
abbrev s_shared : Stmt := top 16
def df_shared : He.DefD := ⟨("shared", none), "shared", "shared", defArgs s_shared, defBody s_shared, defScope s_shared, [], []⟩
abbrev s_either : Stmt := top 17
def df_either : He.DefD := ⟨("either", none), "either", "either", defArgs s_either, defBody s_either, defScope s_either, [], []⟩
abbrev s_unlike : Stmt := top 18
def df_unlike : He.DefD := ⟨("unlike", none), "unlike", "unlike", defArgs s_unlike, defBody s_unlike, defScope s_unlike, [], []⟩
abbrev s_up : Stmt := top 19
def df_up : He.DefD := ⟨("up", none), "up", "up", defArgs s_up, defBody s_up, defScope s_up, [], []⟩
abbrev s_down : Stmt := top 20
def df_down : He.DefD := ⟨("down", none), "down", "down", defArgs s_down, defBody s_down, defScope s_down, [], []⟩
abbrev s_signed : Stmt := top 10
def df_signed : He.DefD := ⟨("signed", none), "signed", "signed", defArgs s_signed, defBody s_signed, defScope s_signed, [], []⟩
abbrev s_down_signed : Stmt := top 21
def df_down_signed : He.DefD := ⟨("down_signed", none), "down_signed", "down_signed", defArgs s_down_signed, defBody s_down_signed, defScope s_down_signed, [], []⟩
abbrev s_is_less : Stmt := top 22
def df_is_less : He.DefD := ⟨("is_less", none), "is_less", "is_less", defArgs s_is_less, defBody s_is_less, defScope s_is_less, [], []⟩
abbrev s_is_below : Stmt := top 23
def df_is_below : He.DefD := ⟨("is_below", none), "is_below", "is_below", defArgs s_is_below, defBody s_is_below, defScope s_is_below, [], []⟩
abbrev s_reckoned : Stmt := top 35
def df_reckoned : He.DefD := ⟨("reckoned", none), "reckoned", "reckoned", defArgs s_reckoned, defBody s_reckoned, defScope s_reckoned, [], []⟩
abbrev s_is_taken : Stmt := top 36
def df_is_taken : He.DefD := ⟨("is_taken", none), "is_taken", "is_taken", defArgs s_is_taken, defBody s_is_taken, defScope s_is_taken, [], []⟩
abbrev s_effect : Stmt := top 42
def df_effect : He.DefD := ⟨("effect", none), "effect", "effect", defArgs s_effect, defBody s_effect, defScope s_effect, [], []⟩
abbrev s_State_load : Stmt := inC 41 3
def df_State_load : He.DefD := ⟨("State", some "load"), "load", "State.load", defArgs s_State_load, defBody s_State_load, defScope s_State_load, [], []⟩
abbrev s_State_taken_in : Stmt := inC 41 4
def df_State_taken_in : He.DefD := ⟨("State", some "taken_in"), "taken_in", "State.taken_in", defArgs s_State_taken_in, defBody s_State_taken_in, defScope s_State_taken_in, [], []⟩
abbrev s_State_store : Stmt := inC 41 5
def df_State_store : He.DefD := ⟨("State", some "store"), "store", "State.store", defArgs s_State_store, defBody s_State_store, defScope s_State_store, [], []⟩
abbrev s_writes : Stmt := top 34
def df_writes : He.DefD := ⟨("writes", none), "writes", "writes", defArgs s_writes, defBody s_writes, defScope s_writes, [], []⟩
abbrev s_step : Stmt := top 43
def df_step : He.DefD := ⟨("step", none), "step", "step", defArgs s_step, defBody s_step, defScope s_step, [], []⟩
abbrev s_State_seen : Stmt := inC 41 1
def df_State_seen : He.DefD := ⟨("State", some "seen"), "seen", "State.seen", defArgs s_State_seen, defBody s_State_seen, defScope s_State_seen, [], []⟩
abbrev s_run : Stmt := top 46
def df_run : He.DefD := ⟨("run", none), "run", "run", defArgs s_run, defBody s_run, defScope s_run, [], []⟩
abbrev s_trace : Stmt := top 47
def df_trace : He.DefD := ⟨("trace", none), "trace", "trace", defArgs s_trace, defBody s_trace, defScope s_trace, [], []⟩
abbrev s_law : Stmt := top 61
def df_law : He.DefD := ⟨("law", none), "law", "law", defArgs s_law, defBody s_law, defScope s_law, [], []⟩
abbrev s__law_told : Stmt := top 52
def df__law_told : He.DefD := ⟨("_law_told", none), "_law_told", "_law_told", defArgs s__law_told, defBody s__law_told, defScope s__law_told, [], []⟩
def fa : List He.Fa := [.free "abs", .free "int", .glo "_law_dice", .glo "_law_rounds", .free "tuple", .glo "_law_roll", .free "range", .free "len", .glo "THREE", .glo "TWO", .glo "BRANCH", .glo "BadOrder", .exc "BadOrder", .glo "shape", .glo "_law_order", .glo "_law_program", .glo "BadProgram", .exc "BadProgram", .free "isinstance", .glo "NAMES", .free "zip", .free "bool", .glo "is_order", .glo "check_order", .int "WORD" 65536, .glo "check_word", .cls "State", .noat "State" "program", .glo "State", .noat "State" "place", .noat "State" "registers", .int "SIZE" 256, .noat "State" "memory", .noat "State" "out", .noat "State" "incoming", .noat "State" "cause", .noat "State" "return_place", .noat "State" "handler", .noat "State" "ended", .noat "State" "count", .mkr "State", .free "list", .glo "_law_fault", .glo "_law_memory", .glo "_law_number", .free "max", .glo "_law_reckon", .glo "_law_word", .glo "_law_do", .meth "State" "put", .meth "State" "fault", .glo "call", .glo "reads", .glo "words_for", .glo "add", .glo "less", .glo "times", .free "reversed", .glo "of_bits", .glo "bits_of", .glo "shared", .glo "either", .glo "unlike", .glo "up", .glo "down", .int "HALF" 32768, .glo "signed", .glo "down_signed", .glo "is_less", .glo "is_below", .glo "reckoned", .glo "is_taken", .glo "effect", .int "IN" 254, .meth "State" "load", .meth "State" "taken_in", .int "OUT" 255, .meth "State" "store", .glo "writes", .glo "step", .meth "State" "seen", .glo "_law_told", .exm "BadOrder" "BadOrder" true, .exm "BadProgram" "BadOrder" false, .exm "BadProgram" "BadProgram" true, .glo "NoWay", .exm "NoWay" "BadOrder" false, .exm "NoWay" "BadProgram" false, .exm "NoWay" "NoWay" true, .glo "TooLarge", .exm "TooLarge" "BadOrder" false, .exm "TooLarge" "BadProgram" false, .exm "TooLarge" "NoWay" false, .exm "TooLarge" "TooLarge" true, .exc "TooLarge", .glo "run", .glo "trace", .glo "law"]
def fn : List He.DefD := [df__law_dice, df__law_rounds, df__law_roll, df_shape, df__law_order, df__law_program, df_is_order, df_check_order, df_check_word, df_State___init__, df__law_fault, df__law_memory, df__law_number, df__law_reckon, df__law_word, df__law_do, df_State_put, df_State_fault, df_call, df_reads, df_words_for, df_add, df_less, df_times, df_of_bits, df_bits_of, df_shared, df_either, df_unlike, df_up, df_down, df_signed, df_down_signed, df_is_less, df_is_below, df_reckoned, df_is_taken, df_effect, df_State_load, df_State_taken_in, df_State_store, df_writes, df_step, df_State_seen, df_run, df_trace, df_law, df__law_told]
abbrev tfp_0 : He.Defn × Str := (("law", none), ("law" : Str) ++ ".<locals>." ++ "<lambda>")
def tf : List (He.Defn × Str) := [tfp_0]
theorem tfm (i : Nat) {p : He.Defn × Str} (h : tf[i]? = some p := by rfl) : p ∈ tf := List.mem_of_getElem? h
def exM (K : PySem.W.Frag) : Bool := true && noEqB K (He.ga K "State")
def ex (K : PySem.W.Frag) : Bool := exM K && He.tupB K "THREE" [.str "add", .str "sub", .str "mul", .str "and", .str "or", .str "xor", .str "shl", .str "shr", .str "sar", .str "slt", .str "sltu"] && He.tupB K "TWO" [.str "addi", .str "andi", .str "ori", .str "xori", .str "shli", .str "slti"] && He.tupB K "BRANCH" [.str "beq", .str "bne", .str "blt", .str "bge"] && He.tupB K "NAMES" [.str "add", .str "sub", .str "mul", .str "and", .str "or", .str "xor", .str "shl", .str "shr", .str "sar", .str "slt", .str "sltu", .str "addi", .str "andi", .str "ori", .str "xori", .str "shli", .str "slti", .str "beq", .str "bne", .str "blt", .str "bge", .str "lui", .str "lw", .str "sw", .str "jal", .str "jalr", .str "call", .str "back", .str "halt"] && tabNd K tf
section
variable {P : Program} {w : World} {K : PySem.W.Frag} {mg : Str → Option Value} {base h : Heap} {T : List (Addr × Str)}
/-- what the head tells -/
structure Cf (K : PySem.W.Frag) : Prop where
  d : He.SaysD fa fn K
  e : ex K = true
section
variable (XI : K.In h) (G : h.Ns mainGlobals mg) (c : Cf K) (TB : ∀ p ∈ tf, LamX.TabB base mg (He.cT K p.1).1 (He.cT K p.1).2)
include c
theorem x_BadOrder : (He.Fa.exc "BadOrder").ok K = true := c.d.fact 12 (f := .exc "BadOrder") rfl
theorem x_BadProgram : (He.Fa.exc "BadProgram").ok K = true := c.d.fact 17 (f := .exc "BadProgram") rfl
theorem c_State : (He.Fa.cls "State").ok K = true := c.d.fact 26 (f := .cls "State") rfl
theorem a_State_program : (He.Fa.noat "State" "program").ok K = true := c.d.fact 27 (f := .noat "State" "program") rfl
theorem a_State_place : (He.Fa.noat "State" "place").ok K = true := c.d.fact 29 (f := .noat "State" "place") rfl
theorem a_State_registers : (He.Fa.noat "State" "registers").ok K = true := c.d.fact 30 (f := .noat "State" "registers") rfl
theorem a_State_memory : (He.Fa.noat "State" "memory").ok K = true := c.d.fact 32 (f := .noat "State" "memory") rfl
theorem a_State_out : (He.Fa.noat "State" "out").ok K = true := c.d.fact 33 (f := .noat "State" "out") rfl
theorem a_State_incoming : (He.Fa.noat "State" "incoming").ok K = true := c.d.fact 34 (f := .noat "State" "incoming") rfl
theorem a_State_cause : (He.Fa.noat "State" "cause").ok K = true := c.d.fact 35 (f := .noat "State" "cause") rfl
theorem a_State_return_place : (He.Fa.noat "State" "return_place").ok K = true := c.d.fact 36 (f := .noat "State" "return_place") rfl
theorem a_State_handler : (He.Fa.noat "State" "handler").ok K = true := c.d.fact 37 (f := .noat "State" "handler") rfl
theorem a_State_ended : (He.Fa.noat "State" "ended").ok K = true := c.d.fact 38 (f := .noat "State" "ended") rfl
theorem a_State_count : (He.Fa.noat "State" "count").ok K = true := c.d.fact 39 (f := .noat "State" "count") rfl
theorem k_State : (He.Fa.mkr "State").ok K = true := c.d.fact 40 (f := .mkr "State") rfl
theorem m_State_put : (He.Fa.meth "State" "put").ok K = true := c.d.fact 49 (f := .meth "State" "put") rfl
theorem m_State_fault : (He.Fa.meth "State" "fault").ok K = true := c.d.fact 50 (f := .meth "State" "fault") rfl
theorem m_State_load : (He.Fa.meth "State" "load").ok K = true := c.d.fact 74 (f := .meth "State" "load") rfl
theorem m_State_taken_in : (He.Fa.meth "State" "taken_in").ok K = true := c.d.fact 75 (f := .meth "State" "taken_in") rfl
theorem m_State_store : (He.Fa.meth "State" "store").ok K = true := c.d.fact 77 (f := .meth "State" "store") rfl
theorem m_State_seen : (He.Fa.meth "State" "seen").ok K = true := c.d.fact 80 (f := .meth "State" "seen") rfl
theorem e_BadOrder_BadOrder : (He.Fa.exm "BadOrder" "BadOrder" true).ok K = true := c.d.fact 82 (f := .exm "BadOrder" "BadOrder" true) rfl
theorem e_BadProgram_BadOrder : (He.Fa.exm "BadProgram" "BadOrder" false).ok K = true := c.d.fact 83 (f := .exm "BadProgram" "BadOrder" false) rfl
theorem e_BadProgram_BadProgram : (He.Fa.exm "BadProgram" "BadProgram" true).ok K = true := c.d.fact 84 (f := .exm "BadProgram" "BadProgram" true) rfl
theorem e_NoWay_BadOrder : (He.Fa.exm "NoWay" "BadOrder" false).ok K = true := c.d.fact 86 (f := .exm "NoWay" "BadOrder" false) rfl
theorem e_NoWay_BadProgram : (He.Fa.exm "NoWay" "BadProgram" false).ok K = true := c.d.fact 87 (f := .exm "NoWay" "BadProgram" false) rfl
theorem e_NoWay_NoWay : (He.Fa.exm "NoWay" "NoWay" true).ok K = true := c.d.fact 88 (f := .exm "NoWay" "NoWay" true) rfl
theorem e_TooLarge_BadOrder : (He.Fa.exm "TooLarge" "BadOrder" false).ok K = true := c.d.fact 90 (f := .exm "TooLarge" "BadOrder" false) rfl
theorem e_TooLarge_BadProgram : (He.Fa.exm "TooLarge" "BadProgram" false).ok K = true := c.d.fact 91 (f := .exm "TooLarge" "BadProgram" false) rfl
theorem e_TooLarge_NoWay : (He.Fa.exm "TooLarge" "NoWay" false).ok K = true := c.d.fact 92 (f := .exm "TooLarge" "NoWay" false) rfl
theorem e_TooLarge_TooLarge : (He.Fa.exm "TooLarge" "TooLarge" true).ok K = true := c.d.fact 93 (f := .exm "TooLarge" "TooLarge" true) rfl
theorem x_TooLarge : (He.Fa.exc "TooLarge").ok K = true := c.d.fact 94 (f := .exc "TooLarge") rfl
include XI G
theorem n_abs : mg "abs" = none := He.free_ok XI G (c.d.fact 0 (f := .free "abs") rfl)
theorem n_int : mg "int" = none := He.free_ok XI G (c.d.fact 1 (f := .free "int") rfl)
theorem g__law_dice : mg "_law_dice" = some (.ref (He.ga K "_law_dice")) := He.glo_ok XI G (c.d.fact 2 (f := .glo "_law_dice") rfl)
theorem g__law_rounds : mg "_law_rounds" = some (.ref (He.ga K "_law_rounds")) := He.glo_ok XI G (c.d.fact 3 (f := .glo "_law_rounds") rfl)
theorem n_tuple : mg "tuple" = none := He.free_ok XI G (c.d.fact 4 (f := .free "tuple") rfl)
theorem g__law_roll : mg "_law_roll" = some (.ref (He.ga K "_law_roll")) := He.glo_ok XI G (c.d.fact 5 (f := .glo "_law_roll") rfl)
theorem n_range : mg "range" = none := He.free_ok XI G (c.d.fact 6 (f := .free "range") rfl)
theorem n_len : mg "len" = none := He.free_ok XI G (c.d.fact 7 (f := .free "len") rfl)
theorem g_THREE : mg "THREE" = some (.ref (He.ga K "THREE")) := He.glo_ok XI G (c.d.fact 8 (f := .glo "THREE") rfl)
theorem g_TWO : mg "TWO" = some (.ref (He.ga K "TWO")) := He.glo_ok XI G (c.d.fact 9 (f := .glo "TWO") rfl)
theorem g_BRANCH : mg "BRANCH" = some (.ref (He.ga K "BRANCH")) := He.glo_ok XI G (c.d.fact 10 (f := .glo "BRANCH") rfl)
theorem g_BadOrder : mg "BadOrder" = some (.ref (He.ga K "BadOrder")) := He.glo_ok XI G (c.d.fact 11 (f := .glo "BadOrder") rfl)
theorem g_shape : mg "shape" = some (.ref (He.ga K "shape")) := He.glo_ok XI G (c.d.fact 13 (f := .glo "shape") rfl)
theorem g__law_order : mg "_law_order" = some (.ref (He.ga K "_law_order")) := He.glo_ok XI G (c.d.fact 14 (f := .glo "_law_order") rfl)
theorem g__law_program : mg "_law_program" = some (.ref (He.ga K "_law_program")) := He.glo_ok XI G (c.d.fact 15 (f := .glo "_law_program") rfl)
theorem g_BadProgram : mg "BadProgram" = some (.ref (He.ga K "BadProgram")) := He.glo_ok XI G (c.d.fact 16 (f := .glo "BadProgram") rfl)
theorem n_isinstance : mg "isinstance" = none := He.free_ok XI G (c.d.fact 18 (f := .free "isinstance") rfl)
theorem g_NAMES : mg "NAMES" = some (.ref (He.ga K "NAMES")) := He.glo_ok XI G (c.d.fact 19 (f := .glo "NAMES") rfl)
theorem n_zip : mg "zip" = none := He.free_ok XI G (c.d.fact 20 (f := .free "zip") rfl)
theorem n_bool : mg "bool" = none := He.free_ok XI G (c.d.fact 21 (f := .free "bool") rfl)
theorem g_is_order : mg "is_order" = some (.ref (He.ga K "is_order")) := He.glo_ok XI G (c.d.fact 22 (f := .glo "is_order") rfl)
theorem g_check_order : mg "check_order" = some (.ref (He.ga K "check_order")) := He.glo_ok XI G (c.d.fact 23 (f := .glo "check_order") rfl)
theorem i_WORD : ∃ t, mg "WORD" = some (.int 65536 t) := He.int_ok XI G (c.d.fact 24 (f := .int "WORD" 65536) rfl)
theorem g_check_word : mg "check_word" = some (.ref (He.ga K "check_word")) := He.glo_ok XI G (c.d.fact 25 (f := .glo "check_word") rfl)
theorem g_State : mg "State" = some (.ref (He.ga K "State")) := He.glo_ok XI G (c.d.fact 28 (f := .glo "State") rfl)
theorem i_SIZE : ∃ t, mg "SIZE" = some (.int 256 t) := He.int_ok XI G (c.d.fact 31 (f := .int "SIZE" 256) rfl)
theorem n_list : mg "list" = none := He.free_ok XI G (c.d.fact 41 (f := .free "list") rfl)
theorem g__law_fault : mg "_law_fault" = some (.ref (He.ga K "_law_fault")) := He.glo_ok XI G (c.d.fact 42 (f := .glo "_law_fault") rfl)
theorem g__law_memory : mg "_law_memory" = some (.ref (He.ga K "_law_memory")) := He.glo_ok XI G (c.d.fact 43 (f := .glo "_law_memory") rfl)
theorem g__law_number : mg "_law_number" = some (.ref (He.ga K "_law_number")) := He.glo_ok XI G (c.d.fact 44 (f := .glo "_law_number") rfl)
theorem n_max : mg "max" = none := He.free_ok XI G (c.d.fact 45 (f := .free "max") rfl)
theorem g__law_reckon : mg "_law_reckon" = some (.ref (He.ga K "_law_reckon")) := He.glo_ok XI G (c.d.fact 46 (f := .glo "_law_reckon") rfl)
theorem g__law_word : mg "_law_word" = some (.ref (He.ga K "_law_word")) := He.glo_ok XI G (c.d.fact 47 (f := .glo "_law_word") rfl)
theorem g__law_do : mg "_law_do" = some (.ref (He.ga K "_law_do")) := He.glo_ok XI G (c.d.fact 48 (f := .glo "_law_do") rfl)
theorem g_call : mg "call" = some (.ref (He.ga K "call")) := He.glo_ok XI G (c.d.fact 51 (f := .glo "call") rfl)
theorem g_reads : mg "reads" = some (.ref (He.ga K "reads")) := He.glo_ok XI G (c.d.fact 52 (f := .glo "reads") rfl)
theorem g_words_for : mg "words_for" = some (.ref (He.ga K "words_for")) := He.glo_ok XI G (c.d.fact 53 (f := .glo "words_for") rfl)
theorem g_add : mg "add" = some (.ref (He.ga K "add")) := He.glo_ok XI G (c.d.fact 54 (f := .glo "add") rfl)
theorem g_less : mg "less" = some (.ref (He.ga K "less")) := He.glo_ok XI G (c.d.fact 55 (f := .glo "less") rfl)
theorem g_times : mg "times" = some (.ref (He.ga K "times")) := He.glo_ok XI G (c.d.fact 56 (f := .glo "times") rfl)
theorem n_reversed : mg "reversed" = none := He.free_ok XI G (c.d.fact 57 (f := .free "reversed") rfl)
theorem g_of_bits : mg "of_bits" = some (.ref (He.ga K "of_bits")) := He.glo_ok XI G (c.d.fact 58 (f := .glo "of_bits") rfl)
theorem g_bits_of : mg "bits_of" = some (.ref (He.ga K "bits_of")) := He.glo_ok XI G (c.d.fact 59 (f := .glo "bits_of") rfl)
theorem g_shared : mg "shared" = some (.ref (He.ga K "shared")) := He.glo_ok XI G (c.d.fact 60 (f := .glo "shared") rfl)
theorem g_either : mg "either" = some (.ref (He.ga K "either")) := He.glo_ok XI G (c.d.fact 61 (f := .glo "either") rfl)
theorem g_unlike : mg "unlike" = some (.ref (He.ga K "unlike")) := He.glo_ok XI G (c.d.fact 62 (f := .glo "unlike") rfl)
theorem g_up : mg "up" = some (.ref (He.ga K "up")) := He.glo_ok XI G (c.d.fact 63 (f := .glo "up") rfl)
theorem g_down : mg "down" = some (.ref (He.ga K "down")) := He.glo_ok XI G (c.d.fact 64 (f := .glo "down") rfl)
theorem i_HALF : ∃ t, mg "HALF" = some (.int 32768 t) := He.int_ok XI G (c.d.fact 65 (f := .int "HALF" 32768) rfl)
theorem g_signed : mg "signed" = some (.ref (He.ga K "signed")) := He.glo_ok XI G (c.d.fact 66 (f := .glo "signed") rfl)
theorem g_down_signed : mg "down_signed" = some (.ref (He.ga K "down_signed")) := He.glo_ok XI G (c.d.fact 67 (f := .glo "down_signed") rfl)
theorem g_is_less : mg "is_less" = some (.ref (He.ga K "is_less")) := He.glo_ok XI G (c.d.fact 68 (f := .glo "is_less") rfl)
theorem g_is_below : mg "is_below" = some (.ref (He.ga K "is_below")) := He.glo_ok XI G (c.d.fact 69 (f := .glo "is_below") rfl)
theorem g_reckoned : mg "reckoned" = some (.ref (He.ga K "reckoned")) := He.glo_ok XI G (c.d.fact 70 (f := .glo "reckoned") rfl)
theorem g_is_taken : mg "is_taken" = some (.ref (He.ga K "is_taken")) := He.glo_ok XI G (c.d.fact 71 (f := .glo "is_taken") rfl)
theorem g_effect : mg "effect" = some (.ref (He.ga K "effect")) := He.glo_ok XI G (c.d.fact 72 (f := .glo "effect") rfl)
theorem i_IN : ∃ t, mg "IN" = some (.int 254 t) := He.int_ok XI G (c.d.fact 73 (f := .int "IN" 254) rfl)
theorem i_OUT : ∃ t, mg "OUT" = some (.int 255 t) := He.int_ok XI G (c.d.fact 76 (f := .int "OUT" 255) rfl)
theorem g_writes : mg "writes" = some (.ref (He.ga K "writes")) := He.glo_ok XI G (c.d.fact 78 (f := .glo "writes") rfl)
theorem g_step : mg "step" = some (.ref (He.ga K "step")) := He.glo_ok XI G (c.d.fact 79 (f := .glo "step") rfl)
theorem g__law_told : mg "_law_told" = some (.ref (He.ga K "_law_told")) := He.glo_ok XI G (c.d.fact 81 (f := .glo "_law_told") rfl)
theorem g_NoWay : mg "NoWay" = some (.ref (He.ga K "NoWay")) := He.glo_ok XI G (c.d.fact 85 (f := .glo "NoWay") rfl)
theorem g_TooLarge : mg "TooLarge" = some (.ref (He.ga K "TooLarge")) := He.glo_ok XI G (c.d.fact 89 (f := .glo "TooLarge") rfl)
theorem g_run : mg "run" = some (.ref (He.ga K "run")) := He.glo_ok XI G (c.d.fact 95 (f := .glo "run") rfl)
theorem g_trace : mg "trace" = some (.ref (He.ga K "trace")) := He.glo_ok XI G (c.d.fact 96 (f := .glo "trace") rfl)
theorem g_law : mg "law" = some (.ref (He.ga K "law")) := He.glo_ok XI G (c.d.fact 97 (f := .glo "law") rfl)
theorem fo_program : ∀ c ∈ cs_program, ∀ C, mg c = some (.ref C) → Cls K C ∧ NoAttr K C "program" := by
  intro x hx C e
  unfold cs_program at hx
  simp only [List.mem_cons, List.not_mem_nil, or_false] at hx
  rcases hx with rfl
  · rw [g_State XI G c] at e
    cases e
    exact ⟨He.cls_ok (c_State c), He.noat_ok (a_State_program c)⟩
theorem fo_place : ∀ c ∈ cs_place, ∀ C, mg c = some (.ref C) → Cls K C ∧ NoAttr K C "place" := by
  intro x hx C e
  unfold cs_place at hx
  simp only [List.mem_cons, List.not_mem_nil, or_false] at hx
  rcases hx with rfl
  · rw [g_State XI G c] at e
    cases e
    exact ⟨He.cls_ok (c_State c), He.noat_ok (a_State_place c)⟩
theorem fo_registers : ∀ c ∈ cs_registers, ∀ C, mg c = some (.ref C) → Cls K C ∧ NoAttr K C "registers" := by
  intro x hx C e
  unfold cs_registers at hx
  simp only [List.mem_cons, List.not_mem_nil, or_false] at hx
  rcases hx with rfl
  · rw [g_State XI G c] at e
    cases e
    exact ⟨He.cls_ok (c_State c), He.noat_ok (a_State_registers c)⟩
theorem fo_memory : ∀ c ∈ cs_memory, ∀ C, mg c = some (.ref C) → Cls K C ∧ NoAttr K C "memory" := by
  intro x hx C e
  unfold cs_memory at hx
  simp only [List.mem_cons, List.not_mem_nil, or_false] at hx
  rcases hx with rfl
  · rw [g_State XI G c] at e
    cases e
    exact ⟨He.cls_ok (c_State c), He.noat_ok (a_State_memory c)⟩
theorem fo_out : ∀ c ∈ cs_out, ∀ C, mg c = some (.ref C) → Cls K C ∧ NoAttr K C "out" := by
  intro x hx C e
  unfold cs_out at hx
  simp only [List.mem_cons, List.not_mem_nil, or_false] at hx
  rcases hx with rfl
  · rw [g_State XI G c] at e
    cases e
    exact ⟨He.cls_ok (c_State c), He.noat_ok (a_State_out c)⟩
theorem fo_incoming : ∀ c ∈ cs_incoming, ∀ C, mg c = some (.ref C) → Cls K C ∧ NoAttr K C "incoming" := by
  intro x hx C e
  unfold cs_incoming at hx
  simp only [List.mem_cons, List.not_mem_nil, or_false] at hx
  rcases hx with rfl
  · rw [g_State XI G c] at e
    cases e
    exact ⟨He.cls_ok (c_State c), He.noat_ok (a_State_incoming c)⟩
theorem fo_cause : ∀ c ∈ cs_cause, ∀ C, mg c = some (.ref C) → Cls K C ∧ NoAttr K C "cause" := by
  intro x hx C e
  unfold cs_cause at hx
  simp only [List.mem_cons, List.not_mem_nil, or_false] at hx
  rcases hx with rfl
  · rw [g_State XI G c] at e
    cases e
    exact ⟨He.cls_ok (c_State c), He.noat_ok (a_State_cause c)⟩
theorem fo_return_place : ∀ c ∈ cs_return_place, ∀ C, mg c = some (.ref C) → Cls K C ∧ NoAttr K C "return_place" := by
  intro x hx C e
  unfold cs_return_place at hx
  simp only [List.mem_cons, List.not_mem_nil, or_false] at hx
  rcases hx with rfl
  · rw [g_State XI G c] at e
    cases e
    exact ⟨He.cls_ok (c_State c), He.noat_ok (a_State_return_place c)⟩
theorem fo_handler : ∀ c ∈ cs_handler, ∀ C, mg c = some (.ref C) → Cls K C ∧ NoAttr K C "handler" := by
  intro x hx C e
  unfold cs_handler at hx
  simp only [List.mem_cons, List.not_mem_nil, or_false] at hx
  rcases hx with rfl
  · rw [g_State XI G c] at e
    cases e
    exact ⟨He.cls_ok (c_State c), He.noat_ok (a_State_handler c)⟩
theorem fo_ended : ∀ c ∈ cs_ended, ∀ C, mg c = some (.ref C) → Cls K C ∧ NoAttr K C "ended" := by
  intro x hx C e
  unfold cs_ended at hx
  simp only [List.mem_cons, List.not_mem_nil, or_false] at hx
  rcases hx with rfl
  · rw [g_State XI G c] at e
    cases e
    exact ⟨He.cls_ok (c_State c), He.noat_ok (a_State_ended c)⟩
theorem fo_count : ∀ c ∈ cs_count, ∀ C, mg c = some (.ref C) → Cls K C ∧ NoAttr K C "count" := by
  intro x hx C e
  unfold cs_count at hx
  simp only [List.mem_cons, List.not_mem_nil, or_false] at hx
  rcases hx with rfl
  · rw [g_State XI G c] at e
    cases e
    exact ⟨He.cls_ok (c_State c), He.noat_ok (a_State_count c)⟩
theorem kt_THREE : He.tupB K "THREE" [.str "add", .str "sub", .str "mul", .str "and", .str "or", .str "xor", .str "shl", .str "shr", .str "sar", .str "slt", .str "sltu"] = true := (He.ba (He.ba (He.ba (He.ba (He.ba c.e).1).1).1).1).2
theorem dv_THREE : ∀ (π : List Addr) (H : Hp), DV K π H d_THREE (.ref (He.ga K "THREE")) := fun π H => dv_tup (He.tupB_ok (kt_THREE XI G c) fun _ => none) rfl
theorem kt_TWO : He.tupB K "TWO" [.str "addi", .str "andi", .str "ori", .str "xori", .str "shli", .str "slti"] = true := (He.ba (He.ba (He.ba (He.ba c.e).1).1).1).2
theorem dv_TWO : ∀ (π : List Addr) (H : Hp), DV K π H d_TWO (.ref (He.ga K "TWO")) := fun π H => dv_tup (He.tupB_ok (kt_TWO XI G c) fun _ => none) rfl
theorem kt_BRANCH : He.tupB K "BRANCH" [.str "beq", .str "bne", .str "blt", .str "bge"] = true := (He.ba (He.ba (He.ba c.e).1).1).2
theorem dv_BRANCH : ∀ (π : List Addr) (H : Hp), DV K π H d_BRANCH (.ref (He.ga K "BRANCH")) := fun π H => dv_tup (He.tupB_ok (kt_BRANCH XI G c) fun _ => none) rfl
theorem kt_NAMES : He.tupB K "NAMES" [.str "add", .str "sub", .str "mul", .str "and", .str "or", .str "xor", .str "shl", .str "shr", .str "sar", .str "slt", .str "sltu", .str "addi", .str "andi", .str "ori", .str "xori", .str "shli", .str "slti", .str "beq", .str "bne", .str "blt", .str "bge", .str "lui", .str "lw", .str "sw", .str "jal", .str "jalr", .str "call", .str "back", .str "halt"] = true := (He.ba (He.ba c.e).1).2
theorem dv_NAMES : ∀ (π : List Addr) (H : Hp), DV K π H d_NAMES (.ref (He.ga K "NAMES")) := fun π H => dv_tup (He.tupB_ok (kt_NAMES XI G c) fun _ => none) rfl
omit XI G in
theorem exm_ : exM K = true := (He.ba (He.ba (He.ba (He.ba (He.ba c.e).1).1).1).1).1
omit XI G in
theorem neq_State : noEqB K (He.ga K "State") = true := (He.ba (exm_ c)).2
theorem noeq_State : ∀ x ∈ [("State" : Str)], ∀ C, mg x = some (.ref C) → NoEq K C := by
  intro x hx C e
  simp only [List.mem_cons, List.not_mem_nil, or_false] at hx
  rcases hx with rfl
  · rw [g_State XI G c] at e
    cases e
    exact noEq_of (neq_State c)
omit XI G in
theorem tnd : tabNd K tf = true := (He.ba c.e).2
omit XI G c in
theorem sc__law_told : FnScope ["what"] ["what"] (defScope s__law_told) := ⟨rfl, rfl, rfl, by decide +kernel, rfl, by decide +kernel, by decide +kernel⟩
theorem td : ToldOk K mg "_law_told" (He.ga K "_law_told") told_cs := by
  obtain ⟨fd, F⟩ := c.d.def_ 47 (d := df__law_told) rfl
  refine ⟨"what", _, _, _, _, _, _, _, _, ["what"], _, fd, F, F.bindsN (fun _ _ _ _ _ _ us hl => match us, hl with | [_], _ => rfl), sc__law_told, rfl, Or.inl rfl, (Hds.cons rfl (g_BadOrder XI G c) rfl (Hds.cons rfl (g_BadProgram XI G c) rfl (Hds.cons rfl (g_NoWay XI G c) rfl (Hds.cons rfl (g_TooLarge XI G c) rfl .nil)))), fun f => rfl, ?_, rfl, rfl⟩
  intro x t e C eC Q H qq
  unfold told_cs at e
  simp only [tellL] at e
  split at e
  · rename_i hx
    subst hx
    cases e
    rw [g_BadOrder XI G c] at eC
    cases eC
    exact ⟨true, He.exm_ok (e_BadOrder_BadOrder c), fun _ => qq, fun z => by cases z⟩
  split at e
  · rename_i hx
    subst hx
    cases e
    rw [g_BadProgram XI G c] at eC
    cases eC
    exact ⟨false, He.exm_ok (e_BadProgram_BadOrder c), fun z => (by cases z), fun _ => ⟨true, He.exm_ok (e_BadProgram_BadProgram c), fun _ => qq, fun z => by cases z⟩⟩
  split at e
  · rename_i hx
    subst hx
    cases e
    rw [g_NoWay XI G c] at eC
    cases eC
    exact ⟨false, He.exm_ok (e_NoWay_BadOrder c), fun z => (by cases z), fun _ => ⟨false, He.exm_ok (e_NoWay_BadProgram c), fun z => (by cases z), fun _ => ⟨true, He.exm_ok (e_NoWay_NoWay c), fun _ => qq, fun z => by cases z⟩⟩⟩
  split at e
  · rename_i hx
    subst hx
    cases e
    rw [g_TooLarge XI G c] at eC
    cases eC
    exact ⟨false, He.exm_ok (e_TooLarge_BadOrder c), fun z => (by cases z), fun _ => ⟨false, He.exm_ok (e_TooLarge_BadProgram c), fun z => (by cases z), fun _ => ⟨false, He.exm_ok (e_TooLarge_NoWay c), fun z => (by cases z), fun _ => ⟨true, He.exm_ok (e_TooLarge_TooLarge c), fun _ => qq, fun z => by cases z⟩⟩⟩⟩
  cases e
include TB
def N__law_dice : List Str := ["cell"]
omit XI G c TB in
theorem sc__law_dice : FnScope N__law_dice ["cell"] (defScope s__law_dice) := ⟨rfl, rfl, rfl, by decide +kernel, rfl, by decide +kernel, by decide +kernel⟩
theorem w__law_dice : FunM P w K mg base (tabT K tf) 1 (He.ga K "_law_dice") 1 f__law_dice := by
  obtain ⟨fd, F⟩ := c.d.def_ 0 (d := df__law_dice) rfl
  refine def_m (k := 0) (N := N__law_dice) F sc__law_dice (fun _ _ _ _ _ _ us hl => match us, hl with | [_], _ => rfl) fun cdv  A outer s H E hr tk hp => ?_
  have hu1 := hu_of hr
  have hu4 := hr.units
  have hu5 := hu65 hr
  have nd := sc__law_dice.nd
  exact (ssm_cons (sm_if (tm_chain op_lt o2_B0 op_lt o2_B0 (em_sub em_int em_int) (em_var 0) em_int)
  (ssm_one (sm_ret (em_lst (am_cons (em_callB call_abs oc_abs rfl (n_abs XI G c) (am_cons (em_var 0) am_nil) rfl) (am_cons em_int (am_cons em_int am_nil))) (len_cons (len_cons (len_cons len_nil))))))
  ssm_nil)
  (ssm_one (sm_ret (em_lst (am_cons (em_var 0) (am_cons (em_add em_int (em_mod (em_callTy call_int1 oc_int rfl (n_int XI G c) (am_cons (em_var 0) am_nil) rfl) em_int)) (am_cons (em_callTy call_int1 oc_int rfl (n_int XI G c) (am_cons (em_ge (em_var 0) (em_pow em_int em_int)) am_nil) rfl) am_nil))) (len_cons (len_cons (len_cons len_nil)))))))
def N__law_rounds : List Str := ["script", "most", "cells", "cell"]
omit XI G c TB in
theorem sc__law_rounds : FnScope N__law_rounds ["script", "most"] (defScope s__law_rounds) := ⟨rfl, rfl, rfl, by decide +kernel, rfl, by decide +kernel, by decide +kernel⟩
theorem w__law_rounds : FunM P w K mg base (tabT K tf) 2 (He.ga K "_law_rounds") 2 f__law_rounds := by
  obtain ⟨fd, F⟩ := c.d.def_ 1 (d := df__law_rounds) rfl
  refine def_m (k := 1) (N := N__law_rounds) F sc__law_rounds (fun _ _ _ _ _ _ us hl => match us, hl with | [_, _], _ => rfl) fun cdv  A outer s H E hr tk hp => ?_
  have hu1 := hu_of hr
  have hu4 := hr.units
  have hu5 := hu65 hr
  have nd := sc__law_rounds.nd
  exact (ssm_cons (sm_set 2 nd (em_sl (em_var 0) om_none (om_some (em_var 1))))
  (ssm_cons (sm_if (tm_eq hu4 (em_var 2) (em_lst am_nil len_nil))
  (ssm_one (sm_set 2 nd (em_lst (am_cons em_int am_nil) (len_cons len_nil))))
  ssm_nil)
  (ssm_one (sm_ret (em_lc [("cell", 3)] rfl nd (im_any (em_var 2)) (blkOk_by rfl) (fun _ _ _ _ _ => (gw_name 3 nd)) (fun _ _ _ _ _ => tsm_nil) (fun _ _ _ _ _ => (em_call (w__law_dice XI G c TB) hr (by decide) rfl (g__law_dice XI G c) takesF (am_cons (em_var 3) am_nil))))))))
def N__law_roll : List Str := ["dice", "many", "found"]
omit XI G c TB in
theorem sc__law_roll : FnScope N__law_roll ["dice", "many"] (defScope s__law_roll) := ⟨rfl, rfl, rfl, by decide +kernel, rfl, by decide +kernel, by decide +kernel⟩
theorem w__law_roll : FunM P w K mg base (tabT K tf) 1 (He.ga K "_law_roll") 2 f__law_roll := by
  obtain ⟨fd, F⟩ := c.d.def_ 2 (d := df__law_roll) rfl
  refine def_m (k := 0) (N := N__law_roll) F sc__law_roll (fun _ _ _ _ _ _ us hl => match us, hl with | [_, _], _ => rfl) fun cdv  A outer s H E hr tk hp => ?_
  have hu1 := hu_of hr
  have hu4 := hr.units
  have hu5 := hu65 hr
  have nd := sc__law_roll.nd
  exact (ssm_cons (sm_if (tm_wm (wm_or (tm_eq hu4 (em_ix hu1 (em_var 0) em_int) em_int) (wm_or1 (tm_wm (wm_and (tm_eq hu4 (em_ix hu1 (em_var 0) em_int) em_int) (wm_and1 (tm_gt (em_ix hu1 (em_var 0) em_int) em_int)))))))
  (ssm_cons (sm_set 2 nd (em_mod (em_callTy call_int1 oc_int rfl (n_int XI G c) (am_cons (em_ix hu1 (em_var 0) em_int) am_nil) rfl) (em_var 1)))
  (ssm_cons (sm_asg (gm_sub hu1 (em_var 0) em_int) (em_div (em_ix hu1 (em_var 0) em_int) (em_var 1)))
  (ssm_one (sm_ret (em_var 2)))))
  ssm_nil)
  (ssm_cons (sm_asg (gm_sub hu1 (em_var 0) em_int) em_int)
  (ssm_cons (sm_asg (gm_sub hu1 (em_var 0) em_int) (em_mod (em_callTy call_int1 oc_int rfl (n_int XI G c) (am_cons (em_add (em_add (em_mul (em_ix hu1 (em_var 0) em_int) em_int) (em_mul (em_ix hu1 (em_var 0) em_int) em_int)) em_int) am_nil) rfl) em_int))
  (ssm_cons (sm_asg (gm_sub hu1 (em_var 0) em_int) (em_add (em_ix hu1 (em_var 0) em_int) em_int))
  (ssm_one (sm_ret (em_mod (em_callTy call_int1 oc_int rfl (n_int XI G c) (am_cons (em_add (em_div (em_ix hu1 (em_var 0) em_int) em_int) (em_ix hu1 (em_var 0) em_int)) am_nil) rfl) (em_var 1))))))))
def N_shape : List Str := ["name"]
omit XI G c TB in
theorem sc_shape : FnScope N_shape ["name"] (defScope s_shape) := ⟨rfl, rfl, rfl, by decide +kernel, rfl, by decide +kernel, by decide +kernel⟩
theorem w_shape : FunM P w K mg base (tabT K tf) 1 (He.ga K "shape") 1 f_shape := by
  obtain ⟨fd, F⟩ := c.d.def_ 3 (d := df_shape) rfl
  rw [f_shape_eq]
  refine def_m (k := 0) (N := N_shape) F sc_shape (fun _ _ _ _ _ _ us hl => match us, hl with | [_], _ => rfl) fun cdv  A outer s H E hr tk hp => ?_
  have hu1 := hu_of hr
  have hu4 := hr.units
  have hu5 := hu65 hr
  have nd := sc_shape.nd
  exact (ssm_cons (sm_if (tm_in hu5 (em_var 0) (em_glob (d := d_THREE) (v := .ref (He.ga K "THREE")) rfl (g_THREE XI G c) rfl (dv_THREE XI G c)))
  (ssm_one (sm_ret em_str))
  ssm_nil)
  (ssm_cons (sm_if (tm_wm (wm_or (tm_in hu5 (em_var 0) (em_glob (d := d_TWO) (v := .ref (He.ga K "TWO")) rfl (g_TWO XI G c) rfl (dv_TWO XI G c))) (wm_or1 (tm_in hu5 (em_var 0) (em_tup (am_cons em_str (am_cons em_str (am_cons em_str am_nil))) (len_cons (len_cons (len_cons len_nil))))))))
  (ssm_one (sm_ret em_str))
  ssm_nil)
  (ssm_cons (sm_if (tm_in hu5 (em_var 0) (em_glob (d := d_BRANCH) (v := .ref (He.ga K "BRANCH")) rfl (g_BRANCH XI G c) rfl (dv_BRANCH XI G c)))
  (ssm_one (sm_ret em_str))
  ssm_nil)
  (ssm_cons (sm_if (tm_in hu5 (em_var 0) (em_tup (am_cons em_str (am_cons em_str am_nil)) (len_cons (len_cons len_nil))))
  (ssm_one (sm_ret em_str))
  ssm_nil)
  (ssm_cons (sm_if (tm_eq hu4 (em_var 0) em_str)
  (ssm_one (sm_ret em_str))
  ssm_nil)
  (ssm_cons (sm_if (tm_in hu5 (em_var 0) (em_tup (am_cons em_str (am_cons em_str am_nil)) (len_cons (len_cons len_nil))))
  (ssm_one (sm_ret em_str))
  ssm_nil)
  (ssm_one (sm_raise rfl tk PySem.F.excBase_ValueError (He.exc_ok (x_BadOrder c)).1 (g_BadOrder XI G c) (He.exc_ok (x_BadOrder c)).2.1 (raises_own (He.exc_ok (x_BadOrder c)).2.2.1 (He.exc_ok (x_BadOrder c)).2.2.2) rfl))))))))
def N__law_order : List Str := ["dice", "wild", "names", "name", "row", "kind"]
omit XI G c TB in
theorem sc__law_order : FnScope N__law_order ["dice", "wild"] (defScope s__law_order) := ⟨rfl, rfl, rfl, by decide +kernel, rfl, by decide +kernel, by decide +kernel⟩
theorem w__law_order : FunM P w K mg base (tabT K tf) 2 (He.ga K "_law_order") 2 f__law_order := by
  obtain ⟨fd, F⟩ := c.d.def_ 4 (d := df__law_order) rfl
  rw [f__law_order_eq]
  refine def_m (k := 1) (N := N__law_order) F sc__law_order (fun _ _ _ _ _ _ us hl => match us, hl with | [_, _], _ => rfl) fun cdv  A outer s H E hr tk hp => ?_
  have hu1 := hu_of hr
  have hu4 := hr.units
  have hu5 := hu65 hr
  have nd := sc__law_order.nd
  exact (ssm_cons (sm_set 2 nd (em_lst (am_cons em_str (am_cons em_str (am_cons em_str (am_cons em_str (am_cons em_str (am_cons em_str (am_cons em_str (am_cons em_str (am_cons em_str (am_cons em_str (am_cons em_str (am_cons em_str (am_cons em_str (am_cons em_str (am_cons em_str (am_cons em_str (am_cons em_str am_nil))))))))))))))))) (len_cons (len_cons (len_cons (len_cons (len_cons (len_cons (len_cons (len_cons (len_cons (len_cons (len_cons (len_cons (len_cons (len_cons (len_cons (len_cons (len_cons len_nil)))))))))))))))))))
  (ssm_cons (sm_set 2 nd (em_add (em_add (em_var 2) (em_lst (am_cons em_str (am_cons em_str (am_cons em_str (am_cons em_str (am_cons em_str (am_cons em_str (am_cons em_str (am_cons em_str (am_cons em_str (am_cons em_str am_nil)))))))))) (len_cons (len_cons (len_cons (len_cons (len_cons (len_cons (len_cons (len_cons (len_cons (len_cons len_nil)))))))))))) (em_mul (em_lst (am_cons em_str (am_cons em_str (am_cons em_str am_nil))) (len_cons (len_cons (len_cons len_nil)))) (em_var 1))))
  (ssm_cons (sm_par 3 4 rfl nd (am_cons (em_ix hu1 (em_var 2) (em_call (w__law_roll XI G c TB) hr (by decide) rfl (g__law_roll XI G c) tk (am_cons (em_var 0) (am_cons (em_callB cr_len oc_len rfl (n_len XI G c) (am_cons (em_var 2) am_nil) rfl) am_nil)))) (am_cons (em_lst am_nil len_nil) am_nil)))
  (ssm_cons (sm_for hp rfl (im_signs (em_call (w_shape XI G c TB) hr (by decide) rfl (g_shape XI G c) tk (am_cons (em_var 3) am_nil))) (gm_name 5 nd)
  (ssm_one (sm_if (tm_eq hu4 (em_var 5) em_str)
  (ssm_one (sm_expr (em_bm PySem.F.plainAttrs_list PySem.F.slot_list_append PySem.F.type_list_append mt_append tyL om_append (em_var 4) (am_cons (em_call (w__law_roll XI G c TB) hr (by decide) rfl (g__law_roll XI G c) tk (am_cons (em_var 0) (am_cons em_int am_nil))) am_nil))))
  (ssm_one (sm_if (tm_in hu5 (em_var 3) (em_lst (am_cons em_str (am_cons em_str (am_cons em_str (am_cons em_str (am_cons em_str am_nil))))) (len_cons (len_cons (len_cons (len_cons (len_cons len_nil)))))))
  (ssm_one (sm_expr (em_bm PySem.F.plainAttrs_list PySem.F.slot_list_append PySem.F.type_list_append mt_append tyL om_append (em_var 4) (am_cons (em_sub (em_call (w__law_roll XI G c TB) hr (by decide) rfl (g__law_roll XI G c) tk (am_cons (em_var 0) (am_cons em_int am_nil))) em_int) am_nil))))
  (ssm_one (sm_if (tm_in hu5 (em_var 3) (em_lst (am_cons em_str (am_cons em_str am_nil)) (len_cons (len_cons len_nil))))
  (ssm_one (sm_expr (em_bm PySem.F.plainAttrs_list PySem.F.slot_list_append PySem.F.type_list_append mt_append tyL om_append (em_var 4) (am_cons (em_ix hu1 (em_lst (am_cons em_int (am_cons em_int (am_cons em_int (am_cons em_int (am_cons em_int (am_cons em_int (am_cons em_int (am_cons (em_sub em_int em_int) am_nil)))))))) (len_cons (len_cons (len_cons (len_cons (len_cons (len_cons (len_cons (len_cons len_nil))))))))) (em_call (w__law_roll XI G c TB) hr (by decide) rfl (g__law_roll XI G c) tk (am_cons (em_var 0) (am_cons em_int am_nil)))) am_nil))))
  (ssm_one (sm_expr (em_bm PySem.F.plainAttrs_list PySem.F.slot_list_append PySem.F.type_list_append mt_append tyL om_append (em_var 4) (am_cons (em_if (tm_eq hu4 (em_var 3) em_str) (em_call (w__law_roll XI G c TB) hr (by decide) rfl (g__law_roll XI G c) tk (am_cons (em_var 0) (am_cons em_int am_nil))) (em_sub (em_call (w__law_roll XI G c TB) hr (by decide) rfl (g__law_roll XI G c) tk (am_cons (em_var 0) (am_cons em_int am_nil))) em_int)) am_nil)))))))))))
  (ssm_one (sm_ret (em_add (em_tup (am_cons (em_var 3) am_nil) (len_cons len_nil)) (em_callTy call_tuple_of oc_tuple rfl (n_tuple XI G c) (am_cons (em_var 4) am_nil) rfl))))))))
def N__law_program : List Str := ["dice", "most", "wild", "k"]
omit XI G c TB in
theorem sc__law_program : FnScope N__law_program ["dice", "most", "wild"] (defScope s__law_program) := ⟨rfl, rfl, rfl, by decide +kernel, rfl, by decide +kernel, by decide +kernel⟩
theorem w__law_program : FunM P w K mg base (tabT K tf) 3 (He.ga K "_law_program") 3 f__law_program := by
  obtain ⟨fd, F⟩ := c.d.def_ 5 (d := df__law_program) rfl
  rw [f__law_program_eq]
  refine def_m (k := 2) (N := N__law_program) F sc__law_program (fun _ _ _ _ _ _ us hl => match us, hl with | [_, _, _], _ => rfl) fun cdv  A outer s H E hr tk hp => ?_
  have hu1 := hu_of hr
  have hu4 := hr.units
  have hu5 := hu65 hr
  have nd := sc__law_program.nd
  exact (ssm_one (sm_ret (em_callTy call_tuple_of oc_tuple rfl (n_tuple XI G c) (am_cons (em_lc [("k", 3)] rfl nd (im_range1 rfl (n_range XI G c) (am_cons (em_add em_int (em_call (w__law_roll XI G c TB) hr (by decide) rfl (g__law_roll XI G c) tk (am_cons (em_var 0) (am_cons (em_var 1) am_nil)))) am_nil)) (blkOk_by rfl) (fun _ _ _ _ _ => (gw_name 3 nd)) (fun _ _ _ _ _ => tsm_nil) (fun _ _ _ _ _ => (em_call (w__law_order XI G c TB) hr (by decide) rfl (g__law_order XI G c) takesF (am_cons (em_var 0) (am_cons (em_var 2) am_nil))))) am_nil) rfl)))
def N_is_order : List Str := ["thing", "kinds", "kind", "part"]
omit XI G c TB in
theorem sc_is_order : FnScope N_is_order ["thing"] (defScope s_is_order) := ⟨rfl, rfl, rfl, by decide +kernel, rfl, by decide +kernel, by decide +kernel⟩
theorem w_is_order : FunM P w K mg base (tabT K tf) 2 (He.ga K "is_order") 1 f_is_order := by
  obtain ⟨fd, F⟩ := c.d.def_ 6 (d := df_is_order) rfl
  rw [f_is_order_eq]
  refine def_m (k := 1) (N := N_is_order) F sc_is_order (fun _ _ _ _ _ _ us hl => match us, hl with | [_], _ => rfl) fun cdv  A outer s H E hr tk hp => ?_
  have hu1 := hu_of hr
  have hu4 := hr.units
  have hu5 := hu65 hr
  have nd := sc_is_order.nd
  exact (ssm_cons (sm_if (tm_wm (wm_or (tm_not (tm_tru (em_isi "tuple" (by decide +kernel) rfl (n_isinstance XI G c) rfl (n_tuple XI G c) rfl (em_var 0)))) (wm_or (tm_eq hu4 (em_var 0) (em_tup am_nil len_nil)) (wm_or1 (tm_nin hu5 (em_ix hu1 (em_var 0) em_int) (em_glob (d := d_NAMES) (v := .ref (He.ga K "NAMES")) rfl (g_NAMES XI G c) rfl (dv_NAMES XI G c)))))))
  (ssm_one (sm_ret em_bl))
  ssm_nil)
  (ssm_cons (sm_set 1 nd (em_call (w_shape XI G c TB) hr (by decide) rfl (g_shape XI G c) tk (am_cons (em_ix hu1 (em_var 0) em_int) am_nil)))
  (ssm_cons (sm_if (tm_ne hu4 (em_callB cr_len oc_len rfl (n_len XI G c) (am_cons (em_var 0) am_nil) rfl) (em_add em_int (em_callB cr_len oc_len rfl (n_len XI G c) (am_cons (em_var 1) am_nil) rfl)))
  (ssm_one (sm_ret em_bl))
  ssm_nil)
  (ssm_cons (sm_for hp rfl (im_zipS rfl (n_zip XI G c) (am_cons (em_var 1) (am_cons (em_sl (em_var 0) (om_some em_int) om_none) am_nil))) (gm_unp rfl (gsm_cons (gm_name 2 nd) (gsm_cons (gm_name 3 nd) gsm_nil)))
  (ssm_cons (sm_if (tm_wm (wm_or (tm_not (tm_tru (em_isi "int" (by decide +kernel) rfl (n_isinstance XI G c) rfl (n_int XI G c) rfl (em_var 3)))) (wm_or1 (tm_tru (em_isi "bool" (by decide +kernel) rfl (n_isinstance XI G c) rfl (n_bool XI G c) rfl (em_var 3))))))
  (ssm_one (sm_ret em_bl))
  ssm_nil)
  (ssm_one (sm_if (tm_wm (wm_or (tm_wm (wm_and (tm_eq hu4 (em_var 2) em_str) (wm_and1 (tm_not (tm_chain op_le o2_B0 op_lt o2_B0 em_int (em_var 3) em_int))))) (wm_or1 (tm_wm (wm_and (tm_eq hu4 (em_var 2) em_str) (wm_and1 (tm_not (tm_chain op_le o2_B0 op_lt o2_B0 (em_neg em_int) (em_var 3) em_int))))))))
  (ssm_one (sm_ret em_bl))
  ssm_nil))))
  (ssm_one (sm_ret em_bl))))))
def N_check_order : List Str := ["thing"]
omit XI G c TB in
theorem sc_check_order : FnScope N_check_order ["thing"] (defScope s_check_order) := ⟨rfl, rfl, rfl, by decide +kernel, rfl, by decide +kernel, by decide +kernel⟩
theorem w_check_order : FunM P w K mg base (tabT K tf) 3 (He.ga K "check_order") 1 f_check_order := by
  obtain ⟨fd, F⟩ := c.d.def_ 7 (d := df_check_order) rfl
  rw [f_check_order_eq]
  refine def_m (k := 2) (N := N_check_order) F sc_check_order (fun _ _ _ _ _ _ us hl => match us, hl with | [_], _ => rfl) fun cdv  A outer s H E hr tk hp => ?_
  have hu1 := hu_of hr
  have hu4 := hr.units
  have hu5 := hu65 hr
  have nd := sc_check_order.nd
  exact (ssm_one (sm_if (tm_not (tm_tru (em_call (w_is_order XI G c TB) hr (by decide) rfl (g_is_order XI G c) tk (am_cons (em_var 0) am_nil))))
  (ssm_one (sm_raise rfl tk PySem.F.excBase_ValueError (He.exc_ok (x_BadOrder c)).1 (g_BadOrder XI G c) (He.exc_ok (x_BadOrder c)).2.1 (raises_own (He.exc_ok (x_BadOrder c)).2.2.1 (He.exc_ok (x_BadOrder c)).2.2.2) rfl))
  ssm_nil))
def N_check_word : List Str := ["word"]
omit XI G c TB in
theorem sc_check_word : FnScope N_check_word ["word"] (defScope s_check_word) := ⟨rfl, rfl, rfl, by decide +kernel, rfl, by decide +kernel, by decide +kernel⟩
theorem w_check_word : FunM P w K mg base (tabT K tf) 1 (He.ga K "check_word") 1 f_check_word := by
  obtain ⟨fd, F⟩ := c.d.def_ 8 (d := df_check_word) rfl
  rw [f_check_word_eq]
  refine def_m (k := 0) (N := N_check_word) F sc_check_word (fun _ _ _ _ _ _ us hl => match us, hl with | [_], _ => rfl) fun cdv  A outer s H E hr tk hp => ?_
  have hu1 := hu_of hr
  have hu4 := hr.units
  have hu5 := hu65 hr
  have nd := sc_check_word.nd
  exact (ssm_one (sm_if (tm_wm (wm_or (tm_not (tm_tru (em_isi "int" (by decide +kernel) rfl (n_isinstance XI G c) rfl (n_int XI G c) rfl (em_var 0)))) (wm_or (tm_tru (em_isi "bool" (by decide +kernel) rfl (n_isinstance XI G c) rfl (n_bool XI G c) rfl (em_var 0))) (wm_or1 (tm_not (tm_chain op_le o2_B0 op_lt o2_B0 em_int (em_var 0) (em_globI rfl (i_WORD XI G c))))))))
  (ssm_one (sm_raise rfl tk PySem.F.excBase_ValueError (He.exc_ok (x_BadOrder c)).1 (g_BadOrder XI G c) (He.exc_ok (x_BadOrder c)).2.1 (raises_own (He.exc_ok (x_BadOrder c)).2.2.1 (He.exc_ok (x_BadOrder c)).2.2.2) rfl))
  ssm_nil))
def N_State___init__ : List Str := ["self", "program", "incoming", "order", "word"]
omit XI G c TB in
theorem sc_State___init__ : FnScope N_State___init__ ["self", "program", "incoming"] (defScope s_State___init__) := ⟨rfl, rfl, rfl, by decide +kernel, rfl, by decide +kernel, by decide +kernel⟩
theorem w_State___init__ : FunM P w K mg base (tabT K tf) 4 (He.ma K (He.ga K "State") "__init__") 3 f_State___init__ := by
  obtain ⟨fd, F⟩ := c.d.def_ 9 (d := df_State___init__) rfl
  rw [f_State___init___eq]
  refine def_m (k := 3) (N := N_State___init__) F sc_State___init__ (fun _ _ _ _ _ _ us hl => match us, hl with | [_, _, _], _ => rfl) fun cdv  A outer s H E hr tk hp => ?_
  have hu1 := hu_of hr
  have hu4 := hr.units
  have hu5 := hu65 hr
  have nd := sc_State___init__.nd
  exact (ssm_cons (sm_if (tm_not (tm_chain op_lt o2_B0 op_le o2_B0 em_int (em_callB cr_len oc_len rfl (n_len XI G c) (am_cons (em_var 1) am_nil) rfl) em_int))
  (ssm_one (sm_raise rfl tk PySem.F.excBase_ValueError (He.exc_ok (x_BadProgram c)).1 (g_BadProgram XI G c) (He.exc_ok (x_BadProgram c)).2.1 (raises_own (He.exc_ok (x_BadProgram c)).2.2.1 (He.exc_ok (x_BadProgram c)).2.2.2) rfl))
  ssm_nil)
  (ssm_cons (sm_for hp rfl (im_any (em_var 1)) (gm_name 3 nd)
  (ssm_one (sm_expr (em_call (w_check_order XI G c TB) hr (by decide) rfl (g_check_order XI G c) tk (am_cons (em_var 3) am_nil)))))
  (ssm_cons (sm_for hp rfl (im_any (em_var 2)) (gm_name 4 nd)
  (ssm_one (sm_expr (em_call (w_check_word XI G c TB) hr (by decide) rfl (g_check_word XI G c) tk (am_cons (em_var 4) am_nil)))))
  (ssm_cons (sm_fld (fo_program XI G c) (em_var 0) (em_callTy call_tuple_of oc_tuple rfl (n_tuple XI G c) (am_cons (em_var 1) am_nil) rfl))
  (ssm_cons (sm_fld (fo_place XI G c) (em_var 0) em_int)
  (ssm_cons (sm_fld (fo_registers XI G c) (em_var 0) (em_mul (em_lst (am_cons em_int am_nil) (len_cons len_nil)) em_int))
  (ssm_cons (sm_fld (fo_memory XI G c) (em_var 0) (em_mul (em_lst (am_cons em_int am_nil) (len_cons len_nil)) (em_globI rfl (i_SIZE XI G c))))
  (ssm_cons (sm_fld (fo_out XI G c) (em_var 0) (em_tup am_nil len_nil))
  (ssm_cons (sm_fld (fo_incoming XI G c) (em_var 0) (em_callTy call_tuple_of oc_tuple rfl (n_tuple XI G c) (am_cons (em_var 2) am_nil) rfl))
  (ssm_cons (sm_fld (fo_cause XI G c) (em_var 0) em_int)
  (ssm_cons (sm_fld (fo_return_place XI G c) (em_var 0) em_int)
  (ssm_cons (sm_fld (fo_handler XI G c) (em_var 0) em_non)
  (ssm_cons (sm_fld (fo_ended XI G c) (em_var 0) em_non)
  (ssm_one (sm_fld (fo_count XI G c) (em_var 0) em_int)))))))))))))))
def N__law_fault : List Str := ["state", "cause"]
omit XI G c TB in
theorem sc__law_fault : FnScope N__law_fault ["state", "cause"] (defScope s__law_fault) := ⟨rfl, rfl, rfl, by decide +kernel, rfl, by decide +kernel, by decide +kernel⟩
theorem w__law_fault : FunM P w K mg base (tabT K tf) 1 (He.ga K "_law_fault") 2 f__law_fault := by
  obtain ⟨fd, F⟩ := c.d.def_ 10 (d := df__law_fault) rfl
  rw [f__law_fault_eq]
  refine def_m (k := 0) (N := N__law_fault) F sc__law_fault (fun _ _ _ _ _ _ us hl => match us, hl with | [_, _], _ => rfl) fun cdv  A outer s H E hr tk hp => ?_
  have hu1 := hu_of hr
  have hu4 := hr.units
  have hu5 := hu65 hr
  have nd := sc__law_fault.nd
  exact (ssm_cons (sm_asg (gm_unp rfl (gsm_cons (gm_sub hu1 (em_var 0) em_int) (gsm_cons (gm_sub hu1 (em_var 0) em_int) gsm_nil))) (em_tup (am_cons (em_var 1) (am_cons (em_ix hu1 (em_var 0) em_int) am_nil)) (len_cons (len_cons len_nil))))
  (ssm_one (sm_if (tm_is (em_ix hu1 (em_var 0) em_int) em_non)
  (ssm_one (sm_asg (gm_sub hu1 (em_var 0) em_int) (em_tup (am_cons em_str (am_cons (em_var 1) (am_cons (em_ix hu1 (em_var 0) em_int) am_nil))) (len_cons (len_cons (len_cons len_nil))))))
  (ssm_one (sm_asg (gm_sub hu1 (em_var 0) em_int) (em_ix hu1 (em_var 0) em_int))))))
def N__law_memory : List Str := ["state", "order", "address", "word"]
omit XI G c TB in
theorem sc__law_memory : FnScope N__law_memory ["state", "order", "address"] (defScope s__law_memory) := ⟨rfl, rfl, rfl, by decide +kernel, rfl, by decide +kernel, by decide +kernel⟩
theorem w__law_memory : FunM P w K mg base (tabT K tf) 2 (He.ga K "_law_memory") 3 f__law_memory := by
  obtain ⟨fd, F⟩ := c.d.def_ 11 (d := df__law_memory) rfl
  rw [f__law_memory_eq]
  refine def_m (k := 1) (N := N__law_memory) F sc__law_memory (fun _ _ _ _ _ _ us hl => match us, hl with | [_, _, _], _ => rfl) fun cdv  A outer s H E hr tk hp => ?_
  have hu1 := hu_of hr
  have hu4 := hr.units
  have hu5 := hu65 hr
  have nd := sc__law_memory.nd
  exact (ssm_one (sm_if (tm_gt (em_var 2) em_int)
  (ssm_one (sm_expr (em_call (w__law_fault XI G c TB) hr (by decide) rfl (g__law_fault XI G c) tk (am_cons (em_var 0) (am_cons em_int am_nil)))))
  (ssm_one (sm_if (tm_eq hu4 (em_ix hu1 (em_var 1) em_int) em_str)
  (ssm_cons (sm_set 3 nd (em_ix hu1 (em_ix hu1 (em_var 0) em_int) (em_var 2)))
  (ssm_cons (sm_if (tm_eq hu4 (em_var 2) em_int)
  (ssm_one (sm_asg (gm_unp rfl (gsm_cons (gm_name 3 nd) (gsm_cons (gm_sub hu1 (em_var 0) em_int) gsm_nil))) (em_tup (am_cons (em_ix hu1 (em_add (em_ix hu1 (em_var 0) em_int) (em_lst (am_cons em_int am_nil) (len_cons len_nil))) em_int) (am_cons (em_sl (em_ix hu1 (em_var 0) em_int) (om_some em_int) om_none) am_nil)) (len_cons (len_cons len_nil)))))
  ssm_nil)
  (ssm_cons (sm_if (tm_ne hu4 (em_ix hu1 (em_var 1) em_int) em_int)
  (ssm_one (sm_asg (gm_sub hu1 (em_ix hu1 (em_var 0) em_int) (em_ix hu1 (em_var 1) em_int)) (em_var 3)))
  ssm_nil)
  (ssm_one (sm_asg (gm_sub hu1 (em_var 0) em_int) (em_add (em_ix hu1 (em_var 0) em_int) em_int))))))
  (ssm_cons (sm_if (tm_eq hu4 (em_var 2) em_int)
  (ssm_one (sm_asg (gm_sub hu1 (em_var 0) em_int) (em_add (em_ix hu1 (em_var 0) em_int) (em_lst (am_cons (em_ix hu1 (em_ix hu1 (em_var 0) em_int) (em_ix hu1 (em_var 1) em_int)) am_nil) (len_cons len_nil)))))
  (ssm_one (sm_if (tm_ne hu4 (em_var 2) em_int)
  (ssm_one (sm_asg (gm_sub hu1 (em_ix hu1 (em_var 0) em_int) (em_var 2)) (em_ix hu1 (em_ix hu1 (em_var 0) em_int) (em_ix hu1 (em_var 1) em_int))))
  ssm_nil)))
  (ssm_one (sm_asg (gm_sub hu1 (em_var 0) em_int) (em_add (em_ix hu1 (em_var 0) em_int) em_int))))))))
def N__law_number : List Str := ["word"]
omit XI G c TB in
theorem sc__law_number : FnScope N__law_number ["word"] (defScope s__law_number) := ⟨rfl, rfl, rfl, by decide +kernel, rfl, by decide +kernel, by decide +kernel⟩
theorem w__law_number : FunM P w K mg base (tabT K tf) 1 (He.ga K "_law_number") 1 f__law_number := by
  obtain ⟨fd, F⟩ := c.d.def_ 12 (d := df__law_number) rfl
  rw [f__law_number_eq]
  refine def_m (k := 0) (N := N__law_number) F sc__law_number (fun _ _ _ _ _ _ us hl => match us, hl with | [_], _ => rfl) fun cdv  A outer s H E hr tk hp => ?_
  have hu1 := hu_of hr
  have hu4 := hr.units
  have hu5 := hu65 hr
  have nd := sc__law_number.nd
  exact (ssm_one (sm_ret (em_if (tm_lt (em_var 0) em_int) (em_var 0) (em_sub (em_var 0) em_int))))
def N__law_reckon : List Str := ["name", "a", "b", "found", "weight", "x", "y", "k", "bit"]
omit XI G c TB in
theorem sc__law_reckon : FnScope N__law_reckon ["name", "a", "b"] (defScope s__law_reckon) := ⟨rfl, rfl, rfl, by decide +kernel, rfl, by decide +kernel, by decide +kernel⟩
theorem w__law_reckon : FunM P w K mg base (tabT K tf) 2 (He.ga K "_law_reckon") 3 f__law_reckon := by
  obtain ⟨fd, F⟩ := c.d.def_ 13 (d := df__law_reckon) rfl
  rw [f__law_reckon_eq]
  refine def_m (k := 1) (N := N__law_reckon) F sc__law_reckon (fun _ _ _ _ _ _ us hl => match us, hl with | [_, _, _], _ => rfl) fun cdv  A outer s H E hr tk hp => ?_
  have hu1 := hu_of hr
  have hu4 := hr.units
  have hu5 := hu65 hr
  have nd := sc__law_reckon.nd
  exact (ssm_cons (sm_if (tm_in hu5 (em_var 0) (em_lst (am_cons em_str (am_cons em_str (am_cons em_str (am_cons em_str am_nil)))) (len_cons (len_cons (len_cons (len_cons len_nil))))))
  (ssm_one (sm_ret (em_mod (em_if (tm_eq hu4 (em_sl (em_var 0) om_none (om_some em_int)) em_str) (em_add (em_var 1) (em_var 2)) (em_if (tm_eq hu4 (em_var 0) em_str) (em_sub (em_var 1) (em_var 2)) (em_mul (em_var 1) (em_var 2)))) em_int)))
  ssm_nil)
  (ssm_cons (sm_if (tm_in hu5 (em_var 0) (em_lst (am_cons em_str (am_cons em_str (am_cons em_str am_nil))) (len_cons (len_cons (len_cons len_nil)))))
  (ssm_one (sm_ret (em_if (tm_ne hu4 (em_var 0) em_str) (em_callTy call_int1 oc_int rfl (n_int XI G c) (am_cons (em_lt (em_call (w__law_number XI G c TB) hr (by decide) rfl (g__law_number XI G c) tk (am_cons (em_var 1) am_nil)) (em_call (w__law_number XI G c TB) hr (by decide) rfl (g__law_number XI G c) tk (am_cons (em_var 2) am_nil))) am_nil) rfl) (em_callTy call_int1 oc_int rfl (n_int XI G c) (am_cons (em_lt (em_var 1) (em_var 2)) am_nil) rfl))))
  ssm_nil)
  (ssm_cons (sm_asg (gm_unp rfl (gsm_cons (gm_name 3 nd) (gsm_cons (gm_name 4 nd) (gsm_cons (gm_name 5 nd) (gsm_cons (gm_name 6 nd) gsm_nil))))) (em_tup (am_cons em_int (am_cons em_int (am_cons (em_var 1) (am_cons (em_var 2) am_nil)))) (len_cons (len_cons (len_cons (len_cons len_nil))))))
  (ssm_cons (sm_if (tm_in hu5 (em_sl (em_var 0) om_none (om_some em_int)) (em_lst (am_cons em_str (am_cons em_str am_nil)) (len_cons (len_cons len_nil))))
  (ssm_cons (sm_for hp rfl (im_range1 rfl (n_range XI G c) (am_cons (em_mod (em_var 2) em_int) am_nil)) (gm_name 7 nd)
  (ssm_one (sm_set 5 nd (em_if (tm_eq hu4 (em_sl (em_var 0) om_none (om_some em_int)) em_str) (em_mod (em_mul (em_var 5) em_int) em_int) (em_if (tm_eq hu4 (em_var 0) em_str) (em_div (em_var 5) em_int) (em_mod (em_div (em_call (w__law_number XI G c TB) hr (by decide) rfl (g__law_number XI G c) tk (am_cons (em_var 5) am_nil)) em_int) em_int))))))
  (ssm_one (sm_ret (em_var 5))))
  ssm_nil)
  (ssm_cons (sm_for hp rfl (im_range1 rfl (n_range XI G c) (am_cons em_int am_nil)) (gm_name 7 nd)
  (ssm_cons (sm_set 8 nd (em_ix hu1 (em_disp (pm_cons em_str (em_mul (em_mod (em_var 5) em_int) (em_mod (em_var 6) em_int)) (pm_cons em_str (em_callB (call_max2 rfl) oc_max2 rfl (n_max XI G c) (am_cons (em_mod (em_var 5) em_int) (am_cons (em_mod (em_var 6) em_int) am_nil)) rfl) (pm_cons em_str (em_mod (em_add (em_var 5) (em_var 6)) em_int) pm_nil)))) (em_if (tm_in hu5 (em_var 0) (em_lst (am_cons em_str (am_cons em_str (am_cons em_str am_nil))) (len_cons (len_cons (len_cons len_nil))))) (em_var 0) (em_sl (em_var 0) om_none (om_some (em_sub (em_callB cr_len oc_len rfl (n_len XI G c) (am_cons (em_var 0) am_nil) rfl) em_int))))))
  (ssm_one (sm_asg (gm_unp rfl (gsm_cons (gm_name 3 nd) (gsm_cons (gm_name 4 nd) (gsm_cons (gm_name 5 nd) (gsm_cons (gm_name 6 nd) gsm_nil))))) (em_tup (am_cons (em_add (em_var 3) (em_mul (em_var 8) (em_var 4))) (am_cons (em_mul (em_var 4) em_int) (am_cons (em_div (em_var 5) em_int) (am_cons (em_div (em_var 6) em_int) am_nil)))) (len_cons (len_cons (len_cons (len_cons len_nil)))))))))
  (ssm_one (sm_ret (em_var 3))))))))
def N__law_word : List Str := ["order", "place", "registers", "other"]
omit XI G c TB in
theorem sc__law_word : FnScope N__law_word ["order", "place", "registers"] (defScope s__law_word) := ⟨rfl, rfl, rfl, by decide +kernel, rfl, by decide +kernel, by decide +kernel⟩
theorem w__law_word : FunM P w K mg base (tabT K tf) 3 (He.ga K "_law_word") 3 f__law_word := by
  obtain ⟨fd, F⟩ := c.d.def_ 14 (d := df__law_word) rfl
  rw [f__law_word_eq]
  refine def_m (k := 2) (N := N__law_word) F sc__law_word (fun _ _ _ _ _ _ us hl => match us, hl with | [_, _, _], _ => rfl) fun cdv  A outer s H E hr tk hp => ?_
  have hu1 := hu_of hr
  have hu4 := hr.units
  have hu5 := hu65 hr
  have nd := sc__law_word.nd
  exact (ssm_cons (sm_if (tm_in hu5 (em_ix hu1 (em_var 0) em_int) (em_lst (am_cons em_str (am_cons em_str am_nil)) (len_cons (len_cons len_nil))))
  (ssm_one (sm_ret (em_add (em_var 1) em_int)))
  ssm_nil)
  (ssm_cons (sm_if (tm_eq hu4 (em_ix hu1 (em_var 0) em_int) em_str)
  (ssm_one (sm_ret (em_mul (em_mod (em_ix hu1 (em_var 0) em_int) em_int) em_int)))
  ssm_nil)
  (ssm_cons (sm_set 3 nd (em_if (tm_eq hu4 (em_call (w_shape XI G c TB) hr (by decide) rfl (g_shape XI G c) tk (am_cons (em_ix hu1 (em_var 0) em_int) am_nil)) em_str) (em_ix hu1 (em_var 2) (em_ix hu1 (em_var 0) em_int)) (em_mod (em_ix hu1 (em_var 0) em_int) em_int)))
  (ssm_one (sm_ret (em_call (w__law_reckon XI G c TB) hr (by decide) rfl (g__law_reckon XI G c) tk (am_cons (em_ix hu1 (em_var 0) em_int) (am_cons (em_ix hu1 (em_var 2) (em_ix hu1 (em_var 0) em_int)) (am_cons (em_var 3) am_nil)))))))))
def N__law_do : List Str := ["state", "order", "program", "place", "registers", "name", "base", "a", "b", "less_v", "goes", "word", "there"]
omit XI G c TB in
theorem sc__law_do : FnScope N__law_do ["state", "order", "program"] (defScope s__law_do) := ⟨rfl, rfl, rfl, by decide +kernel, rfl, by decide +kernel, by decide +kernel⟩
theorem w__law_do : FunM P w K mg base (tabT K tf) 4 (He.ga K "_law_do") 3 f__law_do := by
  obtain ⟨fd, F⟩ := c.d.def_ 15 (d := df__law_do) rfl
  rw [f__law_do_eq]
  refine def_m (k := 3) (N := N__law_do) F sc__law_do (fun _ _ _ _ _ _ us hl => match us, hl with | [_, _, _], _ => rfl) fun cdv  A outer s H E hr tk hp => ?_
  have hu1 := hu_of hr
  have hu4 := hr.units
  have hu5 := hu65 hr
  have nd := sc__law_do.nd
  exact (ssm_cons (sm_par 3 4 rfl nd (am_cons (em_ix hu1 (em_var 0) em_int) (am_cons (em_ix hu1 (em_var 0) em_int) am_nil)))
  (ssm_cons (sm_set 5 nd (em_ix hu1 (em_var 1) em_int))
  (ssm_one (sm_if (tm_eq hu4 (em_var 5) em_str)
  (ssm_one (sm_asg (gm_sub hu1 (em_var 0) em_int) (em_tup (am_cons em_str am_nil) (len_cons len_nil))))
  (ssm_one (sm_if (tm_eq hu4 (em_var 5) em_str)
  (ssm_one (sm_asg (gm_sub hu1 (em_var 0) em_int) (em_ix hu1 (em_var 0) em_int)))
  (ssm_one (sm_if (tm_wm (wm_and (tm_eq hu4 (em_var 5) em_str) (wm_and1 (tm_eq hu4 (em_ix hu1 (em_var 1) em_int) em_int))))
  (ssm_one (sm_asg (gm_unp rfl (gsm_cons (gm_sub hu1 (em_var 0) em_int) (gsm_cons (gm_sub hu1 (em_var 0) em_int) gsm_nil))) (em_tup (am_cons (em_ix hu1 (em_var 4) em_int) (am_cons (em_add (em_var 3) em_int) am_nil)) (len_cons (len_cons len_nil)))))
  (ssm_one (sm_if (tm_eq hu4 (em_var 5) em_str)
  (ssm_cons (sm_asg (gm_sub hu1 (em_var 4) em_int) (em_mod (em_ix hu1 (em_var 1) em_int) em_int))
  (ssm_cons (sm_asg (gm_sub hu1 (em_var 0) em_int) (em_add (em_var 3) em_int))
  (ssm_one (sm_expr (em_call (w__law_fault XI G c TB) hr (by decide) rfl (g__law_fault XI G c) tk (am_cons (em_var 0) (am_cons em_int am_nil)))))))
  (ssm_one (sm_if (tm_in hu5 (em_var 5) (em_lst (am_cons em_str (am_cons em_str am_nil)) (len_cons (len_cons len_nil))))
  (ssm_cons (sm_set 6 nd (em_ix hu1 (em_var 4) (em_ix hu1 (em_var 1) em_int)))
  (ssm_one (sm_expr (em_call (w__law_memory XI G c TB) hr (by decide) rfl (g__law_memory XI G c) tk (am_cons (em_var 0) (am_cons (em_var 1) (am_cons (em_mod (em_add (em_var 6) (em_ix hu1 (em_var 1) em_int)) em_int) am_nil)))))))
  (ssm_one (sm_if (tm_in hu5 (em_var 5) (em_lst (am_cons em_str (am_cons em_str (am_cons em_str (am_cons em_str am_nil)))) (len_cons (len_cons (len_cons (len_cons len_nil))))))
  (ssm_cons (sm_par 7 8 rfl nd (am_cons (em_ix hu1 (em_var 4) (em_ix hu1 (em_var 1) em_int)) (am_cons (em_ix hu1 (em_var 4) (em_ix hu1 (em_var 1) em_int)) am_nil)))
  (ssm_cons (sm_set 9 nd (em_lt (em_call (w__law_number XI G c TB) hr (by decide) rfl (g__law_number XI G c) tk (am_cons (em_var 7) am_nil)) (em_call (w__law_number XI G c TB) hr (by decide) rfl (g__law_number XI G c) tk (am_cons (em_var 8) am_nil))))
  (ssm_cons (sm_set 10 nd (em_ix hu1 (em_disp (pm_cons em_str (em_eq hu4 (em_var 7) (em_var 8)) (pm_cons em_str (em_ne hu4 (em_var 7) (em_var 8)) (pm_cons em_str (em_var 9) (pm_cons em_str (em_not (em_var 9)) pm_nil))))) (em_var 5)))
  (ssm_one (sm_asg (gm_sub hu1 (em_var 0) em_int) (em_if (tm_tru (em_var 10)) (em_add (em_var 3) (em_ix hu1 (em_var 1) em_int)) (em_add (em_var 3) em_int)))))))
  (ssm_cons (sm_par 11 12 rfl nd (am_cons (em_call (w__law_word XI G c TB) hr (by decide) rfl (g__law_word XI G c) tk (am_cons (em_var 1) (am_cons (em_var 3) (am_cons (em_var 4) am_nil)))) (am_cons (em_add (em_var 3) em_int) am_nil)))
  (ssm_cons (sm_if (tm_eq hu4 (em_var 5) em_str)
  (ssm_one (sm_set 12 nd (em_add (em_var 3) (em_ix hu1 (em_var 1) em_int))))
  ssm_nil)
  (ssm_cons (sm_if (tm_eq hu4 (em_var 5) em_str)
  (ssm_one (sm_set 12 nd (em_mod (em_add (em_ix hu1 (em_var 4) (em_ix hu1 (em_var 1) em_int)) (em_ix hu1 (em_var 1) em_int)) em_int)))
  ssm_nil)
  (ssm_cons (sm_if (tm_ne hu4 (em_ix hu1 (em_var 1) em_int) em_int)
  (ssm_one (sm_asg (gm_sub hu1 (em_var 4) (em_ix hu1 (em_var 1) em_int)) (em_var 11)))
  ssm_nil)
  (ssm_one (sm_asg (gm_sub hu1 (em_var 0) em_int) (em_var 12)))))))))))))))))))))
def N_State_put : List Str := ["self", "cell", "word"]
omit XI G c TB in
theorem sc_State_put : FnScope N_State_put ["self", "cell", "word"] (defScope s_State_put) := ⟨rfl, rfl, rfl, by decide +kernel, rfl, by decide +kernel, by decide +kernel⟩
theorem w_State_put : FunM P w K mg base (tabT K tf) 1 (He.ma K (He.ga K "State") "put") 3 f_State_put := by
  obtain ⟨fd, F⟩ := c.d.def_ 16 (d := df_State_put) rfl
  rw [f_State_put_eq]
  refine def_m (k := 0) (N := N_State_put) F sc_State_put (fun _ _ _ _ _ _ us hl => match us, hl with | [_, _, _], _ => rfl) fun cdv  A outer s H E hr tk hp => ?_
  have hu1 := hu_of hr
  have hu4 := hr.units
  have hu5 := hu65 hr
  have nd := sc_State_put.nd
  exact (ssm_one (sm_if (tm_wm (wm_and (tm_isnot (em_var 1) em_non) (wm_and1 (tm_ne hu4 (em_var 1) em_int))))
  (ssm_one (sm_asg (gm_sub hu1 (em_fld (fo_registers XI G c) (em_var 0)) (em_var 1)) (em_var 2)))
  ssm_nil))
def N_State_fault : List Str := ["self", "cause"]
omit XI G c TB in
theorem sc_State_fault : FnScope N_State_fault ["self", "cause"] (defScope s_State_fault) := ⟨rfl, rfl, rfl, by decide +kernel, rfl, by decide +kernel, by decide +kernel⟩
theorem w_State_fault : FunM P w K mg base (tabT K tf) 1 (He.ma K (He.ga K "State") "fault") 2 f_State_fault := by
  obtain ⟨fd, F⟩ := c.d.def_ 17 (d := df_State_fault) rfl
  rw [f_State_fault_eq]
  refine def_m (k := 0) (N := N_State_fault) F sc_State_fault (fun _ _ _ _ _ _ us hl => match us, hl with | [_, _], _ => rfl) fun cdv  A outer s H E hr tk hp => ?_
  have hu1 := hu_of hr
  have hu4 := hr.units
  have hu5 := hu65 hr
  have nd := sc_State_fault.nd
  exact (ssm_cons (sm_fld (fo_cause XI G c) (em_var 0) (em_var 1))
  (ssm_cons (sm_fld (fo_return_place XI G c) (em_var 0) (em_fld (fo_place XI G c) (em_var 0)))
  (ssm_one (sm_if (tm_is (em_fld (fo_handler XI G c) (em_var 0)) em_non)
  (ssm_one (sm_fld (fo_ended XI G c) (em_var 0) (em_tup (am_cons em_str (am_cons (em_var 1) (am_cons (em_fld (fo_place XI G c) (em_var 0)) am_nil))) (len_cons (len_cons (len_cons len_nil))))))
  (ssm_one (sm_fld (fo_place XI G c) (em_var 0) (em_fld (fo_handler XI G c) (em_var 0))))))))
def N_call : List Str := ["state", "number"]
omit XI G c TB in
theorem sc_call : FnScope N_call ["state", "number"] (defScope s_call) := ⟨rfl, rfl, rfl, by decide +kernel, rfl, by decide +kernel, by decide +kernel⟩
theorem w_call : FunM P w K mg base (tabT K tf) 2 (He.ga K "call") 2 f_call := by
  obtain ⟨fd, F⟩ := c.d.def_ 18 (d := df_call) rfl
  rw [f_call_eq]
  refine def_m (k := 1) (N := N_call) F sc_call (fun _ _ _ _ _ _ us hl => match us, hl with | [_, _], _ => rfl) fun cdv  A outer s H E hr tk hp => ?_
  have hu1 := hu_of hr
  have hu4 := hr.units
  have hu5 := hu65 hr
  have nd := sc_call.nd
  exact (ssm_cons (sm_if (tm_eq hu4 (em_var 1) em_int)
  (ssm_cons (sm_fld (fo_handler XI G c) (em_var 0) (em_ix hu1 (em_fld (fo_registers XI G c) (em_var 0)) em_int))
  (ssm_cons (sm_flda (fo_place XI G c) iop_add o2_I0 (em_var 0) em_int)
  (ssm_one sm_retN)))
  ssm_nil)
  (ssm_cons (sm_expr (em_meth (He.cls_ok (c_State c)) (He.meth_ok (m_State_put c)) (w_State_put XI G c TB) hr (by decide) (g_State XI G c) tk (em_var 0) (am_cons em_int (am_cons (em_mod (em_var 1) (em_globI rfl (i_WORD XI G c))) am_nil))))
  (ssm_cons (sm_flda (fo_place XI G c) iop_add o2_I0 (em_var 0) em_int)
  (ssm_one (sm_expr (em_meth (He.cls_ok (c_State c)) (He.meth_ok (m_State_fault c)) (w_State_fault XI G c TB) hr (by decide) (g_State XI G c) tk (em_var 0) (am_cons em_int am_nil)))))))
def N_reads : List Str := ["order", "name"]
omit XI G c TB in
theorem sc_reads : FnScope N_reads ["order"] (defScope s_reads) := ⟨rfl, rfl, rfl, by decide +kernel, rfl, by decide +kernel, by decide +kernel⟩
theorem w_reads : FunM P w K mg base (tabT K tf) 1 (He.ga K "reads") 1 f_reads := by
  obtain ⟨fd, F⟩ := c.d.def_ 19 (d := df_reads) rfl
  rw [f_reads_eq]
  refine def_m (k := 0) (N := N_reads) F sc_reads (fun _ _ _ _ _ _ us hl => match us, hl with | [_], _ => rfl) fun cdv  A outer s H E hr tk hp => ?_
  have hu1 := hu_of hr
  have hu4 := hr.units
  have hu5 := hu65 hr
  have nd := sc_reads.nd
  exact (ssm_cons (sm_set 1 nd (em_ix hu1 (em_var 0) em_int))
  (ssm_cons (sm_if (tm_in hu5 (em_var 1) (em_glob (d := d_THREE) (v := .ref (He.ga K "THREE")) rfl (g_THREE XI G c) rfl (dv_THREE XI G c)))
  (ssm_one (sm_ret (em_sl (em_var 0) (om_some em_int) (om_some em_int))))
  ssm_nil)
  (ssm_cons (sm_if (tm_wm (wm_or (tm_in hu5 (em_var 1) (em_glob (d := d_TWO) (v := .ref (He.ga K "TWO")) rfl (g_TWO XI G c) rfl (dv_TWO XI G c))) (wm_or1 (tm_in hu5 (em_var 1) (em_tup (am_cons em_str (am_cons em_str am_nil)) (len_cons (len_cons len_nil)))))))
  (ssm_one (sm_ret (em_sl (em_var 0) (om_some em_int) (om_some em_int))))
  ssm_nil)
  (ssm_cons (sm_if (tm_wm (wm_or (tm_in hu5 (em_var 1) (em_glob (d := d_BRANCH) (v := .ref (He.ga K "BRANCH")) rfl (g_BRANCH XI G c) rfl (dv_BRANCH XI G c))) (wm_or1 (tm_eq hu4 (em_var 1) em_str))))
  (ssm_one (sm_ret (em_sl (em_var 0) (om_some em_int) (om_some em_int))))
  ssm_nil)
  (ssm_one (sm_ret (em_tup am_nil len_nil)))))))
def N_words_for : List Str := ["order", "registers", "row", "cell"]
omit XI G c TB in
theorem sc_words_for : FnScope N_words_for ["order", "registers"] (defScope s_words_for) := ⟨rfl, rfl, rfl, by decide +kernel, rfl, by decide +kernel, by decide +kernel⟩
theorem w_words_for : FunM P w K mg base (tabT K tf) 2 (He.ga K "words_for") 2 f_words_for := by
  obtain ⟨fd, F⟩ := c.d.def_ 20 (d := df_words_for) rfl
  rw [f_words_for_eq]
  refine def_m (k := 1) (N := N_words_for) F sc_words_for (fun _ _ _ _ _ _ us hl => match us, hl with | [_, _], _ => rfl) fun cdv  A outer s H E hr tk hp => ?_
  have hu1 := hu_of hr
  have hu4 := hr.units
  have hu5 := hu65 hr
  have nd := sc_words_for.nd
  exact (ssm_cons (sm_set 2 nd (em_add (em_lc [("cell", 3)] rfl nd (im_any (em_call (w_reads XI G c TB) hr (by decide) rfl (g_reads XI G c) tk (am_cons (em_var 0) am_nil))) (blkOk_by rfl) (fun _ _ _ _ _ => (gw_name 3 nd)) (fun _ _ _ _ _ => tsm_nil) (fun _ _ _ _ _ => (em_ix hu1 (em_var 1) (em_var 3)))) (em_lst (am_cons em_int (am_cons em_int am_nil)) (len_cons (len_cons len_nil)))))
  (ssm_one (sm_ret (em_tup (am_cons (em_ix hu1 (em_var 2) em_int) (am_cons (em_ix hu1 (em_var 2) em_int) am_nil)) (len_cons (len_cons len_nil))))))
def N_add : List Str := ["a", "b"]
omit XI G c TB in
theorem sc_add : FnScope N_add ["a", "b"] (defScope s_add) := ⟨rfl, rfl, rfl, by decide +kernel, rfl, by decide +kernel, by decide +kernel⟩
theorem w_add : FunM P w K mg base (tabT K tf) 1 (He.ga K "add") 2 f_add := by
  obtain ⟨fd, F⟩ := c.d.def_ 21 (d := df_add) rfl
  rw [f_add_eq]
  refine def_m (k := 0) (N := N_add) F sc_add (fun _ _ _ _ _ _ us hl => match us, hl with | [_, _], _ => rfl) fun cdv  A outer s H E hr tk hp => ?_
  have hu1 := hu_of hr
  have hu4 := hr.units
  have hu5 := hu65 hr
  have nd := sc_add.nd
  exact (ssm_one (sm_ret (em_mod (em_add (em_var 0) (em_var 1)) (em_globI rfl (i_WORD XI G c)))))
def N_less : List Str := ["a", "b"]
omit XI G c TB in
theorem sc_less : FnScope N_less ["a", "b"] (defScope s_less) := ⟨rfl, rfl, rfl, by decide +kernel, rfl, by decide +kernel, by decide +kernel⟩
theorem w_less : FunM P w K mg base (tabT K tf) 1 (He.ga K "less") 2 f_less := by
  obtain ⟨fd, F⟩ := c.d.def_ 22 (d := df_less) rfl
  rw [f_less_eq]
  refine def_m (k := 0) (N := N_less) F sc_less (fun _ _ _ _ _ _ us hl => match us, hl with | [_, _], _ => rfl) fun cdv  A outer s H E hr tk hp => ?_
  have hu1 := hu_of hr
  have hu4 := hr.units
  have hu5 := hu65 hr
  have nd := sc_less.nd
  exact (ssm_one (sm_ret (em_mod (em_sub (em_var 0) (em_var 1)) (em_globI rfl (i_WORD XI G c)))))
def N_times : List Str := ["a", "b"]
omit XI G c TB in
theorem sc_times : FnScope N_times ["a", "b"] (defScope s_times) := ⟨rfl, rfl, rfl, by decide +kernel, rfl, by decide +kernel, by decide +kernel⟩
theorem w_times : FunM P w K mg base (tabT K tf) 1 (He.ga K "times") 2 f_times := by
  obtain ⟨fd, F⟩ := c.d.def_ 23 (d := df_times) rfl
  rw [f_times_eq]
  refine def_m (k := 0) (N := N_times) F sc_times (fun _ _ _ _ _ _ us hl => match us, hl with | [_, _], _ => rfl) fun cdv  A outer s H E hr tk hp => ?_
  have hu1 := hu_of hr
  have hu4 := hr.units
  have hu5 := hu65 hr
  have nd := sc_times.nd
  exact (ssm_one (sm_ret (em_mod (em_mul (em_var 0) (em_var 1)) (em_globI rfl (i_WORD XI G c)))))
def N_of_bits : List Str := ["row", "found", "bit"]
omit XI G c TB in
theorem sc_of_bits : FnScope N_of_bits ["row"] (defScope s_of_bits) := ⟨rfl, rfl, rfl, by decide +kernel, rfl, by decide +kernel, by decide +kernel⟩
theorem w_of_bits : FunM P w K mg base (tabT K tf) 1 (He.ga K "of_bits") 1 f_of_bits := by
  obtain ⟨fd, F⟩ := c.d.def_ 24 (d := df_of_bits) rfl
  rw [f_of_bits_eq]
  refine def_m (k := 0) (N := N_of_bits) F sc_of_bits (fun _ _ _ _ _ _ us hl => match us, hl with | [_], _ => rfl) fun cdv  A outer s H E hr tk hp => ?_
  have hu1 := hu_of hr
  have hu4 := hr.units
  have hu5 := hu65 hr
  have nd := sc_of_bits.nd
  exact (ssm_cons (sm_set 1 nd em_int)
  (ssm_cons (sm_for hp rfl (im_reversed rfl (n_reversed XI G c) (em_var 0)) (gm_name 2 nd)
  (ssm_one (sm_set 1 nd (em_add (em_mul em_int (em_var 1)) (em_var 2)))))
  (ssm_one (sm_ret (em_var 1)))))
def N_bits_of : List Str := ["word", "found", "k"]
omit XI G c TB in
theorem sc_bits_of : FnScope N_bits_of ["word"] (defScope s_bits_of) := ⟨rfl, rfl, rfl, by decide +kernel, rfl, by decide +kernel, by decide +kernel⟩
theorem w_bits_of : FunM P w K mg base (tabT K tf) 1 (He.ga K "bits_of") 1 f_bits_of := by
  obtain ⟨fd, F⟩ := c.d.def_ 25 (d := df_bits_of) rfl
  rw [f_bits_of_eq]
  refine def_m (k := 0) (N := N_bits_of) F sc_bits_of (fun _ _ _ _ _ _ us hl => match us, hl with | [_], _ => rfl) fun cdv  A outer s H E hr tk hp => ?_
  have hu1 := hu_of hr
  have hu4 := hr.units
  have hu5 := hu65 hr
  have nd := sc_bits_of.nd
  exact (ssm_cons (sm_set 1 nd (em_lst am_nil len_nil))
  (ssm_cons (sm_for hp rfl (im_range1 rfl (n_range XI G c) (am_cons em_int am_nil)) (gm_name 2 nd)
  (ssm_cons (sm_expr (em_bm PySem.F.plainAttrs_list PySem.F.slot_list_append PySem.F.type_list_append mt_append tyL om_append (em_var 1) (am_cons (em_mod (em_var 0) em_int) am_nil)))
  (ssm_one (sm_aug 0 nd iop_fdiv o2_IC em_int))))
  (ssm_one (sm_ret (em_callTy call_tuple_of oc_tuple rfl (n_tuple XI G c) (am_cons (em_var 1) am_nil) rfl)))))
def N_shared : List Str := ["a", "b", "x", "y"]
omit XI G c TB in
theorem sc_shared : FnScope N_shared ["a", "b"] (defScope s_shared) := ⟨rfl, rfl, rfl, by decide +kernel, rfl, by decide +kernel, by decide +kernel⟩
theorem w_shared : FunM P w K mg base (tabT K tf) 2 (He.ga K "shared") 2 f_shared := by
  obtain ⟨fd, F⟩ := c.d.def_ 26 (d := df_shared) rfl
  rw [f_shared_eq]
  refine def_m (k := 1) (N := N_shared) F sc_shared (fun _ _ _ _ _ _ us hl => match us, hl with | [_, _], _ => rfl) fun cdv  A outer s H E hr tk hp => ?_
  have hu1 := hu_of hr
  have hu4 := hr.units
  have hu5 := hu65 hr
  have nd := sc_shared.nd
  exact (ssm_one (sm_ret (em_call (w_of_bits XI G c TB) hr (by decide) rfl (g_of_bits XI G c) tk (am_cons (em_lc [("x", 2), ("y", 3)] rfl nd (im_zip rfl (n_zip XI G c) (am_cons (em_call (w_bits_of XI G c TB) hr (by decide) rfl (g_bits_of XI G c) tk (am_cons (em_var 0) am_nil)) (am_cons (em_call (w_bits_of XI G c TB) hr (by decide) rfl (g_bits_of XI G c) tk (am_cons (em_var 1) am_nil)) am_nil))) (blkOk_by rfl) (fun _ _ _ _ _ => (gw_unp rfl (gsw_cons (gw_name 2 nd) (gsw_cons (gw_name 3 nd) gsw_nil)))) (fun _ _ _ _ _ => tsm_nil) (fun _ _ _ _ _ => (em_mul (em_var 2) (em_var 3)))) am_nil))))
def N_either : List Str := ["a", "b"]
omit XI G c TB in
theorem sc_either : FnScope N_either ["a", "b"] (defScope s_either) := ⟨rfl, rfl, rfl, by decide +kernel, rfl, by decide +kernel, by decide +kernel⟩
theorem w_either : FunM P w K mg base (tabT K tf) 3 (He.ga K "either") 2 f_either := by
  obtain ⟨fd, F⟩ := c.d.def_ 27 (d := df_either) rfl
  rw [f_either_eq]
  refine def_m (k := 2) (N := N_either) F sc_either (fun _ _ _ _ _ _ us hl => match us, hl with | [_, _], _ => rfl) fun cdv  A outer s H E hr tk hp => ?_
  have hu1 := hu_of hr
  have hu4 := hr.units
  have hu5 := hu65 hr
  have nd := sc_either.nd
  exact (ssm_one (sm_ret (em_sub (em_add (em_var 0) (em_var 1)) (em_call (w_shared XI G c TB) hr (by decide) rfl (g_shared XI G c) tk (am_cons (em_var 0) (am_cons (em_var 1) am_nil))))))
def N_unlike : List Str := ["a", "b"]
omit XI G c TB in
theorem sc_unlike : FnScope N_unlike ["a", "b"] (defScope s_unlike) := ⟨rfl, rfl, rfl, by decide +kernel, rfl, by decide +kernel, by decide +kernel⟩
theorem w_unlike : FunM P w K mg base (tabT K tf) 3 (He.ga K "unlike") 2 f_unlike := by
  obtain ⟨fd, F⟩ := c.d.def_ 28 (d := df_unlike) rfl
  rw [f_unlike_eq]
  refine def_m (k := 2) (N := N_unlike) F sc_unlike (fun _ _ _ _ _ _ us hl => match us, hl with | [_, _], _ => rfl) fun cdv  A outer s H E hr tk hp => ?_
  have hu1 := hu_of hr
  have hu4 := hr.units
  have hu5 := hu65 hr
  have nd := sc_unlike.nd
  exact (ssm_one (sm_ret (em_sub (em_add (em_var 0) (em_var 1)) (em_mul em_int (em_call (w_shared XI G c TB) hr (by decide) rfl (g_shared XI G c) tk (am_cons (em_var 0) (am_cons (em_var 1) am_nil)))))))
def N_up : List Str := ["a", "many", "k"]
omit XI G c TB in
theorem sc_up : FnScope N_up ["a", "many"] (defScope s_up) := ⟨rfl, rfl, rfl, by decide +kernel, rfl, by decide +kernel, by decide +kernel⟩
theorem w_up : FunM P w K mg base (tabT K tf) 1 (He.ga K "up") 2 f_up := by
  obtain ⟨fd, F⟩ := c.d.def_ 29 (d := df_up) rfl
  rw [f_up_eq]
  refine def_m (k := 0) (N := N_up) F sc_up (fun _ _ _ _ _ _ us hl => match us, hl with | [_, _], _ => rfl) fun cdv  A outer s H E hr tk hp => ?_
  have hu1 := hu_of hr
  have hu4 := hr.units
  have hu5 := hu65 hr
  have nd := sc_up.nd
  exact (ssm_cons (sm_aug 1 nd iop_mod o2_IC em_int)
  (ssm_cons (sm_for hp rfl (im_range1 rfl (n_range XI G c) (am_cons (em_var 1) am_nil)) (gm_name 2 nd)
  (ssm_one (sm_set 0 nd (em_mod (em_mul em_int (em_var 0)) (em_globI rfl (i_WORD XI G c))))))
  (ssm_one (sm_ret (em_var 0)))))
def N_down : List Str := ["a", "many", "k"]
omit XI G c TB in
theorem sc_down : FnScope N_down ["a", "many"] (defScope s_down) := ⟨rfl, rfl, rfl, by decide +kernel, rfl, by decide +kernel, by decide +kernel⟩
theorem w_down : FunM P w K mg base (tabT K tf) 1 (He.ga K "down") 2 f_down := by
  obtain ⟨fd, F⟩ := c.d.def_ 30 (d := df_down) rfl
  rw [f_down_eq]
  refine def_m (k := 0) (N := N_down) F sc_down (fun _ _ _ _ _ _ us hl => match us, hl with | [_, _], _ => rfl) fun cdv  A outer s H E hr tk hp => ?_
  have hu1 := hu_of hr
  have hu4 := hr.units
  have hu5 := hu65 hr
  have nd := sc_down.nd
  exact (ssm_cons (sm_aug 1 nd iop_mod o2_IC em_int)
  (ssm_cons (sm_for hp rfl (im_range1 rfl (n_range XI G c) (am_cons (em_var 1) am_nil)) (gm_name 2 nd)
  (ssm_one (sm_aug 0 nd iop_fdiv o2_IC em_int)))
  (ssm_one (sm_ret (em_var 0)))))
def N_signed : List Str := ["word"]
omit XI G c TB in
theorem sc_signed : FnScope N_signed ["word"] (defScope s_signed) := ⟨rfl, rfl, rfl, by decide +kernel, rfl, by decide +kernel, by decide +kernel⟩
theorem w_signed : FunM P w K mg base (tabT K tf) 1 (He.ga K "signed") 1 f_signed := by
  obtain ⟨fd, F⟩ := c.d.def_ 31 (d := df_signed) rfl
  rw [f_signed_eq]
  refine def_m (k := 0) (N := N_signed) F sc_signed (fun _ _ _ _ _ _ us hl => match us, hl with | [_], _ => rfl) fun cdv  A outer s H E hr tk hp => ?_
  have hu1 := hu_of hr
  have hu4 := hr.units
  have hu5 := hu65 hr
  have nd := sc_signed.nd
  exact (ssm_one (sm_ret (em_if (tm_ge (em_var 0) (em_globI rfl (i_HALF XI G c))) (em_sub (em_var 0) (em_globI rfl (i_WORD XI G c))) (em_var 0))))
def N_down_signed : List Str := ["a", "many", "number", "k"]
omit XI G c TB in
theorem sc_down_signed : FnScope N_down_signed ["a", "many"] (defScope s_down_signed) := ⟨rfl, rfl, rfl, by decide +kernel, rfl, by decide +kernel, by decide +kernel⟩
theorem w_down_signed : FunM P w K mg base (tabT K tf) 2 (He.ga K "down_signed") 2 f_down_signed := by
  obtain ⟨fd, F⟩ := c.d.def_ 32 (d := df_down_signed) rfl
  rw [f_down_signed_eq]
  refine def_m (k := 1) (N := N_down_signed) F sc_down_signed (fun _ _ _ _ _ _ us hl => match us, hl with | [_, _], _ => rfl) fun cdv  A outer s H E hr tk hp => ?_
  have hu1 := hu_of hr
  have hu4 := hr.units
  have hu5 := hu65 hr
  have nd := sc_down_signed.nd
  exact (ssm_cons (sm_set 2 nd (em_call (w_signed XI G c TB) hr (by decide) rfl (g_signed XI G c) tk (am_cons (em_var 0) am_nil)))
  (ssm_cons (sm_for hp rfl (im_range1 rfl (n_range XI G c) (am_cons (em_mod (em_var 1) em_int) am_nil)) (gm_name 3 nd)
  (ssm_one (sm_aug 2 nd iop_fdiv o2_IC em_int)))
  (ssm_one (sm_ret (em_mod (em_var 2) (em_globI rfl (i_WORD XI G c)))))))
def N_is_less : List Str := ["a", "b"]
omit XI G c TB in
theorem sc_is_less : FnScope N_is_less ["a", "b"] (defScope s_is_less) := ⟨rfl, rfl, rfl, by decide +kernel, rfl, by decide +kernel, by decide +kernel⟩
theorem w_is_less : FunM P w K mg base (tabT K tf) 2 (He.ga K "is_less") 2 f_is_less := by
  obtain ⟨fd, F⟩ := c.d.def_ 33 (d := df_is_less) rfl
  rw [f_is_less_eq]
  refine def_m (k := 1) (N := N_is_less) F sc_is_less (fun _ _ _ _ _ _ us hl => match us, hl with | [_, _], _ => rfl) fun cdv  A outer s H E hr tk hp => ?_
  have hu1 := hu_of hr
  have hu4 := hr.units
  have hu5 := hu65 hr
  have nd := sc_is_less.nd
  exact (ssm_one (sm_ret (em_callTy call_int1 oc_int rfl (n_int XI G c) (am_cons (em_lt (em_call (w_signed XI G c TB) hr (by decide) rfl (g_signed XI G c) tk (am_cons (em_var 0) am_nil)) (em_call (w_signed XI G c TB) hr (by decide) rfl (g_signed XI G c) tk (am_cons (em_var 1) am_nil))) am_nil) rfl)))
def N_is_below : List Str := ["a", "b"]
omit XI G c TB in
theorem sc_is_below : FnScope N_is_below ["a", "b"] (defScope s_is_below) := ⟨rfl, rfl, rfl, by decide +kernel, rfl, by decide +kernel, by decide +kernel⟩
theorem w_is_below : FunM P w K mg base (tabT K tf) 1 (He.ga K "is_below") 2 f_is_below := by
  obtain ⟨fd, F⟩ := c.d.def_ 34 (d := df_is_below) rfl
  rw [f_is_below_eq]
  refine def_m (k := 0) (N := N_is_below) F sc_is_below (fun _ _ _ _ _ _ us hl => match us, hl with | [_, _], _ => rfl) fun cdv  A outer s H E hr tk hp => ?_
  have hu1 := hu_of hr
  have hu4 := hr.units
  have hu5 := hu65 hr
  have nd := sc_is_below.nd
  exact (ssm_one (sm_ret (em_callTy call_int1 oc_int rfl (n_int XI G c) (am_cons (em_lt (em_var 0) (em_var 1)) am_nil) rfl)))
def N_reckoned : List Str := ["order", "a", "b", "name"]
omit XI G c TB in
theorem sc_reckoned : FnScope N_reckoned ["order", "a", "b"] (defScope s_reckoned) := ⟨rfl, rfl, rfl, by decide +kernel, rfl, by decide +kernel, by decide +kernel⟩
theorem w_reckoned : FunM P w K mg base (tabT K tf) 4 (He.ga K "reckoned") 3 f_reckoned := by
  obtain ⟨fd, F⟩ := c.d.def_ 35 (d := df_reckoned) rfl
  rw [f_reckoned_eq]
  refine def_m (k := 3) (N := N_reckoned) F sc_reckoned (fun _ _ _ _ _ _ us hl => match us, hl with | [_, _, _], _ => rfl) fun cdv  A outer s H E hr tk hp => ?_
  have hu1 := hu_of hr
  have hu4 := hr.units
  have hu5 := hu65 hr
  have nd := sc_reckoned.nd
  exact (ssm_cons (sm_set 3 nd (em_ix hu1 (em_var 0) em_int))
  (ssm_cons (sm_if (tm_in hu5 (em_var 3) (em_tup (am_cons em_str (am_cons em_str am_nil)) (len_cons (len_cons len_nil))))
  (ssm_one (sm_ret (em_call (w_add XI G c TB) hr (by decide) rfl (g_add XI G c) tk (am_cons (em_var 1) (am_cons (em_var 2) am_nil)))))
  ssm_nil)
  (ssm_cons (sm_if (tm_eq hu4 (em_var 3) em_str)
  (ssm_one (sm_ret (em_call (w_less XI G c TB) hr (by decide) rfl (g_less XI G c) tk (am_cons (em_var 1) (am_cons (em_var 2) am_nil)))))
  ssm_nil)
  (ssm_cons (sm_if (tm_eq hu4 (em_var 3) em_str)
  (ssm_one (sm_ret (em_call (w_times XI G c TB) hr (by decide) rfl (g_times XI G c) tk (am_cons (em_var 1) (am_cons (em_var 2) am_nil)))))
  ssm_nil)
  (ssm_cons (sm_if (tm_in hu5 (em_var 3) (em_tup (am_cons em_str (am_cons em_str am_nil)) (len_cons (len_cons len_nil))))
  (ssm_one (sm_ret (em_call (w_shared XI G c TB) hr (by decide) rfl (g_shared XI G c) tk (am_cons (em_var 1) (am_cons (em_var 2) am_nil)))))
  ssm_nil)
  (ssm_cons (sm_if (tm_in hu5 (em_var 3) (em_tup (am_cons em_str (am_cons em_str am_nil)) (len_cons (len_cons len_nil))))
  (ssm_one (sm_ret (em_call (w_either XI G c TB) hr (by decide) rfl (g_either XI G c) tk (am_cons (em_var 1) (am_cons (em_var 2) am_nil)))))
  ssm_nil)
  (ssm_cons (sm_if (tm_in hu5 (em_var 3) (em_tup (am_cons em_str (am_cons em_str am_nil)) (len_cons (len_cons len_nil))))
  (ssm_one (sm_ret (em_call (w_unlike XI G c TB) hr (by decide) rfl (g_unlike XI G c) tk (am_cons (em_var 1) (am_cons (em_var 2) am_nil)))))
  ssm_nil)
  (ssm_cons (sm_if (tm_in hu5 (em_var 3) (em_tup (am_cons em_str (am_cons em_str am_nil)) (len_cons (len_cons len_nil))))
  (ssm_one (sm_ret (em_call (w_up XI G c TB) hr (by decide) rfl (g_up XI G c) tk (am_cons (em_var 1) (am_cons (em_var 2) am_nil)))))
  ssm_nil)
  (ssm_cons (sm_if (tm_eq hu4 (em_var 3) em_str)
  (ssm_one (sm_ret (em_call (w_down XI G c TB) hr (by decide) rfl (g_down XI G c) tk (am_cons (em_var 1) (am_cons (em_var 2) am_nil)))))
  ssm_nil)
  (ssm_cons (sm_if (tm_eq hu4 (em_var 3) em_str)
  (ssm_one (sm_ret (em_call (w_down_signed XI G c TB) hr (by decide) rfl (g_down_signed XI G c) tk (am_cons (em_var 1) (am_cons (em_var 2) am_nil)))))
  ssm_nil)
  (ssm_cons (sm_if (tm_in hu5 (em_var 3) (em_tup (am_cons em_str (am_cons em_str am_nil)) (len_cons (len_cons len_nil))))
  (ssm_one (sm_ret (em_call (w_is_less XI G c TB) hr (by decide) rfl (g_is_less XI G c) tk (am_cons (em_var 1) (am_cons (em_var 2) am_nil)))))
  ssm_nil)
  (ssm_cons (sm_if (tm_eq hu4 (em_var 3) em_str)
  (ssm_one (sm_ret (em_call (w_is_below XI G c TB) hr (by decide) rfl (g_is_below XI G c) tk (am_cons (em_var 1) (am_cons (em_var 2) am_nil)))))
  ssm_nil)
  (ssm_one (sm_raise rfl tk PySem.F.excBase_ValueError (He.exc_ok (x_BadOrder c)).1 (g_BadOrder XI G c) (He.exc_ok (x_BadOrder c)).2.1 (raises_own (He.exc_ok (x_BadOrder c)).2.2.1 (He.exc_ok (x_BadOrder c)).2.2.2) rfl))))))))))))))
def N_is_taken : List Str := ["order", "a", "b"]
omit XI G c TB in
theorem sc_is_taken : FnScope N_is_taken ["order", "a", "b"] (defScope s_is_taken) := ⟨rfl, rfl, rfl, by decide +kernel, rfl, by decide +kernel, by decide +kernel⟩
theorem w_is_taken : FunM P w K mg base (tabT K tf) 3 (He.ga K "is_taken") 3 f_is_taken := by
  obtain ⟨fd, F⟩ := c.d.def_ 36 (d := df_is_taken) rfl
  rw [f_is_taken_eq]
  refine def_m (k := 2) (N := N_is_taken) F sc_is_taken (fun _ _ _ _ _ _ us hl => match us, hl with | [_, _, _], _ => rfl) fun cdv  A outer s H E hr tk hp => ?_
  have hu1 := hu_of hr
  have hu4 := hr.units
  have hu5 := hu65 hr
  have nd := sc_is_taken.nd
  exact (ssm_cons (sm_if (tm_eq hu4 (em_ix hu1 (em_var 0) em_int) em_str)
  (ssm_one (sm_ret (em_eq hu4 (em_var 1) (em_var 2))))
  ssm_nil)
  (ssm_cons (sm_if (tm_eq hu4 (em_ix hu1 (em_var 0) em_int) em_str)
  (ssm_one (sm_ret (em_ne hu4 (em_var 1) (em_var 2))))
  ssm_nil)
  (ssm_one (sm_ret (em_eq hu4 (em_call (w_is_less XI G c TB) hr (by decide) rfl (g_is_less XI G c) tk (am_cons (em_var 1) (am_cons (em_var 2) am_nil))) (em_if (tm_eq hu4 (em_ix hu1 (em_var 0) em_int) em_str) em_int em_int))))))
def N_effect : List Str := ["order", "place", "a", "b", "name"]
omit XI G c TB in
theorem sc_effect : FnScope N_effect ["order", "place", "a", "b"] (defScope s_effect) := ⟨rfl, rfl, rfl, by decide +kernel, rfl, by decide +kernel, by decide +kernel⟩
theorem w_effect : FunM P w K mg base (tabT K tf) 5 (He.ga K "effect") 4 f_effect := by
  obtain ⟨fd, F⟩ := c.d.def_ 37 (d := df_effect) rfl
  rw [f_effect_eq]
  refine def_m (k := 4) (N := N_effect) F sc_effect (fun _ _ _ _ _ _ us hl => match us, hl with | [_, _, _, _], _ => rfl) fun cdv  A outer s H E hr tk hp => ?_
  have hu1 := hu_of hr
  have hu4 := hr.units
  have hu5 := hu65 hr
  have nd := sc_effect.nd
  exact (ssm_cons (sm_set 4 nd (em_ix hu1 (em_var 0) em_int))
  (ssm_cons (sm_if (tm_in hu5 (em_var 4) (em_glob (d := d_THREE) (v := .ref (He.ga K "THREE")) rfl (g_THREE XI G c) rfl (dv_THREE XI G c)))
  (ssm_one (sm_ret (em_tup (am_cons (em_call (w_reckoned XI G c TB) hr (by decide) rfl (g_reckoned XI G c) tk (am_cons (em_var 0) (am_cons (em_var 2) (am_cons (em_var 3) am_nil)))) (am_cons (em_add (em_var 1) em_int) (am_cons em_non am_nil))) (len_cons (len_cons (len_cons len_nil))))))
  ssm_nil)
  (ssm_cons (sm_if (tm_in hu5 (em_var 4) (em_glob (d := d_TWO) (v := .ref (He.ga K "TWO")) rfl (g_TWO XI G c) rfl (dv_TWO XI G c)))
  (ssm_one (sm_ret (em_tup (am_cons (em_call (w_reckoned XI G c TB) hr (by decide) rfl (g_reckoned XI G c) tk (am_cons (em_var 0) (am_cons (em_var 2) (am_cons (em_mod (em_ix hu1 (em_var 0) em_int) (em_globI rfl (i_WORD XI G c))) am_nil)))) (am_cons (em_add (em_var 1) em_int) (am_cons em_non am_nil))) (len_cons (len_cons (len_cons len_nil))))))
  ssm_nil)
  (ssm_cons (sm_if (tm_eq hu4 (em_var 4) em_str)
  (ssm_one (sm_ret (em_tup (am_cons (em_mul (em_mod (em_ix hu1 (em_var 0) em_int) em_int) em_int) (am_cons (em_add (em_var 1) em_int) (am_cons em_non am_nil))) (len_cons (len_cons (len_cons len_nil))))))
  ssm_nil)
  (ssm_cons (sm_if (tm_eq hu4 (em_var 4) em_str)
  (ssm_one (sm_ret (em_tup (am_cons em_non (am_cons (em_add (em_var 1) em_int) (am_cons (em_tup (am_cons em_str (am_cons (em_call (w_add XI G c TB) hr (by decide) rfl (g_add XI G c) tk (am_cons (em_var 2) (am_cons (em_mod (em_ix hu1 (em_var 0) em_int) (em_globI rfl (i_WORD XI G c))) am_nil))) am_nil)) (len_cons (len_cons len_nil))) am_nil))) (len_cons (len_cons (len_cons len_nil))))))
  ssm_nil)
  (ssm_cons (sm_if (tm_eq hu4 (em_var 4) em_str)
  (ssm_one (sm_ret (em_tup (am_cons em_non (am_cons (em_add (em_var 1) em_int) (am_cons (em_tup (am_cons em_str (am_cons (em_call (w_add XI G c TB) hr (by decide) rfl (g_add XI G c) tk (am_cons (em_var 3) (am_cons (em_mod (em_ix hu1 (em_var 0) em_int) (em_globI rfl (i_WORD XI G c))) am_nil))) (am_cons (em_var 2) am_nil))) (len_cons (len_cons (len_cons len_nil)))) am_nil))) (len_cons (len_cons (len_cons len_nil))))))
  ssm_nil)
  (ssm_cons (sm_if (tm_in hu5 (em_var 4) (em_glob (d := d_BRANCH) (v := .ref (He.ga K "BRANCH")) rfl (g_BRANCH XI G c) rfl (dv_BRANCH XI G c)))
  (ssm_one (sm_ret (em_tup (am_cons em_non (am_cons (em_if (tm_tru (em_call (w_is_taken XI G c TB) hr (by decide) rfl (g_is_taken XI G c) tk (am_cons (em_var 0) (am_cons (em_var 2) (am_cons (em_var 3) am_nil))))) (em_add (em_var 1) (em_ix hu1 (em_var 0) em_int)) (em_add (em_var 1) em_int)) (am_cons em_non am_nil))) (len_cons (len_cons (len_cons len_nil))))))
  ssm_nil)
  (ssm_cons (sm_if (tm_eq hu4 (em_var 4) em_str)
  (ssm_one (sm_ret (em_tup (am_cons (em_add (em_var 1) em_int) (am_cons (em_add (em_var 1) (em_ix hu1 (em_var 0) em_int)) (am_cons em_non am_nil))) (len_cons (len_cons (len_cons len_nil))))))
  ssm_nil)
  (ssm_cons (sm_if (tm_eq hu4 (em_var 4) em_str)
  (ssm_one (sm_ret (em_tup (am_cons (em_add (em_var 1) em_int) (am_cons (em_call (w_add XI G c TB) hr (by decide) rfl (g_add XI G c) tk (am_cons (em_var 2) (am_cons (em_mod (em_ix hu1 (em_var 0) em_int) (em_globI rfl (i_WORD XI G c))) am_nil))) (am_cons em_non am_nil))) (len_cons (len_cons (len_cons len_nil))))))
  ssm_nil)
  (ssm_one (sm_ret (em_tup (am_cons em_non (am_cons (em_add (em_var 1) em_int) (am_cons em_non am_nil))) (len_cons (len_cons (len_cons len_nil)))))))))))))))
def N_State_load : List Str := ["self", "address"]
omit XI G c TB in
theorem sc_State_load : FnScope N_State_load ["self", "address"] (defScope s_State_load) := ⟨rfl, rfl, rfl, by decide +kernel, rfl, by decide +kernel, by decide +kernel⟩
theorem w_State_load : FunM P w K mg base (tabT K tf) 1 (He.ma K (He.ga K "State") "load") 2 f_State_load := by
  obtain ⟨fd, F⟩ := c.d.def_ 38 (d := df_State_load) rfl
  rw [f_State_load_eq]
  refine def_m (k := 0) (N := N_State_load) F sc_State_load (fun _ _ _ _ _ _ us hl => match us, hl with | [_, _], _ => rfl) fun cdv  A outer s H E hr tk hp => ?_
  have hu1 := hu_of hr
  have hu4 := hr.units
  have hu5 := hu65 hr
  have nd := sc_State_load.nd
  exact (ssm_cons (sm_if (tm_eq hu4 (em_var 1) (em_globI rfl (i_IN XI G c)))
  (ssm_one (sm_ret (em_tup (am_cons (em_if (tm_ne hu4 (em_fld (fo_incoming XI G c) (em_var 0)) (em_tup am_nil len_nil)) (em_ix hu1 (em_fld (fo_incoming XI G c) (em_var 0)) em_int) em_int) (am_cons em_bl am_nil)) (len_cons (len_cons len_nil)))))
  ssm_nil)
  (ssm_cons (sm_if (tm_ge (em_var 1) (em_globI rfl (i_SIZE XI G c)))
  (ssm_one (sm_ret (em_tup (am_cons em_int (am_cons em_bl am_nil)) (len_cons (len_cons len_nil)))))
  ssm_nil)
  (ssm_one (sm_ret (em_tup (am_cons (em_ix hu1 (em_fld (fo_memory XI G c) (em_var 0)) (em_var 1)) (am_cons em_bl am_nil)) (len_cons (len_cons len_nil)))))))
def N_State_taken_in : List Str := ["self", "address"]
omit XI G c TB in
theorem sc_State_taken_in : FnScope N_State_taken_in ["self", "address"] (defScope s_State_taken_in) := ⟨rfl, rfl, rfl, by decide +kernel, rfl, by decide +kernel, by decide +kernel⟩
theorem w_State_taken_in : FunM P w K mg base (tabT K tf) 1 (He.ma K (He.ga K "State") "taken_in") 2 f_State_taken_in := by
  obtain ⟨fd, F⟩ := c.d.def_ 39 (d := df_State_taken_in) rfl
  rw [f_State_taken_in_eq]
  refine def_m (k := 0) (N := N_State_taken_in) F sc_State_taken_in (fun _ _ _ _ _ _ us hl => match us, hl with | [_, _], _ => rfl) fun cdv  A outer s H E hr tk hp => ?_
  have hu1 := hu_of hr
  have hu4 := hr.units
  have hu5 := hu65 hr
  have nd := sc_State_taken_in.nd
  exact (ssm_one (sm_if (tm_eq hu4 (em_var 1) (em_globI rfl (i_IN XI G c)))
  (ssm_one (sm_fld (fo_incoming XI G c) (em_var 0) (em_sl (em_fld (fo_incoming XI G c) (em_var 0)) (om_some em_int) om_none)))
  ssm_nil))
def N_State_store : List Str := ["self", "address", "word"]
omit XI G c TB in
theorem sc_State_store : FnScope N_State_store ["self", "address", "word"] (defScope s_State_store) := ⟨rfl, rfl, rfl, by decide +kernel, rfl, by decide +kernel, by decide +kernel⟩
theorem w_State_store : FunM P w K mg base (tabT K tf) 1 (He.ma K (He.ga K "State") "store") 3 f_State_store := by
  obtain ⟨fd, F⟩ := c.d.def_ 40 (d := df_State_store) rfl
  rw [f_State_store_eq]
  refine def_m (k := 0) (N := N_State_store) F sc_State_store (fun _ _ _ _ _ _ us hl => match us, hl with | [_, _, _], _ => rfl) fun cdv  A outer s H E hr tk hp => ?_
  have hu1 := hu_of hr
  have hu4 := hr.units
  have hu5 := hu65 hr
  have nd := sc_State_store.nd
  exact (ssm_cons (sm_if (tm_ge (em_var 1) (em_globI rfl (i_SIZE XI G c)))
  (ssm_one (sm_ret em_bl))
  ssm_nil)
  (ssm_cons (sm_if (tm_eq hu4 (em_var 1) (em_globI rfl (i_OUT XI G c)))
  (ssm_one (sm_fld (fo_out XI G c) (em_var 0) (em_add (em_fld (fo_out XI G c) (em_var 0)) (em_tup (am_cons (em_var 2) am_nil) (len_cons len_nil)))))
  (ssm_one (sm_if (tm_ne hu4 (em_var 1) (em_globI rfl (i_IN XI G c)))
  (ssm_one (sm_asg (gm_sub hu1 (em_fld (fo_memory XI G c) (em_var 0)) (em_var 1)) (em_var 2)))
  ssm_nil)))
  (ssm_one (sm_ret em_bl))))
def N_writes : List Str := ["order", "name"]
omit XI G c TB in
theorem sc_writes : FnScope N_writes ["order"] (defScope s_writes) := ⟨rfl, rfl, rfl, by decide +kernel, rfl, by decide +kernel, by decide +kernel⟩
theorem w_writes : FunM P w K mg base (tabT K tf) 1 (He.ga K "writes") 1 f_writes := by
  obtain ⟨fd, F⟩ := c.d.def_ 41 (d := df_writes) rfl
  rw [f_writes_eq]
  refine def_m (k := 0) (N := N_writes) F sc_writes (fun _ _ _ _ _ _ us hl => match us, hl with | [_], _ => rfl) fun cdv  A outer s H E hr tk hp => ?_
  have hu1 := hu_of hr
  have hu4 := hr.units
  have hu5 := hu65 hr
  have nd := sc_writes.nd
  exact (ssm_cons (sm_set 1 nd (em_ix hu1 (em_var 0) em_int))
  (ssm_cons (sm_if (tm_wm (wm_or (tm_in hu5 (em_var 1) (em_glob (d := d_THREE) (v := .ref (He.ga K "THREE")) rfl (g_THREE XI G c) rfl (dv_THREE XI G c))) (wm_or (tm_in hu5 (em_var 1) (em_glob (d := d_TWO) (v := .ref (He.ga K "TWO")) rfl (g_TWO XI G c) rfl (dv_TWO XI G c))) (wm_or1 (tm_in hu5 (em_var 1) (em_tup (am_cons em_str (am_cons em_str (am_cons em_str (am_cons em_str am_nil)))) (len_cons (len_cons (len_cons (len_cons len_nil))))))))))
  (ssm_one (sm_ret (em_if (tm_ne hu4 (em_ix hu1 (em_var 0) em_int) em_int) (em_ix hu1 (em_var 0) em_int) em_non)))
  ssm_nil)
  (ssm_one (sm_ret em_non))))
def N_step : List Str := ["state", "order", "a", "b", "word", "there", "deed", "fine"]
omit XI G c TB in
theorem sc_step : FnScope N_step ["state"] (defScope s_step) := ⟨rfl, rfl, rfl, by decide +kernel, rfl, by decide +kernel, by decide +kernel⟩
theorem w_step : FunM P w K mg base (tabT K tf) 6 (He.ga K "step") 1 f_step := by
  obtain ⟨fd, F⟩ := c.d.def_ 42 (d := df_step) rfl
  rw [f_step_eq]
  refine def_m (k := 5) (N := N_step) F sc_step (fun _ _ _ _ _ _ us hl => match us, hl with | [_], _ => rfl) fun cdv  A outer s H E hr tk hp => ?_
  have hu1 := hu_of hr
  have hu4 := hr.units
  have hu5 := hu65 hr
  have nd := sc_step.nd
  exact (ssm_cons (sm_if (tm_isnot (em_fld (fo_ended XI G c) (em_var 0)) em_non)
  (ssm_one sm_retN)
  ssm_nil)
  (ssm_cons (sm_if (tm_not (tm_chain op_le o2_B0 op_lt o2_B0 em_int (em_fld (fo_place XI G c) (em_var 0)) (em_callB cr_len oc_len rfl (n_len XI G c) (am_cons (em_fld (fo_program XI G c) (em_var 0)) am_nil) rfl)))
  (ssm_cons (sm_fld (fo_ended XI G c) (em_var 0) (em_tup (am_cons em_str (am_cons (em_fld (fo_place XI G c) (em_var 0)) am_nil)) (len_cons (len_cons len_nil))))
  (ssm_one sm_retN))
  ssm_nil)
  (ssm_cons (sm_set 1 nd (em_ix hu1 (em_fld (fo_program XI G c) (em_var 0)) (em_fld (fo_place XI G c) (em_var 0))))
  (ssm_cons (sm_flda (fo_count XI G c) iop_add o2_I0 (em_var 0) em_int)
  (ssm_cons (sm_if (tm_eq hu4 (em_ix hu1 (em_var 1) em_int) em_str)
  (ssm_cons (sm_fld (fo_ended XI G c) (em_var 0) (em_tup (am_cons em_str am_nil) (len_cons len_nil)))
  (ssm_one sm_retN))
  ssm_nil)
  (ssm_cons (sm_if (tm_eq hu4 (em_ix hu1 (em_var 1) em_int) em_str)
  (ssm_cons (sm_expr (em_call (w_call XI G c TB) hr (by decide) rfl (g_call XI G c) tk (am_cons (em_var 0) (am_cons (em_ix hu1 (em_var 1) em_int) am_nil))))
  (ssm_one sm_retN))
  ssm_nil)
  (ssm_cons (sm_if (tm_eq hu4 (em_ix hu1 (em_var 1) em_int) em_str)
  (ssm_cons (sm_fld (fo_place XI G c) (em_var 0) (em_fld (fo_return_place XI G c) (em_var 0)))
  (ssm_one sm_retN))
  ssm_nil)
  (ssm_cons (sm_asg (gm_unp rfl (gsm_cons (gm_name 2 nd) (gsm_cons (gm_name 3 nd) gsm_nil))) (em_call (w_words_for XI G c TB) hr (by decide) rfl (g_words_for XI G c) tk (am_cons (em_var 1) (am_cons (em_fld (fo_registers XI G c) (em_var 0)) am_nil))))
  (ssm_cons (sm_asg (gm_unp rfl (gsm_cons (gm_name 4 nd) (gsm_cons (gm_name 5 nd) (gsm_cons (gm_name 6 nd) gsm_nil)))) (em_call (w_effect XI G c TB) hr (by decide) rfl (g_effect XI G c) tk (am_cons (em_var 1) (am_cons (em_fld (fo_place XI G c) (em_var 0)) (am_cons (em_var 2) (am_cons (em_var 3) am_nil))))))
  (ssm_cons (sm_if (tm_wm (wm_and (tm_isnot (em_var 6) em_non) (wm_and1 (tm_eq hu4 (em_ix hu1 (em_var 6) em_int) em_str))))
  (ssm_cons (sm_asg (gm_unp rfl (gsm_cons (gm_name 4 nd) (gsm_cons (gm_name 7 nd) gsm_nil))) (em_meth (He.cls_ok (c_State c)) (He.meth_ok (m_State_load c)) (w_State_load XI G c TB) hr (by decide) (g_State XI G c) tk (em_var 0) (am_cons (em_ix hu1 (em_var 6) em_int) am_nil)))
  (ssm_cons (sm_if (tm_not (tm_tru (em_var 7)))
  (ssm_cons (sm_expr (em_meth (He.cls_ok (c_State c)) (He.meth_ok (m_State_fault c)) (w_State_fault XI G c TB) hr (by decide) (g_State XI G c) tk (em_var 0) (am_cons em_int am_nil)))
  (ssm_one sm_retN))
  ssm_nil)
  (ssm_one (sm_expr (em_meth (He.cls_ok (c_State c)) (He.meth_ok (m_State_taken_in c)) (w_State_taken_in XI G c TB) hr (by decide) (g_State XI G c) tk (em_var 0) (am_cons (em_ix hu1 (em_var 6) em_int) am_nil))))))
  ssm_nil)
  (ssm_cons (sm_if (tm_wm (wm_and (tm_isnot (em_var 6) em_non) (wm_and (tm_eq hu4 (em_ix hu1 (em_var 6) em_int) em_str) (wm_and1 (tm_not (tm_tru (em_meth (He.cls_ok (c_State c)) (He.meth_ok (m_State_store c)) (w_State_store XI G c TB) hr (by decide) (g_State XI G c) tk (em_var 0) (am_cons (em_ix hu1 (em_var 6) em_int) (am_cons (em_ix hu1 (em_var 6) em_int) am_nil)))))))))
  (ssm_cons (sm_expr (em_meth (He.cls_ok (c_State c)) (He.meth_ok (m_State_fault c)) (w_State_fault XI G c TB) hr (by decide) (g_State XI G c) tk (em_var 0) (am_cons em_int am_nil)))
  (ssm_one sm_retN))
  ssm_nil)
  (ssm_cons (sm_expr (em_meth (He.cls_ok (c_State c)) (He.meth_ok (m_State_put c)) (w_State_put XI G c TB) hr (by decide) (g_State XI G c) tk (em_var 0) (am_cons (em_call (w_writes XI G c TB) hr (by decide) rfl (g_writes XI G c) tk (am_cons (em_var 1) am_nil)) (am_cons (em_var 4) am_nil))))
  (ssm_one (sm_fld (fo_place XI G c) (em_var 0) (em_var 5)))))))))))))))
def N_State_seen : List Str := ["self"]
omit XI G c TB in
theorem sc_State_seen : FnScope N_State_seen ["self"] (defScope s_State_seen) := ⟨rfl, rfl, rfl, by decide +kernel, rfl, by decide +kernel, by decide +kernel⟩
theorem w_State_seen : FunM P w K mg base (tabT K tf) 1 (He.ma K (He.ga K "State") "seen") 1 f_State_seen := by
  obtain ⟨fd, F⟩ := c.d.def_ 43 (d := df_State_seen) rfl
  rw [f_State_seen_eq]
  refine def_m (k := 0) (N := N_State_seen) F sc_State_seen (fun _ _ _ _ _ _ us hl => match us, hl with | [_], _ => rfl) fun cdv  A outer s H E hr tk hp => ?_
  have hu1 := hu_of hr
  have hu4 := hr.units
  have hu5 := hu65 hr
  have nd := sc_State_seen.nd
  exact (ssm_one (sm_ret (em_tup (am_cons (em_fld (fo_place XI G c) (em_var 0)) (am_cons (em_callTy call_tuple_of oc_tuple rfl (n_tuple XI G c) (am_cons (em_fld (fo_registers XI G c) (em_var 0)) am_nil) rfl) (am_cons (em_callTy call_tuple_of oc_tuple rfl (n_tuple XI G c) (am_cons (em_fld (fo_memory XI G c) (em_var 0)) am_nil) rfl) (am_cons (em_fld (fo_out XI G c) (em_var 0)) (am_cons (em_fld (fo_incoming XI G c) (em_var 0)) (am_cons (em_fld (fo_cause XI G c) (em_var 0)) (am_cons (em_fld (fo_return_place XI G c) (em_var 0)) (am_cons (em_fld (fo_handler XI G c) (em_var 0)) (am_cons (em_fld (fo_ended XI G c) (em_var 0)) am_nil))))))))) (len_cons (len_cons (len_cons (len_cons (len_cons (len_cons (len_cons (len_cons (len_cons len_nil))))))))))))
def N_run : List Str := ["program", "incoming", "most", "state"]
omit XI G c TB in
theorem sc_run : FnScope N_run ["program", "incoming", "most"] (defScope s_run) := ⟨rfl, rfl, rfl, by decide +kernel, rfl, by decide +kernel, by decide +kernel⟩
theorem w_run : FunM P w K mg base (tabT K tf) 7 (He.ga K "run") 3 f_run := by
  obtain ⟨fd, F⟩ := c.d.def_ 44 (d := df_run) rfl
  rw [f_run_eq]
  refine def_m (k := 6) (N := N_run) F sc_run (fun _ _ _ _ _ _ us hl => match us, hl with | [_, _, _], _ => rfl) fun cdv  A outer s H E hr tk hp => ?_
  have hu1 := hu_of hr
  have hu4 := hr.units
  have hu5 := hu65 hr
  have nd := sc_run.nd
  exact (ssm_cons (sm_set 3 nd (em_make (He.mkr_ok (k_State c)) (w_State___init__ XI G c TB) hr (by decide) rfl (g_State XI G c) tk (am_cons (em_var 0) (am_cons (em_var 1) am_nil))))
  (ssm_cons (sm_while hp (tm_is (em_fld (fo_ended XI G c) (em_var 3)) em_non)
  (ssm_cons (sm_if (tm_ge (em_fld (fo_count XI G c) (em_var 3)) (em_var 2))
  (ssm_one (sm_raise rfl tk PySem.F.excBase_ValueError (He.exc_ok (x_TooLarge c)).1 (g_TooLarge XI G c) (He.exc_ok (x_TooLarge c)).2.1 (raises_own (He.exc_ok (x_TooLarge c)).2.2.1 (He.exc_ok (x_TooLarge c)).2.2.2) rfl))
  ssm_nil)
  (ssm_one (sm_expr (em_call (w_step XI G c TB) hr (by decide) rfl (g_step XI G c) tk (am_cons (em_var 3) am_nil))))))
  (ssm_one (sm_ret (em_var 3)))))
def N_trace : List Str := ["program", "incoming", "most", "state", "found"]
omit XI G c TB in
theorem sc_trace : FnScope N_trace ["program", "incoming", "most"] (defScope s_trace) := ⟨rfl, rfl, rfl, by decide +kernel, rfl, by decide +kernel, by decide +kernel⟩
theorem w_trace : FunM P w K mg base (tabT K tf) 7 (He.ga K "trace") 3 f_trace := by
  obtain ⟨fd, F⟩ := c.d.def_ 45 (d := df_trace) rfl
  rw [f_trace_eq]
  refine def_m (k := 6) (N := N_trace) F sc_trace (fun _ _ _ _ _ _ us hl => match us, hl with | [_, _, _], _ => rfl) fun cdv  A outer s H E hr tk hp => ?_
  have hu1 := hu_of hr
  have hu4 := hr.units
  have hu5 := hu65 hr
  have nd := sc_trace.nd
  exact (ssm_cons (sm_par 3 4 rfl nd (am_cons (em_make (He.mkr_ok (k_State c)) (w_State___init__ XI G c TB) hr (by decide) rfl (g_State XI G c) tk (am_cons (em_var 0) (am_cons (em_var 1) am_nil))) (am_cons (em_lst am_nil len_nil) am_nil)))
  (ssm_cons (sm_while hp (tm_wm (wm_and (tm_is (em_fld (fo_ended XI G c) (em_var 3)) em_non) (wm_and1 (tm_lt (em_callB cr_len oc_len rfl (n_len XI G c) (am_cons (em_var 4) am_nil) rfl) (em_var 2)))))
  (ssm_cons (sm_expr (em_bm PySem.F.plainAttrs_list PySem.F.slot_list_append PySem.F.type_list_append mt_append tyL om_append (em_var 4) (am_cons (em_tup (am_cons (em_fld (fo_place XI G c) (em_var 3)) (am_cons (em_meth0 (He.cls_ok (c_State c)) (He.meth_ok (m_State_seen c)) (w_State_seen XI G c TB) hr (by decide) (g_State XI G c) tk (em_var 3)) am_nil)) (len_cons (len_cons len_nil))) am_nil)))
  (ssm_one (sm_expr (em_call (w_step XI G c TB) hr (by decide) rfl (g_step XI G c) tk (am_cons (em_var 3) am_nil))))))
  (ssm_one (sm_ret (em_callTy call_tuple_of oc_tuple rfl (n_tuple XI G c) (am_cons (em_var 4) am_nil) rfl)))))
def N_law : List Str := ["script", "dice", "program", "incoming", "there", "mine", "count", "answer", "rows", "k"]
omit XI G c TB in
theorem sc_law : FnScope N_law ["script"] (defScope s_law) := ⟨rfl, rfl, rfl, by decide +kernel, rfl, by decide +kernel, by decide +kernel⟩
omit XI G c TB in
theorem F_law (c : Cf K) : ∃ fd, FunD K "law" "law" (defArgs s_law) (defBody s_law) (defScope s_law) [] [] (He.ga K "law") fd := c.d.def_ 46 (d := df_law) rfl
theorem ok_law {fd : FuncData} (F : FunD K "law" "law" (defArgs s_law) (defBody s_law) (defScope s_law) [] [] (He.ga K "law") fd) : FnOk P w K mg base (L2.CX P w) 10 (He.ga K "law") fd ["script"] (spM ⟨K, mg, (tabT K tf)⟩ f_law 1) := by
  refine def_okT (p := ("law", none)) (k := 9) (N := N_law) F sc_law fun cdv hcd A outer s H E hr tk hp => ?_
  have hu1 := hu_of hr
  have hu4 := hr.units
  have hu5 := hu65 hr
  have nd := sc_law.nd
  exact (ssm_cons (sm_for hp rfl (im_any (em_call (w__law_rounds XI G c TB) hr (by decide) rfl (g__law_rounds XI G c) tk (am_cons (em_var 0) (am_cons em_int am_nil)))) (gm_name 1 nd)
  (ssm_cons (sm_set 2 nd (em_call (w__law_program XI G c TB) hr (by decide) rfl (g__law_program XI G c) tk (am_cons (em_var 1) (am_cons em_int (am_cons em_int am_nil)))))
  (ssm_cons (sm_set 3 nd (em_lc [("k", 9)] rfl nd (im_range1 rfl (n_range XI G c) (am_cons (em_call (w__law_roll XI G c TB) hr (by decide) rfl (g__law_roll XI G c) tk (am_cons (em_var 1) (am_cons em_int am_nil))) am_nil)) (blkOk_by rfl) (fun _ _ _ _ _ => (gw_name 9 nd)) (fun _ _ _ _ _ => tsm_nil) (fun _ _ _ _ _ => (em_call (w__law_roll XI G c TB) hr (by decide) rfl (g__law_roll XI G c) takesF (am_cons (em_var 1) (am_cons em_int am_nil))))))
  (ssm_cons (sm_set 4 nd (em_make (He.mkr_ok (k_State c)) (w_State___init__ XI G c TB) hr (by decide) rfl (g_State XI G c) tk (am_cons (em_var 2) (am_cons (em_var 3) am_nil))))
  (ssm_cons (sm_set 5 nd (em_lst (am_cons em_int (am_cons (em_mul (em_lst (am_cons em_int am_nil) (len_cons len_nil)) em_int) (am_cons (em_mul (em_lst (am_cons em_int am_nil) (len_cons len_nil)) em_int) (am_cons (em_lst am_nil len_nil) (am_cons (em_callTy call_list_of oc_list rfl (n_list XI G c) (am_cons (em_var 3) am_nil) rfl) (am_cons em_int (am_cons em_int (am_cons em_non (am_cons em_non am_nil))))))))) (len_cons (len_cons (len_cons (len_cons (len_cons (len_cons (len_cons (len_cons (len_cons len_nil)))))))))))
  (ssm_cons (sm_set 6 nd em_int)
  (ssm_cons (sm_while hp (tm_wm (wm_and (tm_is (em_ix hu1 (em_var 5) em_int) em_non) (wm_and1 (tm_lt (em_var 6) em_int))))
  (ssm_cons (sm_if (tm_not (tm_chain op_le o2_B0 op_lt o2_B0 em_int (em_ix hu1 (em_var 5) em_int) (em_callB cr_len oc_len rfl (n_len XI G c) (am_cons (em_var 2) am_nil) rfl)))
  (ssm_one (sm_asg (gm_sub hu1 (em_var 5) em_int) (em_tup (am_cons em_str (am_cons (em_ix hu1 (em_var 5) em_int) am_nil)) (len_cons (len_cons len_nil)))))
  (ssm_cons (sm_expr (em_call (w__law_do XI G c TB) hr (by decide) rfl (g__law_do XI G c) tk (am_cons (em_var 5) (am_cons (em_ix hu1 (em_var 2) (em_ix hu1 (em_var 5) em_int)) (am_cons (em_var 2) am_nil)))))
  (ssm_one (sm_set 6 nd (em_add (em_var 6) em_int)))))
  (ssm_cons (sm_expr (em_call (w_step XI G c TB) hr (by decide) rfl (g_step XI G c) tk (am_cons (em_var 4) am_nil)))
  (ssm_one (sm_if (tm_ne hu4 (em_meth0 (He.cls_ok (c_State c)) (He.meth_ok (m_State_seen c)) (w_State_seen XI G c TB) hr (by decide) (g_State XI G c) tk (em_var 4)) (em_tup (am_cons (em_ix hu1 (em_var 5) em_int) (am_cons (em_callTy call_tuple_of oc_tuple rfl (n_tuple XI G c) (am_cons (em_ix hu1 (em_var 5) em_int) am_nil) rfl) (am_cons (em_callTy call_tuple_of oc_tuple rfl (n_tuple XI G c) (am_cons (em_ix hu1 (em_var 5) em_int) am_nil) rfl) (am_cons (em_callTy call_tuple_of oc_tuple rfl (n_tuple XI G c) (am_cons (em_ix hu1 (em_var 5) em_int) am_nil) rfl) (am_cons (em_callTy call_tuple_of oc_tuple rfl (n_tuple XI G c) (am_cons (em_ix hu1 (em_var 5) em_int) am_nil) rfl) (am_cons (em_ix hu1 (em_var 5) em_int) (am_cons (em_ix hu1 (em_var 5) em_int) (am_cons (em_ix hu1 (em_var 5) em_int) (am_cons (em_ix hu1 (em_var 5) em_int) am_nil))))))))) (len_cons (len_cons (len_cons (len_cons (len_cons (len_cons (len_cons (len_cons (len_cons len_nil)))))))))))
  (ssm_one (sm_ret em_bl))
  ssm_nil)))))
  (ssm_cons (sm_set 7 nd (em_told (k := 7) (td XI G c) rfl (g__law_told XI G c) (TB (tfp_0) (tfm 0)) hcd (tab_mem (tfm 0)) (tab_uniq (tnd c) (tfm 0)) hr (by decide) (fun A outer s H E f c' hr tk => have hu1 := hu_of hr; have hu4 := hr.units; have hu5 := hu65 hr; (em_call (w_run XI G c TB) hr (by decide) rfl (g_run XI G c) tk (am_cons (em_var 2) (am_cons (em_var 3) (am_cons em_int am_nil)))))))
  (ssm_cons (sm_if (tm_wm (wm_and (tm_isnot (em_ix hu1 (em_var 5) em_int) em_non) (wm_and1 (tm_wm (wm_or (tm_eqI (noeq_State XI G c) hu4 (em_var 7) em_str) (wm_or (tm_ne hu4 (em_meth0 (He.cls_ok (c_State c)) (He.meth_ok (m_State_seen c)) (w_State_seen XI G c TB) hr (by decide) (g_State XI G c) tk (em_var 7)) (em_meth0 (He.cls_ok (c_State c)) (He.meth_ok (m_State_seen c)) (w_State_seen XI G c TB) hr (by decide) (g_State XI G c) tk (em_var 4))) (wm_or1 (tm_ne hu4 (em_fld (fo_count XI G c) (em_var 7)) (em_var 6)))))))))
  (ssm_one (sm_ret em_bl))
  ssm_nil)
  (ssm_cons (sm_set 8 nd (em_call (w_trace XI G c TB) hr (by decide) rfl (g_trace XI G c) tk (am_cons (em_var 2) (am_cons (em_var 3) (am_cons em_int am_nil)))))
  (ssm_cons (sm_if (tm_wm (wm_or (tm_ne hu4 (em_ix hu1 (em_ix hu1 (em_var 8) em_int) em_int) em_int) (wm_or1 (tm_gt (em_callB cr_len oc_len rfl (n_len XI G c) (am_cons (em_var 8) am_nil) rfl) em_int))))
  (ssm_one (sm_ret em_bl))
  ssm_nil)
  (ssm_cons (sm_if (tm_wm (wm_and (tm_gt (em_var 6) em_int) (wm_and (tm_isnot (em_ix hu1 (em_var 5) em_int) em_non) (wm_and (tm_ne hu4 (em_ix hu1 (em_ix hu1 (em_var 5) em_int) em_int) em_str) (wm_and1 (tm_ne hu4 (em_callB cr_len oc_len rfl (n_len XI G c) (am_cons (em_var 8) am_nil) rfl) (em_var 6)))))))
  (ssm_one (sm_ret em_bl))
  ssm_nil)
  (ssm_cons (sm_if (tm_wm (wm_and (tm_gt (em_var 6) em_int) (wm_and1 (tm_ne hu4 (em_told (k := 7) (td XI G c) rfl (g__law_told XI G c) (TB (tfp_0) (tfm 0)) hcd (tab_mem (tfm 0)) (tab_uniq (tnd c) (tfm 0)) hr (by decide) (fun A outer s H E f c' hr tk => have hu1 := hu_of hr; have hu4 := hr.units; have hu5 := hu65 hr; (em_call (w_run XI G c TB) hr (by decide) rfl (g_run XI G c) tk (am_cons (em_var 2) (am_cons (em_var 3) (am_cons em_int am_nil)))))) em_str))))
  (ssm_one (sm_ret em_bl))
  ssm_nil)
  (ssm_cons (sm_if (tm_ne hu4 (em_told (k := 7) (td XI G c) rfl (g__law_told XI G c) (TB (tfp_0) (tfm 0)) hcd (tab_mem (tfm 0)) (tab_uniq (tnd c) (tfm 0)) hr (by decide) (fun A outer s H E f c' hr tk => have hu1 := hu_of hr; have hu4 := hr.units; have hu5 := hu65 hr; (em_call (w_run XI G c TB) hr (by decide) rfl (g_run XI G c) tk (am_cons (em_tup am_nil len_nil) (am_cons (em_tup am_nil len_nil) (am_cons em_int am_nil)))))) em_str)
  (ssm_one (sm_ret em_bl))
  ssm_nil)
  (ssm_one (sm_if (tm_ne hu4 (em_told (k := 7) (td XI G c) rfl (g__law_told XI G c) (TB (tfp_0) (tfm 0)) hcd (tab_mem (tfm 0)) (tab_uniq (tnd c) (tfm 0)) hr (by decide) (fun A outer s H E f c' hr tk => have hu1 := hu_of hr; have hu4 := hr.units; have hu5 := hu65 hr; (em_call (w_run XI G c TB) hr (by decide) rfl (g_run XI G c) tk (am_cons (em_var 2) (am_cons (em_tup (am_cons em_int am_nil) (len_cons len_nil)) (am_cons em_int am_nil)))))) em_str)
  (ssm_one (sm_ret em_bl))
  ssm_nil))))))))))))))))
  (ssm_one (sm_ret em_bl)))
end
end
open HandSHeadRun PySem.W in
def RunA9 (r : OpenRow) (q : Program) (M : Nat) (loose : List PySem.Str) (w : World) : Prop :=
  ∀ os : OsState, (endF (stepQ (denQ tabQ) r.prog w) M r.prog w os).map (fun s => (looksF r.prog (boot_heap w.params) s.abs, seenQ q loose (importedModules r.prog.main.body) (fun s => xlAt q [] s && recOk r.toRowW.records s) s.abs)) = some (true, openGood q loose)
open HandSHeadRun PySem.W in
def RunB9 (r : OpenRow) (H : Hook) (ob : SharedT → H.α) (M : Nat) (w : World) : Prop :=
  ∀ os : OsState, (endF (stepQ (denQ tabQ) r.prog w) M r.prog w os).map ob = some (H.val w)
open HandSHeadRun PySem.W in
theorem run_join9 {r : OpenRow} {q : Program} {H : Hook} {ob : SharedT → H.α} {M : Nat} {loose : List PySem.Str} {w : World} (a : RunA9 r q M loose w) (b : RunB9 r H ob M w) : RunEq r q H ob M loose w := fun os => by
  have x := a os
  have y := b os
  revert x y
  cases endF (stepQ (denQ tabQ) r.prog w) M r.prog w os with
  | none => intro x; cases x
  | some s =>
    intro x y
    simp only [Option.map_some, Option.some.injEq] at x y ⊢
    injection x with x1 x2
    rw [x1, x2, y]
abbrev Rr : PySem.W.OpenRow := PySem.W.OpenLaw.row PySem.Challenge.rw_corehall_k03_a_plain_machine
def hk : PySem.W.Hook := He.hookX 6 fa fn [] (tf.map (·.1)) ex
def ob (s : PySem.W.SharedT) : He.AlX := He.obsX 6 fa fn [] (tf.map (·.1)) ex (HandSHeadRun.getT s)
theorem ob_eq (s : PySem.W.SharedT) : ob s = hk.obs s.abs := He.obsX_eq (HandSHeadRun.getT_eq s)
def loose : List PySem.Str := (([("CoreFault" : PySem.Str), ("BadOrder" : PySem.Str), ("BadProgram" : PySem.Str), ("NoWay" : PySem.Str), ("TooLarge" : PySem.Str), ("WORD" : PySem.Str), ("HALF" : PySem.Str), ("check_word" : PySem.Str), ("signed" : PySem.Str), ("bits_of" : PySem.Str), ("of_bits" : PySem.Str), ("add" : PySem.Str), ("less" : PySem.Str), ("times" : PySem.Str), ("shared" : PySem.Str), ("either" : PySem.Str), ("unlike" : PySem.Str), ("up" : PySem.Str), ("down" : PySem.Str), ("down_signed" : PySem.Str), ("is_less" : PySem.Str), ("is_below" : PySem.Str), ("THREE" : PySem.Str), ("TWO" : PySem.Str), ("BRANCH" : PySem.Str), ("REST" : PySem.Str), ("NAMES" : PySem.Str), ("shape" : PySem.Str), ("is_order" : PySem.Str), ("check_order" : PySem.Str), ("reads" : PySem.Str), ("writes" : PySem.Str), ("reckoned" : PySem.Str), ("is_taken" : PySem.Str), ("SIZE" : PySem.Str)] : List PySem.Str) ++ ([("OUT" : PySem.Str), ("IN" : PySem.Str), ("State" : PySem.Str), ("effect" : PySem.Str), ("step" : PySem.Str), ("call" : PySem.Str), ("words_for" : PySem.Str), ("run" : PySem.Str), ("trace" : PySem.Str), ("_law_dice" : PySem.Str), ("_law_roll" : PySem.Str), ("_law_rounds" : PySem.Str), ("_law_told" : PySem.Str), ("_law_order" : PySem.Str), ("_law_program" : PySem.Str), ("_law_number" : PySem.Str), ("_law_reckon" : PySem.Str), ("_law_do" : PySem.Str), ("_law_word" : PySem.Str), ("_law_memory" : PySem.Str), ("_law_fault" : PySem.Str)] : List PySem.Str))
theorem runA (w : World) : RunA9 Rr (PySem.W.view Rr.prog [61]) 20000 loose w := by
  intro os
  kernel_rfl
theorem runB (w : World) : RunB9 Rr hk ob 20000 w := by
  intro os
  kernel_rfl
theorem run (w : World) : HandSHeadRun.RunEq Rr (PySem.W.view Rr.prog [61]) hk ob 20000 loose w := run_join9 (runA w) (runB w)
theorem holds (hpl : ∀ n, PlainLaw f_law n) : PySem.Challenge.rw_corehall_k03_a_plain_machine.Holds := by
  w_on; o_law
  refine HandSHeadRun.head_any (r := PySem.W.OpenLaw.row PySem.Challenge.rw_corehall_k03_a_plain_machine) (q := PySem.W.view (PySem.W.OpenLaw.row PySem.Challenge.rw_corehall_k03_a_plain_machine).prog [61]) (H := hk) (ob := ob) (M := 20000) (loose := loose) (d := HandSHeadRun.topDef (PySem.W.OpenLaw.row PySem.Challenge.rw_corehall_k03_a_plain_machine).prog 61) (kwd := []) ob_eq
    (by kernel_rfl) (fun s => by kernel_rfl) run (by kernel_rfl) (by kernel_rfl) (by kernel_rfl) (by rfl) (by first | assumption | decide +kernel) (by kernel_rfl) ⟨rfl, rfl, rfl, rfl, rfl, by decide +kernel⟩ ?hw ?hc
  case hw => exact ⟨[.list []], by kernel_rfl, by kernel_rfl⟩
  case hc =>
    refine LamX.walk_ofTsE (l := PySem.Challenge.rw_corehall_k03_a_plain_machine) (n := 63) (k := 10) (x := "script") (CX := fun w => L2.CX (PySem.Challenge.rw_corehall_k03_a_plain_machine).prog w) rfl (by decide) (by kernel_rfl) ⟨rfl, by decide, by decide⟩ ?F (fun _ => cx_none)
    intro w mg fa h Y G hmg0
    obtain ⟨K, KX, cx⟩ := Y
    have c : Cf K := ⟨cx.t.d, cx.more⟩
    have hmg : mg ("law" : PySem.Str) = some (.ref fa) := by
      have e : (HandSHeadRun.topDef (PySem.W.OpenLaw.row PySem.Challenge.rw_corehall_k03_a_plain_machine).prog 61).name = ("law" : PySem.Str) := by kernel_rfl
      rw [← e]
      exact hmg0
    have e := hmg.symm.trans (g_law KX G c)
    cases e
    obtain ⟨fd, F⟩ := F_law c
    exact ⟨K, KX, lawAtT (tf := tf) KX cx.hd cx.out cx.empty F (fun _ _ _ _ _ _ us hl => match us, hl with | [_], _ => rfl) (hpl 63) fun base hb hg TB => ok_law hb hg c TB F⟩
end K03
end MM
namespace MM
namespace K03
open PySem L2
theorem bits_loop {f : Nat} : ∀ (ds : List D) (a : Int) (acc : List D) (h : Hm) (x : Option D), h[f]? = some (.lst acc) → acc.length + ds.length ≤ 1000 →
    ∃ y, forL [] (gN 2) l_bits_of_0 ds [some (.int a), some (.ref f), x] h = .next [some (.int (a / 2 ^ ds.length)), some (.ref f), y] (h.set f (.lst (acc ++ (bitsL ds.length a).map D.int)))
  | [], a, acc, h, x, e, hl => by
    refine ⟨x, ?_⟩
    rw [forL_nil gdOk_nil, List.length_nil, bitsL, List.map_nil, List.append_nil, set_self e, show (2 : Int) ^ 0 = 1 from rfl, Int.ediv_one]
  | d :: ds, a, acc, h, x, e, hl => by
    rw [List.length_cons] at hl
    have e2 : (h.set f (.lst (acc ++ [.int (a % 2)])))[f]? = some (.lst (acc ++ [.int (a % 2)])) := List.getElem?_set_self (List.getElem?_eq_some_iff.mp e).1
    obtain ⟨y, ih⟩ := bits_loop (f := f) ds (a / 2) (acc ++ [.int (a % 2)]) _ (some d) e2 (by rw [List.length_append, List.length_singleton]; omega)
    refine ⟨y, ?_⟩
    have ap := fAppend_ok (y := .int (a % 2)) e (lim_lt (by omega))
    have il := isL_ok e
    have fm : a.fmod 2 = a % 2 := Int.fmod_eq_emod_of_nonneg _ (by decide)
    have md := fMod_ok (x := a) (y := 2) (h := h) (by decide)
    rw [fm] at md
    refine forL_next (e1 := [some (.int a), some (.ref f), some d]) (e2 := [some (.int (a / 2)), some (.ref f), some d]) (h1 := h) gdOk_nil rfl ?_ (ih.trans ?_)
    · refine seq_next (e1 := [some (.int a), some (.ref f), some d]) (h1 := h.set f (.lst (acc ++ [.int (a % 2)]))) ?_ ?_
      · simp only [bind_ok, bind_exn, bindS_ok, bindS_exn, then_next, then_ret, then_brk, then_cont, then_exn, only_next, only_exn, run_nil, run_ret, run_retN, run_drop, run_if, run_asg, run_brk, run_cont, run_raise, run_gN, run_C, run_var, run_m2, run_lnil, run_lcons, run_tup, run_bool, run_tru, run_and, run_or, run_not, run_andV, run_orV, run_notV, run_ifE, run_chain, run_neg, run_sl, run_no, run_some, run_call, run_callF, run_meth, run_subM, run_par, run_par3, run_aug, run_itA, run_fld, run_fldM, run_tyes, fAdd_i, fSub_i, fLt_i, fLe_i, fGt_i, fGe_i, fEq_i, fNe_i, fAbs_i, fInt_i, fInt_b, fEq_s, fNe_s, fEq_b, fMax2_i, fMin2_i, fIAdd_i, fTru_b, fTru_i, run_methF, List.getElem?_cons_succ, List.getElem?_cons_zero, List.length_cons, List.length_nil, List.set_cons_succ, List.set_cons_zero, if_true, if_false, Bool.false_eq_true, Bool.not_true, Bool.not_false, decide_true, decide_false, ite_true, ite_false, Nat.zero_add, Nat.reduceAdd, oR, il, md, ap]
      · simp only [bind_ok, bind_exn, bindS_ok, bindS_exn, then_next, then_ret, then_brk, then_cont, then_exn, only_next, only_exn, run_nil, run_ret, run_retN, run_drop, run_if, run_asg, run_brk, run_cont, run_raise, run_gN, run_C, run_var, run_m2, run_lnil, run_lcons, run_tup, run_bool, run_tru, run_and, run_or, run_not, run_andV, run_orV, run_notV, run_ifE, run_chain, run_neg, run_sl, run_no, run_some, run_call, run_callF, run_meth, run_subM, run_par, run_par3, run_aug, run_itA, run_fld, run_fldM, run_tyes, fAdd_i, fSub_i, fLt_i, fLe_i, fGt_i, fGe_i, fEq_i, fNe_i, fAbs_i, fInt_i, fInt_b, fEq_s, fNe_s, fEq_b, fMax2_i, fMin2_i, fIAdd_i, fTru_b, fTru_i, run_methF, List.getElem?_cons_succ, List.getElem?_cons_zero, List.length_cons, List.length_nil, List.set_cons_succ, List.set_cons_zero, if_true, if_false, Bool.false_eq_true, Bool.not_true, Bool.not_false, decide_true, decide_false, ite_true, ite_false, Nat.zero_add, Nat.reduceAdd, oR]
        rfl
    · rw [List.set_set, List.length_cons, bitsL, List.map_cons, List.append_assoc, Int.pow_succ, Int.mul_comm, dd]
      rfl
theorem bits_run (a : Int) (h : Hm) : ∃ g, f_bits_of [.int a] h = .ok (.tup ((bitsL 16 a).map D.int)) (h ++ g) := by
  obtain ⟨y, L⟩ := bits_loop ((List.range 16).map (fun k : Nat => D.int (0 + (k : Int)))) a [] (h ++ [.lst []]) none get_new (by decide)
  refine ⟨[.lst ((bitsL 16 a).map D.int)], call_ret f_bits_of_eq rfl ?_⟩
  rw [List.length_map, List.length_range, List.nil_append, set_new] at L
  refine seq_next (e1 := [some (.int a), some (.ref h.length), none]) (h1 := h ++ [.lst []]) rfl (seq_next (for_run (rgc_run (n := 16) (by decide)) L) ?_)
  have t := fTuple_lst (h := h ++ [.lst ((bitsL 16 a).map D.int)]) get_new
  simp only [bind_ok, bind_exn, bindS_ok, bindS_exn, then_next, then_ret, then_brk, then_cont, then_exn, only_next, only_exn, run_nil, run_ret, run_retN, run_drop, run_if, run_asg, run_brk, run_cont, run_raise, run_gN, run_C, run_var, run_m2, run_lnil, run_lcons, run_tup, run_bool, run_tru, run_and, run_or, run_not, run_andV, run_orV, run_notV, run_ifE, run_chain, run_neg, run_sl, run_no, run_some, run_call, run_callF, run_meth, run_subM, run_par, run_par3, run_aug, run_itA, run_fld, run_fldM, run_tyes, fAdd_i, fSub_i, fLt_i, fLe_i, fGt_i, fGe_i, fEq_i, fNe_i, fAbs_i, fInt_i, fInt_b, fEq_s, fNe_s, fEq_b, fMax2_i, fMin2_i, fIAdd_i, fTru_b, fTru_i, run_methF, List.getElem?_cons_succ, List.getElem?_cons_zero, List.length_cons, List.length_nil, List.set_cons_succ, List.set_cons_zero, if_true, if_false, Bool.false_eq_true, Bool.not_true, Bool.not_false, decide_true, decide_false, ite_true, ite_false, Nat.zero_add, Nat.reduceAdd, oR, t]
theorem add_run (a b : Int) (h : Hm) : f_add [.int a, .int b] h = .ok (.int ((a + b) % 65536)) h := by
  have md := fMod_ok (x := a + b) (y := 65536) (h := h) (by decide)
  rw [fm16] at md
  refine call_ret f_add_eq rfl ?_
  unfold b_add
  simp only [bind_ok, bind_exn, bindS_ok, bindS_exn, then_next, then_ret, then_brk, then_cont, then_exn, only_next, only_exn, run_nil, run_ret, run_retN, run_drop, run_if, run_asg, run_brk, run_cont, run_raise, run_gN, run_C, run_var, run_m2, run_lnil, run_lcons, run_tup, run_bool, run_tru, run_and, run_or, run_not, run_andV, run_orV, run_notV, run_ifE, run_chain, run_neg, run_sl, run_no, run_some, run_call, run_callF, run_meth, run_subM, run_par, run_par3, run_aug, run_itA, run_fld, run_fldM, run_tyes, fAdd_i, fSub_i, fLt_i, fLe_i, fGt_i, fGe_i, fEq_i, fNe_i, fAbs_i, fInt_i, fInt_b, fEq_s, fNe_s, fEq_b, fMax2_i, fMin2_i, fIAdd_i, fTru_b, fTru_i, run_methF, List.getElem?_cons_succ, List.getElem?_cons_zero, List.length_cons, List.length_nil, List.set_cons_succ, List.set_cons_zero, if_true, if_false, Bool.false_eq_true, Bool.not_true, Bool.not_false, decide_true, decide_false, ite_true, ite_false, Nat.zero_add, Nat.reduceAdd, oR, startE, List.map_cons, List.map_nil, List.cons_append, md]
theorem less_run (a b : Int) (h : Hm) : f_less [.int a, .int b] h = .ok (.int ((a - b) % 65536)) h := by
  have md := fMod_ok (x := a - b) (y := 65536) (h := h) (by decide)
  rw [fm16] at md
  refine call_ret f_less_eq rfl ?_
  unfold b_less
  simp only [bind_ok, bind_exn, bindS_ok, bindS_exn, then_next, then_ret, then_brk, then_cont, then_exn, only_next, only_exn, run_nil, run_ret, run_retN, run_drop, run_if, run_asg, run_brk, run_cont, run_raise, run_gN, run_C, run_var, run_m2, run_lnil, run_lcons, run_tup, run_bool, run_tru, run_and, run_or, run_not, run_andV, run_orV, run_notV, run_ifE, run_chain, run_neg, run_sl, run_no, run_some, run_call, run_callF, run_meth, run_subM, run_par, run_par3, run_aug, run_itA, run_fld, run_fldM, run_tyes, fAdd_i, fSub_i, fLt_i, fLe_i, fGt_i, fGe_i, fEq_i, fNe_i, fAbs_i, fInt_i, fInt_b, fEq_s, fNe_s, fEq_b, fMax2_i, fMin2_i, fIAdd_i, fTru_b, fTru_i, run_methF, List.getElem?_cons_succ, List.getElem?_cons_zero, List.length_cons, List.length_nil, List.set_cons_succ, List.set_cons_zero, if_true, if_false, Bool.false_eq_true, Bool.not_true, Bool.not_false, decide_true, decide_false, ite_true, ite_false, Nat.zero_add, Nat.reduceAdd, oR, startE, List.map_cons, List.map_nil, List.cons_append, md]
theorem times_run (a b : Int) (h : Hm) (c : CMul a b) : f_times [.int a, .int b] h = .ok (.int ((a * b) % 65536)) h := by
  have md := fMod_ok (x := a * b) (y := 65536) (h := h) (by decide)
  have mu := fMul_ok (h := h) c
  rw [fm16] at md
  refine call_ret f_times_eq rfl ?_
  unfold b_times
  simp only [bind_ok, bind_exn, bindS_ok, bindS_exn, then_next, then_ret, then_brk, then_cont, then_exn, only_next, only_exn, run_nil, run_ret, run_retN, run_drop, run_if, run_asg, run_brk, run_cont, run_raise, run_gN, run_C, run_var, run_m2, run_lnil, run_lcons, run_tup, run_bool, run_tru, run_and, run_or, run_not, run_andV, run_orV, run_notV, run_ifE, run_chain, run_neg, run_sl, run_no, run_some, run_call, run_callF, run_meth, run_subM, run_par, run_par3, run_aug, run_itA, run_fld, run_fldM, run_tyes, fAdd_i, fSub_i, fLt_i, fLe_i, fGt_i, fGe_i, fEq_i, fNe_i, fAbs_i, fInt_i, fInt_b, fEq_s, fNe_s, fEq_b, fMax2_i, fMin2_i, fIAdd_i, fTru_b, fTru_i, run_methF, List.getElem?_cons_succ, List.getElem?_cons_zero, List.length_cons, List.length_nil, List.set_cons_succ, List.set_cons_zero, if_true, if_false, Bool.false_eq_true, Bool.not_true, Bool.not_false, decide_true, decide_false, ite_true, ite_false, Nat.zero_add, Nat.reduceAdd, oR, startE, List.map_cons, List.map_nil, List.cons_append, mu, md]
theorem signed_run (a : Int) (h : Hm) : f_signed [.int a] h = .ok (.int (sgn a)) h := by
  refine call_ret f_signed_eq rfl ?_
  unfold b_signed sgn
  by_cases c : 32768 ≤ a
  · simp only [bind_ok, bind_exn, bindS_ok, bindS_exn, then_next, then_ret, then_brk, then_cont, then_exn, only_next, only_exn, run_nil, run_ret, run_retN, run_drop, run_if, run_asg, run_brk, run_cont, run_raise, run_gN, run_C, run_var, run_m2, run_lnil, run_lcons, run_tup, run_bool, run_tru, run_and, run_or, run_not, run_andV, run_orV, run_notV, run_ifE, run_chain, run_neg, run_sl, run_no, run_some, run_call, run_callF, run_meth, run_subM, run_par, run_par3, run_aug, run_itA, run_fld, run_fldM, run_tyes, fAdd_i, fSub_i, fLt_i, fLe_i, fGt_i, fGe_i, fEq_i, fNe_i, fAbs_i, fInt_i, fInt_b, fEq_s, fNe_s, fEq_b, fMax2_i, fMin2_i, fIAdd_i, fTru_b, fTru_i, run_methF, List.getElem?_cons_succ, List.getElem?_cons_zero, List.length_cons, List.length_nil, List.set_cons_succ, List.set_cons_zero, if_true, if_false, Bool.false_eq_true, Bool.not_true, Bool.not_false, decide_true, decide_false, ite_true, ite_false, Nat.zero_add, Nat.reduceAdd, oR, startE, List.map_cons, List.map_nil, List.cons_append, c]
  · simp only [bind_ok, bind_exn, bindS_ok, bindS_exn, then_next, then_ret, then_brk, then_cont, then_exn, only_next, only_exn, run_nil, run_ret, run_retN, run_drop, run_if, run_asg, run_brk, run_cont, run_raise, run_gN, run_C, run_var, run_m2, run_lnil, run_lcons, run_tup, run_bool, run_tru, run_and, run_or, run_not, run_andV, run_orV, run_notV, run_ifE, run_chain, run_neg, run_sl, run_no, run_some, run_call, run_callF, run_meth, run_subM, run_par, run_par3, run_aug, run_itA, run_fld, run_fldM, run_tyes, fAdd_i, fSub_i, fLt_i, fLe_i, fGt_i, fGe_i, fEq_i, fNe_i, fAbs_i, fInt_i, fInt_b, fEq_s, fNe_s, fEq_b, fMax2_i, fMin2_i, fIAdd_i, fTru_b, fTru_i, run_methF, List.getElem?_cons_succ, List.getElem?_cons_zero, List.length_cons, List.length_nil, List.set_cons_succ, List.set_cons_zero, if_true, if_false, Bool.false_eq_true, Bool.not_true, Bool.not_false, decide_true, decide_false, ite_true, ite_false, Nat.zero_add, Nat.reduceAdd, oR, startE, List.map_cons, List.map_nil, List.cons_append, c]
theorem of_loop {gs : List (Nat × O)} {h : Hm} (hg : gdOk gs h = true) {x0 : Option D} : ∀ (l : List Int) (v : Int) (x : Option D), ∃ y, forL gs (gN 2) l_of_bits_0 (l.map D.int) [x0, some (.int v), x] h = .next [x0, some (.int (l.foldl (fun f b => 2 * f + b) v)), y] h
  | [], v, x => ⟨x, forL_nil hg⟩
  | b :: l, v, x => by
    obtain ⟨y, ih⟩ := of_loop hg l (2 * v + b) (some (.int b))
    refine ⟨y, forL_next (e1 := [x0, some (.int v), some (.int b)]) (h1 := h) hg rfl ?_ ih⟩
    have mu := fMul_ok (x := 2) (y := v) (h := h) (.inl ⟨by decide, by decide⟩)
    unfold l_of_bits_0
    simp only [bind_ok, bind_exn, bindS_ok, bindS_exn, then_next, then_ret, then_brk, then_cont, then_exn, only_next, only_exn, run_nil, run_ret, run_retN, run_drop, run_if, run_asg, run_brk, run_cont, run_raise, run_gN, run_C, run_var, run_m2, run_lnil, run_lcons, run_tup, run_bool, run_tru, run_and, run_or, run_not, run_andV, run_orV, run_notV, run_ifE, run_chain, run_neg, run_sl, run_no, run_some, run_call, run_callF, run_meth, run_subM, run_par, run_par3, run_aug, run_itA, run_fld, run_fldM, run_tyes, fAdd_i, fSub_i, fLt_i, fLe_i, fGt_i, fGe_i, fEq_i, fNe_i, fAbs_i, fInt_i, fInt_b, fEq_s, fNe_s, fEq_b, fMax2_i, fMin2_i, fIAdd_i, fTru_b, fTru_i, run_methF, List.getElem?_cons_succ, List.getElem?_cons_zero, List.length_cons, List.length_nil, List.set_cons_succ, List.set_cons_zero, if_true, if_false, Bool.false_eq_true, Bool.not_true, Bool.not_false, decide_true, decide_false, ite_true, ite_false, Nat.zero_add, Nat.reduceAdd, oR, mu]
theorem of_run {h : Hm} {r : Nat} {l : List Int} (e : h[r]? = some (.lst (l.map D.int))) : f_of_bits [.ref r] h = .ok (.int (valL l)) h := by
  obtain ⟨y, L⟩ := of_loop (x0 := some (.ref r)) (gdOk_one e) l.reverse 0 none
  rw [fold_val] at L
  refine call_ret f_of_bits_eq rfl (seq_next (e1 := [some (.ref r), some (.int 0), none]) (h1 := h) rfl (seq_next (for_run (it := ((l.map D.int).reverse, [(r, .lst (l.map D.int))])) ?_ L List.map_reverse.symm) rfl))
  have er : itRev h (.ref r) = some ((l.map D.int).reverse, [(r, .lst (l.map D.int))]) := by
    unfold itRev
    simp only [e]
  show (R.ok (.ref r) h).bind (fun x h1 => oR (itRev h1 x) h1) = _
  simp only [bind_ok, bind_exn, bindS_ok, bindS_exn, then_next, then_ret, then_brk, then_cont, then_exn, only_next, only_exn, run_nil, run_ret, run_retN, run_drop, run_if, run_asg, run_brk, run_cont, run_raise, run_gN, run_C, run_var, run_m2, run_lnil, run_lcons, run_tup, run_bool, run_tru, run_and, run_or, run_not, run_andV, run_orV, run_notV, run_ifE, run_chain, run_neg, run_sl, run_no, run_some, run_call, run_callF, run_meth, run_subM, run_par, run_par3, run_aug, run_itA, run_fld, run_fldM, run_tyes, fAdd_i, fSub_i, fLt_i, fLe_i, fGt_i, fGe_i, fEq_i, fNe_i, fAbs_i, fInt_i, fInt_b, fEq_s, fNe_s, fEq_b, fMax2_i, fMin2_i, fIAdd_i, fTru_b, fTru_i, run_methF, List.getElem?_cons_succ, List.getElem?_cons_zero, List.length_cons, List.length_nil, List.set_cons_succ, List.set_cons_zero, if_true, if_false, Bool.false_eq_true, Bool.not_true, Bool.not_false, decide_true, decide_false, ite_true, ite_false, Nat.zero_add, Nat.reduceAdd, oR, er]
theorem shared_run (a b : Int) (h : Hm) : ∃ g, f_shared [.int a, .int b] h = .ok (.int (valL (shL a b))) (h ++ g) := by
  obtain ⟨g1, B1⟩ := bits_run a h
  obtain ⟨g2, B2⟩ := bits_run b (h ++ g1)
  obtain ⟨h2, hh2⟩ : ∃ h2 : Hm, h2 = h ++ g1 ++ g2 := ⟨_, rfl⟩
  rw [← hh2] at B2
  have R := lcL_pure (gs := []) (g := gU 2 (gsCons (gN 2) (gsCons (gN 3) gsNil))) (t := tYesM) (e := m2 fMul (mVar 2) (mVar 3)) (env := [some (.int a), some (.int b), none, none]) (h := h2) gdOk_nil
    (fun p : Int × Int => D.tup [.int p.1, .int p.2]) (fun p => some (.int (p.1 * p.2))) ((bitsL 16 a).zip (bitsL 16 b)) fun p hp => by
      have z := zip_mem hp
      have c : CMul p.1 p.2 := .inl (by rcases z.1 with e | e <;> rw [e] <;> exact ⟨by decide, by decide⟩)
      have mu := fMul_ok (h := h2) c
      simp [lcTurn, gU, gsCons, gsNil, mu]
  rw [show ((bitsL 16 a).zip (bitsL 16 b)).filterMap (fun p => some (D.int (p.1 * p.2))) = (shL a b).map D.int by unfold shL; rw [List.map_map, ← List.filterMap_eq_map]; rfl] at R
  have O := of_run (h := h2 ++ [.lst ((shL a b).map D.int)]) (r := h2.length) (l := shL a b) get_new
  refine ⟨g1 ++ g2 ++ [.lst ((shL a b).map D.int)], call_ret f_shared_eq rfl ?_⟩
  rw [show h ++ (g1 ++ g2 ++ [.lst ((shL a b).map D.int)]) = h2 ++ [.lst ((shL a b).map D.int)] by rw [hh2]; simp]
  have z : mZip (mCons (mCallF 1 f_bits_of (mCons (mVar 0) mNil)) (mCons (mCallF 1 f_bits_of (mCons (mVar 1) mNil)) mNil)) [some (.int a), some (.int b), none, none] h = .ok (((bitsL 16 a).zip (bitsL 16 b)).map (fun p : Int × Int => D.tup [.int p.1, .int p.2]), []) h2 := by
    unfold mZip
    simp only [bind_ok, bind_exn, bindS_ok, bindS_exn, then_next, then_ret, then_brk, then_cont, then_exn, only_next, only_exn, run_nil, run_ret, run_retN, run_drop, run_if, run_asg, run_brk, run_cont, run_raise, run_gN, run_C, run_var, run_m2, run_lnil, run_lcons, run_tup, run_bool, run_tru, run_and, run_or, run_not, run_andV, run_orV, run_notV, run_ifE, run_chain, run_neg, run_sl, run_no, run_some, run_call, run_callF, run_meth, run_subM, run_par, run_par3, run_aug, run_itA, run_fld, run_fldM, run_tyes, fAdd_i, fSub_i, fLt_i, fLe_i, fGt_i, fGe_i, fEq_i, fNe_i, fAbs_i, fInt_i, fInt_b, fEq_s, fNe_s, fEq_b, fMax2_i, fMin2_i, fIAdd_i, fTru_b, fTru_i, run_methF, List.getElem?_cons_succ, List.getElem?_cons_zero, List.length_cons, List.length_nil, List.set_cons_succ, List.set_cons_zero, if_true, if_false, Bool.false_eq_true, Bool.not_true, Bool.not_false, decide_true, decide_false, ite_true, ite_false, Nat.zero_add, Nat.reduceAdd, oR, B1, B2]
    simp [itL, itT, zipD, List.zip_map, Function.comp_def]
  have m := lc_run (vs := [2, 3]) (ds := ((bitsL 16 a).zip (bitsL 16 b)).map (fun p : Int × Int => D.tup [.int p.1, .int p.2])) z (by rw [List.length_map, List.length_zip, bitsL_len, bitsL_len]; decide) R
  unfold b_shared
  simp only [bind_ok, bind_exn, bindS_ok, bindS_exn, then_next, then_ret, then_brk, then_cont, then_exn, only_next, only_exn, run_nil, run_ret, run_retN, run_drop, run_if, run_asg, run_brk, run_cont, run_raise, run_gN, run_C, run_var, run_m2, run_lnil, run_lcons, run_tup, run_bool, run_tru, run_and, run_or, run_not, run_andV, run_orV, run_notV, run_ifE, run_chain, run_neg, run_sl, run_no, run_some, run_call, run_callF, run_meth, run_subM, run_par, run_par3, run_aug, run_itA, run_fld, run_fldM, run_tyes, fAdd_i, fSub_i, fLt_i, fLe_i, fGt_i, fGe_i, fEq_i, fNe_i, fAbs_i, fInt_i, fInt_b, fEq_s, fNe_s, fEq_b, fMax2_i, fMin2_i, fIAdd_i, fTru_b, fTru_i, run_methF, List.getElem?_cons_succ, List.getElem?_cons_zero, List.length_cons, List.length_nil, List.set_cons_succ, List.set_cons_zero, if_true, if_false, Bool.false_eq_true, Bool.not_true, Bool.not_false, decide_true, decide_false, ite_true, ite_false, Nat.zero_add, Nat.reduceAdd, oR, show startE 4 [D.int a, D.int b] = [some (.int a), some (.int b), none, none] from rfl, m, O]
theorem either_run (a b : Int) (h : Hm) : ∃ g, f_either [.int a, .int b] h = .ok (.int (a + b - valL (shL a b))) (h ++ g) := by
  obtain ⟨g, S⟩ := shared_run a b h
  refine ⟨g, call_ret f_either_eq rfl ?_⟩
  unfold b_either
  simp only [bind_ok, bind_exn, bindS_ok, bindS_exn, then_next, then_ret, then_brk, then_cont, then_exn, only_next, only_exn, run_nil, run_ret, run_retN, run_drop, run_if, run_asg, run_brk, run_cont, run_raise, run_gN, run_C, run_var, run_m2, run_lnil, run_lcons, run_tup, run_bool, run_tru, run_and, run_or, run_not, run_andV, run_orV, run_notV, run_ifE, run_chain, run_neg, run_sl, run_no, run_some, run_call, run_callF, run_meth, run_subM, run_par, run_par3, run_aug, run_itA, run_fld, run_fldM, run_tyes, fAdd_i, fSub_i, fLt_i, fLe_i, fGt_i, fGe_i, fEq_i, fNe_i, fAbs_i, fInt_i, fInt_b, fEq_s, fNe_s, fEq_b, fMax2_i, fMin2_i, fIAdd_i, fTru_b, fTru_i, run_methF, List.getElem?_cons_succ, List.getElem?_cons_zero, List.length_cons, List.length_nil, List.set_cons_succ, List.set_cons_zero, if_true, if_false, Bool.false_eq_true, Bool.not_true, Bool.not_false, decide_true, decide_false, ite_true, ite_false, Nat.zero_add, Nat.reduceAdd, oR, startE, List.map_cons, List.map_nil, List.cons_append, S]
theorem unlike_run (a b : Int) (h : Hm) : ∃ g, f_unlike [.int a, .int b] h = .ok (.int (a + b - 2 * valL (shL a b))) (h ++ g) := by
  obtain ⟨g, S⟩ := shared_run a b h
  have mu := fMul_ok (x := 2) (y := valL (shL a b)) (h := h ++ g) (.inl ⟨by decide, by decide⟩)
  refine ⟨g, call_ret f_unlike_eq rfl ?_⟩
  unfold b_unlike
  simp only [bind_ok, bind_exn, bindS_ok, bindS_exn, then_next, then_ret, then_brk, then_cont, then_exn, only_next, only_exn, run_nil, run_ret, run_retN, run_drop, run_if, run_asg, run_brk, run_cont, run_raise, run_gN, run_C, run_var, run_m2, run_lnil, run_lcons, run_tup, run_bool, run_tru, run_and, run_or, run_not, run_andV, run_orV, run_notV, run_ifE, run_chain, run_neg, run_sl, run_no, run_some, run_call, run_callF, run_meth, run_subM, run_par, run_par3, run_aug, run_itA, run_fld, run_fldM, run_tyes, fAdd_i, fSub_i, fLt_i, fLe_i, fGt_i, fGe_i, fEq_i, fNe_i, fAbs_i, fInt_i, fInt_b, fEq_s, fNe_s, fEq_b, fMax2_i, fMin2_i, fIAdd_i, fTru_b, fTru_i, run_methF, List.getElem?_cons_succ, List.getElem?_cons_zero, List.length_cons, List.length_nil, List.set_cons_succ, List.set_cons_zero, if_true, if_false, Bool.false_eq_true, Bool.not_true, Bool.not_false, decide_true, decide_false, ite_true, ite_false, Nat.zero_add, Nat.reduceAdd, oR, startE, List.map_cons, List.map_nil, List.cons_append, S, mu]
theorem up_loop {h : Hm} {x1 : Option D} : ∀ (ds : List D) (a : Int) (x : Option D), ∃ y, forL [] (gN 2) l_up_0 ds [some (.int a), x1, x] h = .next [some (.int (upN ds.length a)), x1, y] h
  | [], a, x => ⟨x, forL_nil gdOk_nil⟩
  | d :: ds, a, x => by
    obtain ⟨y, ih⟩ := up_loop (h := h) (x1 := x1) ds (2 * a % 65536) (some d)
    refine ⟨y, forL_next (e1 := [some (.int a), x1, some d]) (h1 := h) gdOk_nil rfl ?_ ih⟩
    have mu := fMul_ok (x := 2) (y := a) (h := h) (.inl ⟨by decide, by decide⟩)
    have md := fMod_ok (x := 2 * a) (y := 65536) (h := h) (by decide)
    rw [fm16] at md
    unfold l_up_0
    simp only [bind_ok, bind_exn, bindS_ok, bindS_exn, then_next, then_ret, then_brk, then_cont, then_exn, only_next, only_exn, run_nil, run_ret, run_retN, run_drop, run_if, run_asg, run_brk, run_cont, run_raise, run_gN, run_C, run_var, run_m2, run_lnil, run_lcons, run_tup, run_bool, run_tru, run_and, run_or, run_not, run_andV, run_orV, run_notV, run_ifE, run_chain, run_neg, run_sl, run_no, run_some, run_call, run_callF, run_meth, run_subM, run_par, run_par3, run_aug, run_itA, run_fld, run_fldM, run_tyes, fAdd_i, fSub_i, fLt_i, fLe_i, fGt_i, fGe_i, fEq_i, fNe_i, fAbs_i, fInt_i, fInt_b, fEq_s, fNe_s, fEq_b, fMax2_i, fMin2_i, fIAdd_i, fTru_b, fTru_i, run_methF, List.getElem?_cons_succ, List.getElem?_cons_zero, List.length_cons, List.length_nil, List.set_cons_succ, List.set_cons_zero, if_true, if_false, Bool.false_eq_true, Bool.not_true, Bool.not_false, decide_true, decide_false, ite_true, ite_false, Nat.zero_add, Nat.reduceAdd, oR, mu, md]
theorem up_run (a b : Int) (h : Hm) : f_up [.int a, .int b] h = .ok (.int (upN (b % 16).toNat a)) h := by
  obtain ⟨m, hm, hlt⟩ := many_nat b
  obtain ⟨y, L⟩ := up_loop (h := h) (x1 := some (.int m)) ((List.range m).map (fun k : Nat => D.int (0 + (k : Int)))) a none
  rw [List.length_map, List.length_range] at L
  refine call_ret f_up_eq rfl (seq_next (e1 := [some (.int a), some (.int m), none]) (h1 := h) ?_ (seq_next (for_run (rg1_run rfl (by omega)) L) ?_))
  · have := imod b h
    rw [hm] at this
    show sAug 1 fIMod (mC (.int 16)) [some (.int a), some (.int b), none] h = _
    simp only [bind_ok, bind_exn, bindS_ok, bindS_exn, then_next, then_ret, then_brk, then_cont, then_exn, only_next, only_exn, run_nil, run_ret, run_retN, run_drop, run_if, run_asg, run_brk, run_cont, run_raise, run_gN, run_C, run_var, run_m2, run_lnil, run_lcons, run_tup, run_bool, run_tru, run_and, run_or, run_not, run_andV, run_orV, run_notV, run_ifE, run_chain, run_neg, run_sl, run_no, run_some, run_call, run_callF, run_meth, run_subM, run_par, run_par3, run_aug, run_itA, run_fld, run_fldM, run_tyes, fAdd_i, fSub_i, fLt_i, fLe_i, fGt_i, fGe_i, fEq_i, fNe_i, fAbs_i, fInt_i, fInt_b, fEq_s, fNe_s, fEq_b, fMax2_i, fMin2_i, fIAdd_i, fTru_b, fTru_i, run_methF, List.getElem?_cons_succ, List.getElem?_cons_zero, List.length_cons, List.length_nil, List.set_cons_succ, List.set_cons_zero, if_true, if_false, Bool.false_eq_true, Bool.not_true, Bool.not_false, decide_true, decide_false, ite_true, ite_false, Nat.zero_add, Nat.reduceAdd, oR, this]
  · rw [hm]
    simp only [bind_ok, bind_exn, bindS_ok, bindS_exn, then_next, then_ret, then_brk, then_cont, then_exn, only_next, only_exn, run_nil, run_ret, run_retN, run_drop, run_if, run_asg, run_brk, run_cont, run_raise, run_gN, run_C, run_var, run_m2, run_lnil, run_lcons, run_tup, run_bool, run_tru, run_and, run_or, run_not, run_andV, run_orV, run_notV, run_ifE, run_chain, run_neg, run_sl, run_no, run_some, run_call, run_callF, run_meth, run_subM, run_par, run_par3, run_aug, run_itA, run_fld, run_fldM, run_tyes, fAdd_i, fSub_i, fLt_i, fLe_i, fGt_i, fGe_i, fEq_i, fNe_i, fAbs_i, fInt_i, fInt_b, fEq_s, fNe_s, fEq_b, fMax2_i, fMin2_i, fIAdd_i, fTru_b, fTru_i, run_methF, List.getElem?_cons_succ, List.getElem?_cons_zero, List.length_cons, List.length_nil, List.set_cons_succ, List.set_cons_zero, if_true, if_false, Bool.false_eq_true, Bool.not_true, Bool.not_false, decide_true, decide_false, ite_true, ite_false, Nat.zero_add, Nat.reduceAdd, oR]
    rfl
theorem down_loop {h : Hm} {x1 : Option D} : ∀ (ds : List D) (a : Int) (x : Option D), ∃ y, forL [] (gN 2) l_down_0 ds [some (.int a), x1, x] h = .next [some (.int (dnN ds.length a)), x1, y] h
  | [], a, x => ⟨x, forL_nil gdOk_nil⟩
  | d :: ds, a, x => by
    obtain ⟨y, ih⟩ := down_loop (h := h) (x1 := x1) ds (a / 2) (some d)
    refine ⟨y, forL_next (e1 := [some (.int a), x1, some d]) (h1 := h) gdOk_nil rfl ?_ ih⟩
    unfold l_down_0
    simp only [bind_ok, bind_exn, bindS_ok, bindS_exn, then_next, then_ret, then_brk, then_cont, then_exn, only_next, only_exn, run_nil, run_ret, run_retN, run_drop, run_if, run_asg, run_brk, run_cont, run_raise, run_gN, run_C, run_var, run_m2, run_lnil, run_lcons, run_tup, run_bool, run_tru, run_and, run_or, run_not, run_andV, run_orV, run_notV, run_ifE, run_chain, run_neg, run_sl, run_no, run_some, run_call, run_callF, run_meth, run_subM, run_par, run_par3, run_aug, run_itA, run_fld, run_fldM, run_tyes, fAdd_i, fSub_i, fLt_i, fLe_i, fGt_i, fGe_i, fEq_i, fNe_i, fAbs_i, fInt_i, fInt_b, fEq_s, fNe_s, fEq_b, fMax2_i, fMin2_i, fIAdd_i, fTru_b, fTru_i, run_methF, List.getElem?_cons_succ, List.getElem?_cons_zero, List.length_cons, List.length_nil, List.set_cons_succ, List.set_cons_zero, if_true, if_false, Bool.false_eq_true, Bool.not_true, Bool.not_false, decide_true, decide_false, ite_true, ite_false, Nat.zero_add, Nat.reduceAdd, oR, idiv]
theorem down_run (a b : Int) (h : Hm) : f_down [.int a, .int b] h = .ok (.int (a / 2 ^ (b % 16).toNat)) h := by
  obtain ⟨m, hm, hlt⟩ := many_nat b
  obtain ⟨y, L⟩ := down_loop (h := h) (x1 := some (.int m)) ((List.range m).map (fun k : Nat => D.int (0 + (k : Int)))) a none
  rw [List.length_map, List.length_range, dnN_eq] at L
  refine call_ret f_down_eq rfl (seq_next (e1 := [some (.int a), some (.int m), none]) (h1 := h) ?_ (seq_next (for_run (rg1_run rfl (by omega)) L) ?_))
  · have := imod b h
    rw [hm] at this
    show sAug 1 fIMod (mC (.int 16)) [some (.int a), some (.int b), none] h = _
    simp only [bind_ok, bind_exn, bindS_ok, bindS_exn, then_next, then_ret, then_brk, then_cont, then_exn, only_next, only_exn, run_nil, run_ret, run_retN, run_drop, run_if, run_asg, run_brk, run_cont, run_raise, run_gN, run_C, run_var, run_m2, run_lnil, run_lcons, run_tup, run_bool, run_tru, run_and, run_or, run_not, run_andV, run_orV, run_notV, run_ifE, run_chain, run_neg, run_sl, run_no, run_some, run_call, run_callF, run_meth, run_subM, run_par, run_par3, run_aug, run_itA, run_fld, run_fldM, run_tyes, fAdd_i, fSub_i, fLt_i, fLe_i, fGt_i, fGe_i, fEq_i, fNe_i, fAbs_i, fInt_i, fInt_b, fEq_s, fNe_s, fEq_b, fMax2_i, fMin2_i, fIAdd_i, fTru_b, fTru_i, run_methF, List.getElem?_cons_succ, List.getElem?_cons_zero, List.length_cons, List.length_nil, List.set_cons_succ, List.set_cons_zero, if_true, if_false, Bool.false_eq_true, Bool.not_true, Bool.not_false, decide_true, decide_false, ite_true, ite_false, Nat.zero_add, Nat.reduceAdd, oR, this]
  · rw [hm]
    simp only [bind_ok, bind_exn, bindS_ok, bindS_exn, then_next, then_ret, then_brk, then_cont, then_exn, only_next, only_exn, run_nil, run_ret, run_retN, run_drop, run_if, run_asg, run_brk, run_cont, run_raise, run_gN, run_C, run_var, run_m2, run_lnil, run_lcons, run_tup, run_bool, run_tru, run_and, run_or, run_not, run_andV, run_orV, run_notV, run_ifE, run_chain, run_neg, run_sl, run_no, run_some, run_call, run_callF, run_meth, run_subM, run_par, run_par3, run_aug, run_itA, run_fld, run_fldM, run_tyes, fAdd_i, fSub_i, fLt_i, fLe_i, fGt_i, fGe_i, fEq_i, fNe_i, fAbs_i, fInt_i, fInt_b, fEq_s, fNe_s, fEq_b, fMax2_i, fMin2_i, fIAdd_i, fTru_b, fTru_i, run_methF, List.getElem?_cons_succ, List.getElem?_cons_zero, List.length_cons, List.length_nil, List.set_cons_succ, List.set_cons_zero, if_true, if_false, Bool.false_eq_true, Bool.not_true, Bool.not_false, decide_true, decide_false, ite_true, ite_false, Nat.zero_add, Nat.reduceAdd, oR]
    rfl
theorem downs_loop {h : Hm} {x0 x1 : Option D} : ∀ (ds : List D) (a : Int) (x : Option D), ∃ y, forL [] (gN 3) l_down_signed_0 ds [x0, x1, some (.int a), x] h = .next [x0, x1, some (.int (dnN ds.length a)), y] h
  | [], a, x => ⟨x, forL_nil gdOk_nil⟩
  | d :: ds, a, x => by
    obtain ⟨y, ih⟩ := downs_loop (h := h) (x0 := x0) (x1 := x1) ds (a / 2) (some d)
    refine ⟨y, forL_next (e1 := [x0, x1, some (.int a), some d]) (h1 := h) gdOk_nil rfl ?_ ih⟩
    unfold l_down_signed_0
    simp only [bind_ok, bind_exn, bindS_ok, bindS_exn, then_next, then_ret, then_brk, then_cont, then_exn, only_next, only_exn, run_nil, run_ret, run_retN, run_drop, run_if, run_asg, run_brk, run_cont, run_raise, run_gN, run_C, run_var, run_m2, run_lnil, run_lcons, run_tup, run_bool, run_tru, run_and, run_or, run_not, run_andV, run_orV, run_notV, run_ifE, run_chain, run_neg, run_sl, run_no, run_some, run_call, run_callF, run_meth, run_subM, run_par, run_par3, run_aug, run_itA, run_fld, run_fldM, run_tyes, fAdd_i, fSub_i, fLt_i, fLe_i, fGt_i, fGe_i, fEq_i, fNe_i, fAbs_i, fInt_i, fInt_b, fEq_s, fNe_s, fEq_b, fMax2_i, fMin2_i, fIAdd_i, fTru_b, fTru_i, run_methF, List.getElem?_cons_succ, List.getElem?_cons_zero, List.length_cons, List.length_nil, List.set_cons_succ, List.set_cons_zero, if_true, if_false, Bool.false_eq_true, Bool.not_true, Bool.not_false, decide_true, decide_false, ite_true, ite_false, Nat.zero_add, Nat.reduceAdd, oR, idiv]
theorem downs_run (a b : Int) (h : Hm) : f_down_signed [.int a, .int b] h = .ok (.int (sgn a / 2 ^ (b % 16).toNat % 65536)) h := by
  obtain ⟨m, hm, hlt⟩ := many_nat b
  obtain ⟨y, L⟩ := downs_loop (h := h) (x0 := some (.int a)) (x1 := some (.int b)) ((List.range m).map (fun k : Nat => D.int (0 + (k : Int)))) (sgn a) none
  rw [List.length_map, List.length_range, dnN_eq] at L
  have sg := signed_run a h
  have md := fMod_ok (x := b) (y := 16) (h := h) (by decide)
  rw [Int.fmod_eq_emod_of_nonneg _ (by decide), hm] at md
  have md2 := fMod_ok (x := sgn a / 2 ^ m) (y := 65536) (h := h) (by decide)
  rw [fm16] at md2
  refine call_ret f_down_signed_eq rfl (seq_next (e1 := [some (.int a), some (.int b), some (.int (sgn a)), none]) (h1 := h) ?_ (seq_next (for_run (rg1_run (n := m) ?_ (by omega)) L) ?_))
  · show sAsg (gN 2) (mCallF 1 f_signed (mCons (mVar 0) mNil)) [some (.int a), some (.int b), none, none] h = _
    simp only [bind_ok, bind_exn, bindS_ok, bindS_exn, then_next, then_ret, then_brk, then_cont, then_exn, only_next, only_exn, run_nil, run_ret, run_retN, run_drop, run_if, run_asg, run_brk, run_cont, run_raise, run_gN, run_C, run_var, run_m2, run_lnil, run_lcons, run_tup, run_bool, run_tru, run_and, run_or, run_not, run_andV, run_orV, run_notV, run_ifE, run_chain, run_neg, run_sl, run_no, run_some, run_call, run_callF, run_meth, run_subM, run_par, run_par3, run_aug, run_itA, run_fld, run_fldM, run_tyes, fAdd_i, fSub_i, fLt_i, fLe_i, fGt_i, fGe_i, fEq_i, fNe_i, fAbs_i, fInt_i, fInt_b, fEq_s, fNe_s, fEq_b, fMax2_i, fMin2_i, fIAdd_i, fTru_b, fTru_i, run_methF, List.getElem?_cons_succ, List.getElem?_cons_zero, List.length_cons, List.length_nil, List.set_cons_succ, List.set_cons_zero, if_true, if_false, Bool.false_eq_true, Bool.not_true, Bool.not_false, decide_true, decide_false, ite_true, ite_false, Nat.zero_add, Nat.reduceAdd, oR, sg]
  · simp only [bind_ok, bind_exn, bindS_ok, bindS_exn, then_next, then_ret, then_brk, then_cont, then_exn, only_next, only_exn, run_nil, run_ret, run_retN, run_drop, run_if, run_asg, run_brk, run_cont, run_raise, run_gN, run_C, run_var, run_m2, run_lnil, run_lcons, run_tup, run_bool, run_tru, run_and, run_or, run_not, run_andV, run_orV, run_notV, run_ifE, run_chain, run_neg, run_sl, run_no, run_some, run_call, run_callF, run_meth, run_subM, run_par, run_par3, run_aug, run_itA, run_fld, run_fldM, run_tyes, fAdd_i, fSub_i, fLt_i, fLe_i, fGt_i, fGe_i, fEq_i, fNe_i, fAbs_i, fInt_i, fInt_b, fEq_s, fNe_s, fEq_b, fMax2_i, fMin2_i, fIAdd_i, fTru_b, fTru_i, run_methF, List.getElem?_cons_succ, List.getElem?_cons_zero, List.length_cons, List.length_nil, List.set_cons_succ, List.set_cons_zero, if_true, if_false, Bool.false_eq_true, Bool.not_true, Bool.not_false, decide_true, decide_false, ite_true, ite_false, Nat.zero_add, Nat.reduceAdd, oR, md]
  · rw [hm]
    simp only [bind_ok, bind_exn, bindS_ok, bindS_exn, then_next, then_ret, then_brk, then_cont, then_exn, only_next, only_exn, run_nil, run_ret, run_retN, run_drop, run_if, run_asg, run_brk, run_cont, run_raise, run_gN, run_C, run_var, run_m2, run_lnil, run_lcons, run_tup, run_bool, run_tru, run_and, run_or, run_not, run_andV, run_orV, run_notV, run_ifE, run_chain, run_neg, run_sl, run_no, run_some, run_call, run_callF, run_meth, run_subM, run_par, run_par3, run_aug, run_itA, run_fld, run_fldM, run_tyes, fAdd_i, fSub_i, fLt_i, fLe_i, fGt_i, fGe_i, fEq_i, fNe_i, fAbs_i, fInt_i, fInt_b, fEq_s, fNe_s, fEq_b, fMax2_i, fMin2_i, fIAdd_i, fTru_b, fTru_i, run_methF, List.getElem?_cons_succ, List.getElem?_cons_zero, List.length_cons, List.length_nil, List.set_cons_succ, List.set_cons_zero, if_true, if_false, Bool.false_eq_true, Bool.not_true, Bool.not_false, decide_true, decide_false, ite_true, ite_false, Nat.zero_add, Nat.reduceAdd, oR, md2]
    rfl
theorem isless_run (a b : Int) (h : Hm) : f_is_less [.int a, .int b] h = .ok (.int (if decide (sgn a < sgn b) = true then 1 else 0)) h := by
  refine call_ret f_is_less_eq rfl ?_
  unfold b_is_less
  simp only [bind_ok, bind_exn, bindS_ok, bindS_exn, then_next, then_ret, then_brk, then_cont, then_exn, only_next, only_exn, run_nil, run_ret, run_retN, run_drop, run_if, run_asg, run_brk, run_cont, run_raise, run_gN, run_C, run_var, run_m2, run_lnil, run_lcons, run_tup, run_bool, run_tru, run_and, run_or, run_not, run_andV, run_orV, run_notV, run_ifE, run_chain, run_neg, run_sl, run_no, run_some, run_call, run_callF, run_meth, run_subM, run_par, run_par3, run_aug, run_itA, run_fld, run_fldM, run_tyes, fAdd_i, fSub_i, fLt_i, fLe_i, fGt_i, fGe_i, fEq_i, fNe_i, fAbs_i, fInt_i, fInt_b, fEq_s, fNe_s, fEq_b, fMax2_i, fMin2_i, fIAdd_i, fTru_b, fTru_i, run_methF, List.getElem?_cons_succ, List.getElem?_cons_zero, List.length_cons, List.length_nil, List.set_cons_succ, List.set_cons_zero, if_true, if_false, Bool.false_eq_true, Bool.not_true, Bool.not_false, decide_true, decide_false, ite_true, ite_false, Nat.zero_add, Nat.reduceAdd, oR, startE, List.map_cons, List.map_nil, List.cons_append, signed_run]
theorem isbelow_run (a b : Int) (h : Hm) : f_is_below [.int a, .int b] h = .ok (.int (if decide (a < b) = true then 1 else 0)) h := by
  refine call_ret f_is_below_eq rfl ?_
  unfold b_is_below
  simp only [bind_ok, bind_exn, bindS_ok, bindS_exn, then_next, then_ret, then_brk, then_cont, then_exn, only_next, only_exn, run_nil, run_ret, run_retN, run_drop, run_if, run_asg, run_brk, run_cont, run_raise, run_gN, run_C, run_var, run_m2, run_lnil, run_lcons, run_tup, run_bool, run_tru, run_and, run_or, run_not, run_andV, run_orV, run_notV, run_ifE, run_chain, run_neg, run_sl, run_no, run_some, run_call, run_callF, run_meth, run_subM, run_par, run_par3, run_aug, run_itA, run_fld, run_fldM, run_tyes, fAdd_i, fSub_i, fLt_i, fLe_i, fGt_i, fGe_i, fEq_i, fNe_i, fAbs_i, fInt_i, fInt_b, fEq_s, fNe_s, fEq_b, fMax2_i, fMin2_i, fIAdd_i, fTru_b, fTru_i, run_methF, List.getElem?_cons_succ, List.getElem?_cons_zero, List.length_cons, List.length_nil, List.set_cons_succ, List.set_cons_zero, if_true, if_false, Bool.false_eq_true, Bool.not_true, Bool.not_false, decide_true, decide_false, ite_true, ite_false, Nat.zero_add, Nat.reduceAdd, oR, startE, List.map_cons, List.map_nil, List.cons_append]
theorem check_run (n : Int) (h0 : 0 ≤ n) (h1 : n < 65536) (h : Hm) : f_check_word [.int n] h = .ok .non h := by
  refine call_next f_check_word_eq (e1 := [some (.int n)]) rfl ?_
  have t1 : fIsi "int" (.int n) h = .ok (.bl true) h := rfl
  have t2 : fIsi "bool" (.int n) h = .ok (.bl false) h := rfl
  unfold b_check_word
  simp only [bind_ok, bind_exn, bindS_ok, bindS_exn, then_next, then_ret, then_brk, then_cont, then_exn, only_next, only_exn, run_nil, run_ret, run_retN, run_drop, run_if, run_asg, run_brk, run_cont, run_raise, run_gN, run_C, run_var, run_m2, run_lnil, run_lcons, run_tup, run_bool, run_tru, run_and, run_or, run_not, run_andV, run_orV, run_notV, run_ifE, run_chain, run_neg, run_sl, run_no, run_some, run_call, run_callF, run_meth, run_subM, run_par, run_par3, run_aug, run_itA, run_fld, run_fldM, run_tyes, fAdd_i, fSub_i, fLt_i, fLe_i, fGt_i, fGe_i, fEq_i, fNe_i, fAbs_i, fInt_i, fInt_b, fEq_s, fNe_s, fEq_b, fMax2_i, fMin2_i, fIAdd_i, fTru_b, fTru_i, run_methF, List.getElem?_cons_succ, List.getElem?_cons_zero, List.length_cons, List.length_nil, List.set_cons_succ, List.set_cons_zero, if_true, if_false, Bool.false_eq_true, Bool.not_true, Bool.not_false, decide_true, decide_false, ite_true, ite_false, Nat.zero_add, Nat.reduceAdd, oR, startE, List.map_cons, List.map_nil, List.cons_append, mIsi, t1, t2, h0, h1]
  rfl
theorem check_out (n : Int) (hn : ¬ (0 ≤ n ∧ n < 65536)) (h : Hm) : f_check_word [.int n] h = .exn ⟨"BadOrder", []⟩ h := by
  refine call_exn f_check_word_eq (e1 := [some (.int n)]) rfl ?_
  have t1 : fIsi "int" (.int n) h = .ok (.bl true) h := rfl
  have t2 : fIsi "bool" (.int n) h = .ok (.bl false) h := rfl
  unfold b_check_word
  by_cases h0 : 0 ≤ n
  · have h1 : ¬ n < 65536 := fun z => hn ⟨h0, z⟩
    simp only [bind_ok, bind_exn, bindS_ok, bindS_exn, then_next, then_ret, then_brk, then_cont, then_exn, only_next, only_exn, run_nil, run_ret, run_retN, run_drop, run_if, run_asg, run_brk, run_cont, run_raise, run_gN, run_C, run_var, run_m2, run_lnil, run_lcons, run_tup, run_bool, run_tru, run_and, run_or, run_not, run_andV, run_orV, run_notV, run_ifE, run_chain, run_neg, run_sl, run_no, run_some, run_call, run_callF, run_meth, run_subM, run_par, run_par3, run_aug, run_itA, run_fld, run_fldM, run_tyes, fAdd_i, fSub_i, fLt_i, fLe_i, fGt_i, fGe_i, fEq_i, fNe_i, fAbs_i, fInt_i, fInt_b, fEq_s, fNe_s, fEq_b, fMax2_i, fMin2_i, fIAdd_i, fTru_b, fTru_i, run_methF, List.getElem?_cons_succ, List.getElem?_cons_zero, List.length_cons, List.length_nil, List.set_cons_succ, List.set_cons_zero, if_true, if_false, Bool.false_eq_true, Bool.not_true, Bool.not_false, decide_true, decide_false, ite_true, ite_false, Nat.zero_add, Nat.reduceAdd, oR, startE, List.map_cons, List.map_nil, List.cons_append, mIsi, t1, t2, h0, h1]
    rfl
  · simp only [bind_ok, bind_exn, bindS_ok, bindS_exn, then_next, then_ret, then_brk, then_cont, then_exn, only_next, only_exn, run_nil, run_ret, run_retN, run_drop, run_if, run_asg, run_brk, run_cont, run_raise, run_gN, run_C, run_var, run_m2, run_lnil, run_lcons, run_tup, run_bool, run_tru, run_and, run_or, run_not, run_andV, run_orV, run_notV, run_ifE, run_chain, run_neg, run_sl, run_no, run_some, run_call, run_callF, run_meth, run_subM, run_par, run_par3, run_aug, run_itA, run_fld, run_fldM, run_tyes, fAdd_i, fSub_i, fLt_i, fLe_i, fGt_i, fGe_i, fEq_i, fNe_i, fAbs_i, fInt_i, fInt_b, fEq_s, fNe_s, fEq_b, fMax2_i, fMin2_i, fIAdd_i, fTru_b, fTru_i, run_methF, List.getElem?_cons_succ, List.getElem?_cons_zero, List.length_cons, List.length_nil, List.set_cons_succ, List.set_cons_zero, if_true, if_false, Bool.false_eq_true, Bool.not_true, Bool.not_false, decide_true, decide_false, ite_true, ite_false, Nat.zero_add, Nat.reduceAdd, oR, startE, List.map_cons, List.map_nil, List.cons_append, mIsi, t1, t2, h0]
    rfl
end K03
end MM
namespace MM
namespace K03
open PySem L2
theorem shape_run {o : Od} (k : o.ok) (h : Hm) : f_shape [.str o.nm] h = .ok (.str o.kd) h := by
  rw [f_shape_eq]
  cases o <;> simp only [Od.ok] at k <;> first
    | rfl
    | exact n3_ind (P := fun n => callM 1 1 b_shape [.str n] h = .ok (.str "rrr") h) rfl rfl rfl rfl rfl rfl rfl rfl rfl rfl rfl k.1
    | exact n2_ind (P := fun n => callM 1 1 b_shape [.str n] h = .ok (.str "rrn") h) rfl rfl rfl rfl rfl rfl k.1
    | exact nb_ind (P := fun n => callM 1 1 b_shape [.str n] h = .ok (.str "rrn") h) rfl rfl rfl rfl k.1
theorem reads_run {o : Od} (k : o.ok) (h : Hm) : f_reads [o.d] h = .ok (.tup (o.reads.map D.int)) h := by
  rw [f_reads_eq]
  cases o <;> simp only [Od.ok] at k <;> first
    | rfl
    | exact n3_ind (P := fun n => callM 2 1 b_reads [.tup [.str n, _, _, _]] h = .ok (.tup [_, _]) h) rfl rfl rfl rfl rfl rfl rfl rfl rfl rfl rfl k.1
    | exact n2_ind (P := fun n => callM 2 1 b_reads [.tup [.str n, _, _, _]] h = .ok (.tup [_]) h) rfl rfl rfl rfl rfl rfl k.1
    | exact nb_ind (P := fun n => callM 2 1 b_reads [.tup [.str n, _, _, _]] h = .ok (.tup [_, _]) h) rfl rfl rfl rfl k.1
theorem writes_run {o : Od} (k : o.ok) (h : Hm) : f_writes [o.d] h = .ok o.wrD h := by
  by_cases z : o.wr = 0
  · rw [Od.wrD, if_pos z]
    cases o with
    | r3 n d a b =>
      have z : d = 0 := z
      refine n3_ind (P := fun n => f_writes [.tup [.str n, .int d, .int a, .int b]] h = .ok .non h) ?_ ?_ ?_ ?_ ?_ ?_ ?_ ?_ ?_ ?_ ?_ k.1 <;> (refine call_ret f_writes_eq rfl ?_; unfold b_writes; (try simp only [Od.d]); simp only [startE, List.map_cons, List.map_nil, List.length_cons, List.length_nil, List.cons_append, List.nil_append, Nat.zero_add, Nat.reduceAdd, Nat.reduceSub, List.replicate]; repeat (first | (with_reducible first | exact c_run | exact okr) | ((with_reducible apply var_run);exact rfl) | (with_reducible first | apply IfR.t | apply IfR.f | exact ThR.rt) | ((with_reducible apply ThR.nx);(try simp only [List.set_cons_succ, List.set_cons_zero, setAll])) | ((with_reducible refine ne_f ?_);omega) | ((with_reducible apply inD (k := true));exact rfl;exact rfl;exact rfl;decide) | ((with_reducible apply rb_ixT);exact rfl) | (with_reducible first | apply m2_run | apply bool_run | apply rb_or | apply rb_ifE | apply rb_seq | apply rb_if | apply ret_run | apply rb_asg) | ((with_reducible apply envP);exact rfl)))
    | r2 n d a b =>
      have z : d = 0 := z
      refine n2_ind (P := fun n => f_writes [.tup [.str n, .int d, .int a, .int b]] h = .ok .non h) ?_ ?_ ?_ ?_ ?_ ?_ k.1 <;> (refine call_ret f_writes_eq rfl ?_; unfold b_writes; (try simp only [Od.d]); simp only [startE, List.map_cons, List.map_nil, List.length_cons, List.length_nil, List.cons_append, List.nil_append, Nat.zero_add, Nat.reduceAdd, Nat.reduceSub, List.replicate]; repeat (first | (with_reducible first | exact c_run | exact okr) | ((with_reducible apply var_run);exact rfl) | (with_reducible first | apply IfR.t | apply IfR.f | exact ThR.rt) | ((with_reducible apply ThR.nx);(try simp only [List.set_cons_succ, List.set_cons_zero, setAll])) | ((with_reducible refine ne_f ?_);omega) | ((with_reducible apply inD (k := true));exact rfl;exact rfl;exact rfl;decide) | ((with_reducible apply inD (k := false));exact rfl;exact rfl;exact rfl;decide) | ((with_reducible apply rb_ixT);exact rfl) | (with_reducible first | apply m2_run | apply bool_run | apply rb_or | apply rb_ifE | apply rb_seq | apply rb_if | apply ret_run | apply rb_asg) | ((with_reducible apply envP);exact rfl)))
    | br n a b c => refine nb_ind (P := fun n => f_writes [.tup [.str n, .int a, .int b, .int c]] h = .ok .non h) ?_ ?_ ?_ ?_ k.1 <;> (refine call_ret f_writes_eq rfl ?_; unfold b_writes; (try simp only [Od.d]); simp only [startE, List.map_cons, List.map_nil, List.length_cons, List.length_nil, List.cons_append, List.nil_append, Nat.zero_add, Nat.reduceAdd, Nat.reduceSub, List.replicate]; repeat (first | (with_reducible first | exact c_run | exact nil_run | exact nils_run) | ((with_reducible apply var_run);exact rfl) | with_reducible apply IfR.f | ((with_reducible apply ThR.nx);(try simp only [List.set_cons_succ, List.set_cons_zero, setAll])) | ((with_reducible apply inD (k := false));exact rfl;exact rfl;exact rfl;decide) | ((with_reducible apply rb_ixT);exact rfl) | (with_reducible first | apply m2_run | apply cons_run | apply tup_run | apply bool_run | apply rb_or | apply rb_seq | apply rb_if | apply ret_run | apply rb_asg) | ((with_reducible apply envP);exact rfl)))
    | lui d a =>
      have z : d = 0 := z
      refine call_ret f_writes_eq rfl ?_; unfold b_writes; (try simp only [Od.d]); simp only [startE, List.map_cons, List.map_nil, List.length_cons, List.length_nil, List.cons_append, List.nil_append, Nat.zero_add, Nat.reduceAdd, Nat.reduceSub, List.replicate]; repeat (first | (with_reducible first | exact c_run | exact nil_run) | ((with_reducible apply var_run);exact rfl) | (with_reducible first | apply IfR.t | apply IfR.f | exact ThR.rt) | ((with_reducible apply ThR.nx);(try simp only [List.set_cons_succ, List.set_cons_zero, setAll])) | ((with_reducible refine ne_f ?_);omega) | ((with_reducible apply inD (k := true));exact rfl;exact rfl;exact rfl;decide) | ((with_reducible apply inD (k := false));exact rfl;exact rfl;exact rfl;decide) | ((with_reducible apply rb_ixT);exact rfl) | (with_reducible first | apply m2_run | apply cons_run | apply tup_run | apply bool_run | apply rb_or | apply rb_ifE | apply rb_seq | apply rb_if | apply ret_run | apply rb_asg) | ((with_reducible apply envP);exact rfl))
    | lw d a b =>
      have z : d = 0 := z
      refine call_ret f_writes_eq rfl ?_; unfold b_writes; (try simp only [Od.d]); simp only [startE, List.map_cons, List.map_nil, List.length_cons, List.length_nil, List.cons_append, List.nil_append, Nat.zero_add, Nat.reduceAdd, Nat.reduceSub, List.replicate]; repeat (first | (with_reducible first | exact c_run | exact nil_run) | ((with_reducible apply var_run);exact rfl) | (with_reducible first | apply IfR.t | apply IfR.f | exact ThR.rt) | ((with_reducible apply ThR.nx);(try simp only [List.set_cons_succ, List.set_cons_zero, setAll])) | ((with_reducible refine ne_f ?_);omega) | ((with_reducible apply inD (k := true));exact rfl;exact rfl;exact rfl;decide) | ((with_reducible apply inD (k := false));exact rfl;exact rfl;exact rfl;decide) | ((with_reducible apply rb_ixT);exact rfl) | (with_reducible first | apply m2_run | apply cons_run | apply tup_run | apply bool_run | apply rb_or | apply rb_ifE | apply rb_seq | apply rb_if | apply ret_run | apply rb_asg) | ((with_reducible apply envP);exact rfl))
    | jal d a =>
      have z : d = 0 := z
      refine call_ret f_writes_eq rfl ?_; unfold b_writes; (try simp only [Od.d]); simp only [startE, List.map_cons, List.map_nil, List.length_cons, List.length_nil, List.cons_append, List.nil_append, Nat.zero_add, Nat.reduceAdd, Nat.reduceSub, List.replicate]; repeat (first | (with_reducible first | exact c_run | exact nil_run) | ((with_reducible apply var_run);exact rfl) | (with_reducible first | apply IfR.t | apply IfR.f | exact ThR.rt) | ((with_reducible apply ThR.nx);(try simp only [List.set_cons_succ, List.set_cons_zero, setAll])) | ((with_reducible refine ne_f ?_);omega) | ((with_reducible apply inD (k := true));exact rfl;exact rfl;exact rfl;decide) | ((with_reducible apply inD (k := false));exact rfl;exact rfl;exact rfl;decide) | ((with_reducible apply rb_ixT);exact rfl) | (with_reducible first | apply m2_run | apply cons_run | apply tup_run | apply bool_run | apply rb_or | apply rb_ifE | apply rb_seq | apply rb_if | apply ret_run | apply rb_asg) | ((with_reducible apply envP);exact rfl))
    | jalr d a b =>
      have z : d = 0 := z
      refine call_ret f_writes_eq rfl ?_; unfold b_writes; (try simp only [Od.d]); simp only [startE, List.map_cons, List.map_nil, List.length_cons, List.length_nil, List.cons_append, List.nil_append, Nat.zero_add, Nat.reduceAdd, Nat.reduceSub, List.replicate]; repeat (first | (with_reducible first | exact c_run | exact nil_run) | ((with_reducible apply var_run);exact rfl) | (with_reducible first | apply IfR.t | apply IfR.f | exact ThR.rt) | ((with_reducible apply ThR.nx);(try simp only [List.set_cons_succ, List.set_cons_zero, setAll])) | ((with_reducible refine ne_f ?_);omega) | ((with_reducible apply inD (k := true));exact rfl;exact rfl;exact rfl;decide) | ((with_reducible apply inD (k := false));exact rfl;exact rfl;exact rfl;decide) | ((with_reducible apply rb_ixT);exact rfl) | (with_reducible first | apply m2_run | apply cons_run | apply tup_run | apply bool_run | apply rb_or | apply rb_ifE | apply rb_seq | apply rb_if | apply ret_run | apply rb_asg) | ((with_reducible apply envP);exact rfl))
    | _ => refine call_ret f_writes_eq rfl ?_; unfold b_writes; (try simp only [Od.d]); simp only [startE, List.map_cons, List.map_nil, List.length_cons, List.length_nil, List.cons_append, List.nil_append, Nat.zero_add, Nat.reduceAdd, Nat.reduceSub, List.replicate]; repeat (first | (with_reducible first | exact c_run | exact nil_run | exact nils_run) | ((with_reducible apply var_run);exact rfl) | with_reducible apply IfR.f | ((with_reducible apply ThR.nx);(try simp only [List.set_cons_succ, List.set_cons_zero, setAll])) | ((with_reducible apply inD (k := false));exact rfl;exact rfl;exact rfl;decide) | ((with_reducible apply rb_ixT);exact rfl) | (with_reducible first | apply m2_run | apply cons_run | apply tup_run | apply bool_run | apply rb_or | apply rb_seq | apply rb_if | apply ret_run | apply rb_asg) | ((with_reducible apply envP);exact rfl))
  · rw [Od.wrD, if_neg z]
    cases o with
    | r3 n d a b =>
      have z : ¬ d = 0 := z
      refine n3_ind (P := fun n => f_writes [.tup [.str n, .int d, .int a, .int b]] h = .ok (.int d) h) ?_ ?_ ?_ ?_ ?_ ?_ ?_ ?_ ?_ ?_ ?_ k.1 <;> (refine call_ret f_writes_eq rfl ?_; unfold b_writes; (try simp only [Od.d]); simp only [startE, List.map_cons, List.map_nil, List.length_cons, List.length_nil, List.cons_append, List.nil_append, Nat.zero_add, Nat.reduceAdd, Nat.reduceSub, List.replicate]; repeat (first | (with_reducible first | exact c_run | exact okr) | ((with_reducible apply var_run);exact rfl) | (with_reducible first | apply IfR.t | exact ThR.rt) | ((with_reducible apply ThR.nx);(try simp only [List.set_cons_succ, List.set_cons_zero, setAll])) | ((with_reducible refine ne_t ?_);omega) | ((with_reducible apply inD (k := true));exact rfl;exact rfl;exact rfl;decide) | ((with_reducible apply rb_ixT);exact rfl) | (with_reducible first | apply m2_run | apply bool_run | apply rb_or | apply rb_ifE | apply rb_seq | apply rb_if | apply ret_run | apply rb_asg) | ((with_reducible apply envP);exact rfl)))
    | r2 n d a b =>
      have z : ¬ d = 0 := z
      refine n2_ind (P := fun n => f_writes [.tup [.str n, .int d, .int a, .int b]] h = .ok (.int d) h) ?_ ?_ ?_ ?_ ?_ ?_ k.1 <;> (refine call_ret f_writes_eq rfl ?_; unfold b_writes; (try simp only [Od.d]); simp only [startE, List.map_cons, List.map_nil, List.length_cons, List.length_nil, List.cons_append, List.nil_append, Nat.zero_add, Nat.reduceAdd, Nat.reduceSub, List.replicate]; repeat (first | (with_reducible first | exact c_run | exact okr) | ((with_reducible apply var_run);exact rfl) | (with_reducible first | apply IfR.t | apply IfR.f | exact ThR.rt) | ((with_reducible apply ThR.nx);(try simp only [List.set_cons_succ, List.set_cons_zero, setAll])) | ((with_reducible refine ne_t ?_);omega) | ((with_reducible apply inD (k := true));exact rfl;exact rfl;exact rfl;decide) | ((with_reducible apply inD (k := false));exact rfl;exact rfl;exact rfl;decide) | ((with_reducible apply rb_ixT);exact rfl) | (with_reducible first | apply m2_run | apply bool_run | apply rb_or | apply rb_ifE | apply rb_seq | apply rb_if | apply ret_run | apply rb_asg) | ((with_reducible apply envP);exact rfl)))
    | lui d a =>
      have z : ¬ d = 0 := z
      refine call_ret f_writes_eq rfl ?_; unfold b_writes; (try simp only [Od.d]); simp only [startE, List.map_cons, List.map_nil, List.length_cons, List.length_nil, List.cons_append, List.nil_append, Nat.zero_add, Nat.reduceAdd, Nat.reduceSub, List.replicate]; repeat (first | (with_reducible first | exact c_run | exact nil_run) | ((with_reducible apply var_run);exact rfl) | (with_reducible first | apply IfR.t | apply IfR.f) | ((with_reducible apply ThR.rt');exact rfl) | ((with_reducible apply ThR.nx);(try simp only [List.set_cons_succ, List.set_cons_zero, setAll])) | ((with_reducible refine ne_t ?_);omega) | ((with_reducible apply inD (k := true));exact rfl;exact rfl;exact rfl;decide) | ((with_reducible apply inD (k := false));exact rfl;exact rfl;exact rfl;decide) | ((with_reducible apply rb_ixT);exact rfl) | (with_reducible first | apply m2_run | apply cons_run | apply tup_run | apply bool_run | apply rb_or | apply rb_ifE | apply rb_seq | apply rb_if | apply ret_run | apply rb_asg) | ((with_reducible apply envP);exact rfl))
    | lw d a b =>
      have z : ¬ d = 0 := z
      refine call_ret f_writes_eq rfl ?_; unfold b_writes; (try simp only [Od.d]); simp only [startE, List.map_cons, List.map_nil, List.length_cons, List.length_nil, List.cons_append, List.nil_append, Nat.zero_add, Nat.reduceAdd, Nat.reduceSub, List.replicate]; repeat (first | (with_reducible first | exact c_run | exact nil_run) | ((with_reducible apply var_run);exact rfl) | (with_reducible first | apply IfR.t | apply IfR.f) | ((with_reducible apply ThR.rt');exact rfl) | ((with_reducible apply ThR.nx);(try simp only [List.set_cons_succ, List.set_cons_zero, setAll])) | ((with_reducible refine ne_t ?_);omega) | ((with_reducible apply inD (k := true));exact rfl;exact rfl;exact rfl;decide) | ((with_reducible apply inD (k := false));exact rfl;exact rfl;exact rfl;decide) | ((with_reducible apply rb_ixT);exact rfl) | (with_reducible first | apply m2_run | apply cons_run | apply tup_run | apply bool_run | apply rb_or | apply rb_ifE | apply rb_seq | apply rb_if | apply ret_run | apply rb_asg) | ((with_reducible apply envP);exact rfl))
    | jal d a =>
      have z : ¬ d = 0 := z
      refine call_ret f_writes_eq rfl ?_; unfold b_writes; (try simp only [Od.d]); simp only [startE, List.map_cons, List.map_nil, List.length_cons, List.length_nil, List.cons_append, List.nil_append, Nat.zero_add, Nat.reduceAdd, Nat.reduceSub, List.replicate]; repeat (first | (with_reducible first | exact c_run | exact nil_run) | ((with_reducible apply var_run);exact rfl) | (with_reducible first | apply IfR.t | apply IfR.f) | ((with_reducible apply ThR.rt');exact rfl) | ((with_reducible apply ThR.nx);(try simp only [List.set_cons_succ, List.set_cons_zero, setAll])) | ((with_reducible refine ne_t ?_);omega) | ((with_reducible apply inD (k := true));exact rfl;exact rfl;exact rfl;decide) | ((with_reducible apply inD (k := false));exact rfl;exact rfl;exact rfl;decide) | ((with_reducible apply rb_ixT);exact rfl) | (with_reducible first | apply m2_run | apply cons_run | apply tup_run | apply bool_run | apply rb_or | apply rb_ifE | apply rb_seq | apply rb_if | apply ret_run | apply rb_asg) | ((with_reducible apply envP);exact rfl))
    | jalr d a b =>
      have z : ¬ d = 0 := z
      refine call_ret f_writes_eq rfl ?_; unfold b_writes; (try simp only [Od.d]); simp only [startE, List.map_cons, List.map_nil, List.length_cons, List.length_nil, List.cons_append, List.nil_append, Nat.zero_add, Nat.reduceAdd, Nat.reduceSub, List.replicate]; repeat (first | (with_reducible first | exact c_run | exact nil_run) | ((with_reducible apply var_run);exact rfl) | (with_reducible first | apply IfR.t | apply IfR.f) | ((with_reducible apply ThR.rt');exact rfl) | ((with_reducible apply ThR.nx);(try simp only [List.set_cons_succ, List.set_cons_zero, setAll])) | ((with_reducible refine ne_t ?_);omega) | ((with_reducible apply inD (k := true));exact rfl;exact rfl;exact rfl;decide) | ((with_reducible apply inD (k := false));exact rfl;exact rfl;exact rfl;decide) | ((with_reducible apply rb_ixT);exact rfl) | (with_reducible first | apply m2_run | apply cons_run | apply tup_run | apply bool_run | apply rb_or | apply rb_ifE | apply rb_seq | apply rb_if | apply ret_run | apply rb_asg) | ((with_reducible apply envP);exact rfl))
    | _ => exact (z rfl).elim
theorem ord_r {v : Int} (k : Od.Rg v) {x0 x1 x2 x3 : Option D} {h : Hm} : l_is_order_0 [x0, x1, some (.str "r"), some (.int v)] h = .next [x0, x1, some (.str "r"), some (.int v)] h := by
  have i1 : mIsi "int" (mVar 3) [x0, x1, some (.str "r"), some (.int v)] h = .ok (.bl true) h := rfl
  have i2 : mIsi "bool" (mVar 3) [x0, x1, some (.str "r"), some (.int v)] h = .ok (.bl false) h := rfl
  obtain ⟨k1, k2⟩ := k
  unfold l_is_order_0
  repeat (first | (with_reducible first | exact i1 | exact i2 | exact c_run | exact okr | exact nils_run) | ((with_reducible apply var_run);exact rfl) | (with_reducible first | exact NotB.t | apply IfR.t | apply IfR.f) | ((with_reducible apply ThR.nx);(try simp only [List.set_cons_succ, List.set_cons_zero, setAll])) | ((with_reducible refine lt_t ?_);omega) | ((with_reducible refine le_t ?_);omega) | ((with_reducible refine eqs_t ?_);decide) | ((with_reducible refine eqs_f ?_);decide) | (with_reducible first | apply m2_run | apply bool_run | apply tru_any | apply rb_and | apply rb_or | apply rb_not | apply rb_chain | apply rb_seq | apply rb_if | apply rb_bind))
theorem ord_n {v : Int} (k : Od.Nu v) {x0 x1 x2 x3 : Option D} {h : Hm} : l_is_order_0 [x0, x1, some (.str "n"), some (.int v)] h = .next [x0, x1, some (.str "n"), some (.int v)] h := by
  have i1 : mIsi "int" (mVar 3) [x0, x1, some (.str "n"), some (.int v)] h = .ok (.bl true) h := rfl
  have i2 : mIsi "bool" (mVar 3) [x0, x1, some (.str "n"), some (.int v)] h = .ok (.bl false) h := rfl
  obtain ⟨k1, k2⟩ := k
  unfold l_is_order_0
  repeat (first | (with_reducible first | exact i1 | exact i2 | exact c_run | exact okr | exact nils_run) | ((with_reducible apply var_run);exact rfl) | (with_reducible first | exact NotB.t | apply IfR.t | apply IfR.f) | ((with_reducible apply ThR.nx);(try simp only [List.set_cons_succ, List.set_cons_zero, setAll])) | ((with_reducible refine lt_t ?_);omega) | ((with_reducible refine le_t ?_);omega) | ((with_reducible refine eqs_t ?_);decide) | ((with_reducible refine eqs_f ?_);decide) | (with_reducible first | apply m2_run | apply bool_run | apply tru_any | apply rb_and | apply rb_or | apply rb_not | apply rb_chain | apply neg_run | apply rb_seq | apply rb_if | apply rb_bind))
theorem ord_loop {x0 x1 : Option D} {h : Hm} : ∀ (ps : List (Str × Int)) (x2 x3 : Option D), (∀ p ∈ ps, (p.1 = "r" ∧ Od.Rg p.2) ∨ (p.1 = "n" ∧ Od.Nu p.2)) → ∃ y2 y3, forL [] (gU 2 (gsCons (gN 2) (gsCons (gN 3) gsNil))) l_is_order_0 (ps.map fun p => D.tup [.str p.1, .int p.2]) [x0, x1, x2, x3] h = .next [x0, x1, y2, y3] h
  | [], x2, x3, _ => ⟨x2, x3, forL_nil gdOk_nil⟩
  | p :: ps, x2, x3, w => by
    obtain ⟨y2, y3, ih⟩ := ord_loop (x0 := x0) (x1 := x1) (h := h) ps (some (.str p.1)) (some (.int p.2)) fun q hq => w q (List.mem_cons_of_mem _ hq)
    refine ⟨y2, y3, forL_next (e1 := [x0, x1, some (.str p.1), some (.int p.2)]) (h1 := h) gdOk_nil rfl ?_ ih⟩
    rcases w p List.mem_cons_self with ⟨e, k⟩ | ⟨e, k⟩
    · rw [e]
      exact ord_r k (x2 := none) (x3 := none)
    · rw [e]
      exact ord_n k (x2 := none) (x3 := none)
theorem isord_run {o : Od} (k : o.ok) (h : Hm) : f_is_order [o.d] h = .ok (.bl true) h := by
  refine call_ret f_is_order_eq rfl ?_
  unfold b_is_order
  rw [Od.d_eq]
  obtain ⟨y2, y3, L⟩ := ord_loop (x0 := some (.tup (.str o.nm :: o.args.map D.int))) (x1 := some (.str o.kd)) (h := h) o.kv none none (Od.kv_ok k)
  have i1 : mIsi "tuple" (mVar 0) [some (.tup (.str o.nm :: o.args.map D.int)), none, none, none] h = .ok (.bl true) h := rfl
  have i2 : fEq (.tup (.str o.nm :: o.args.map D.int)) (.tup []) h = .ok (.bl false) h := eq_nilT (by rw [← Od.d_eq]; exact Od.py_ok k h 58)
  have i3 : fIx (.tup (.str o.nm :: o.args.map D.int)) (.int 0) h = .ok (.str o.nm) h := rb_ixT (by unfold L2.atI ixN; simp)
  have i4 : fIn true (.str o.nm) d_NAMES h = .ok (.bl false) h := by
    refine inD (ds := NAM.map D.str) rfl rfl rfl ?_
    rw [inF_str, decide_eq_true (Od.nm_in k)]
    rfl
  have i5 := shape_run k h
  have i6 : fLen [.tup (.str o.nm :: o.args.map D.int)] h = .ok (.int ((o.args.length : Int) + 1)) h := by
    show R.ok (D.int ((D.str o.nm :: o.args.map D.int).length : Nat)) h = _
    rw [List.length_cons, List.length_map]
    rfl
  have i7 : fLen [.str o.kd] h = .ok (.int (o.args.length : Int)) h := by
    cases o <;> rfl
  have i8 : mZipS (mCons (mVar 1) (mCons (mSl (mVar 0) (mSome (mC (.int 1))) mNo) mNil)) [some (.tup (.str o.nm :: o.args.map D.int)), some (.str o.kd), none, none] h = .ok (zipD (signs o.kd) (o.args.map D.int), []) h := by
    have e : mCons (mVar 1) (mCons (mSl (mVar 0) (mSome (mC (.int 1))) mNo) mNil) [some (.tup (.str o.nm :: o.args.map D.int)), some (.str o.kd), none, none] h = .ok [.str o.kd, .tup (o.args.map D.int)] h := by
      have c : fSl (.tup (.str o.nm :: o.args.map D.int)) (some 1) none h = .ok (.tup (o.args.map D.int)) h := by
        rw [sl_t, cutD_tl]
      repeat (first | (with_reducible first | exact c | exact c_run | exact nil_run | exact no_run) | ((with_reducible apply var_run);exact rfl) | (with_reducible first | apply cons_run | apply some_run | apply sl_run))
    unfold mZipS
    rw [e, bind_ok]
    simp only [Od.kd_asc, if_true]
  rw [← Od.zip_kv] at L
  have i9 := for_run i8 L
  generalize (o.args.length : Int) = n at i6 i7
  simp only [startE, List.map_cons, List.map_nil, List.length_cons, List.length_nil, List.cons_append, List.nil_append, Nat.zero_add, Nat.reduceAdd, Nat.reduceSub, List.replicate]
  repeat (first | (with_reducible first | exact i1 | exact i2 | exact i3 | exact i4 | exact i5 | exact i6 | exact i7 | exact i9 | exact c_run | exact nil_run | exact nils_run) | ((with_reducible apply var_run);exact rfl) | (with_reducible first | exact NotB.t | apply IfR.f) | ((with_reducible apply ThR.nx);(try simp only [List.set_cons_succ, List.set_cons_zero, setAll])) | with_reducible exact fAdd_i | ((with_reducible refine ne_f ?_);omega) | (with_reducible first | apply m2_run | apply cons_run | apply tup_run | apply bool_run | apply tru_any | apply rb_or | apply rb_not | apply call_run | apply rb_callF) | ((with_reducible refine lenP ?_);exact rfl) | (with_reducible first | apply rb_seq | apply rb_if | apply ret_run | apply rb_asg) | ((with_reducible apply envP);exact rfl))
theorem checkord_run {o : Od} (k : o.ok) (h : Hm) : f_check_order [o.d] h = .ok .non h := by
  refine call_next f_check_order_eq (e1 := [some o.d]) rfl ?_
  unfold b_check_order
  simp only [startE, List.map_cons, List.map_nil, List.length_cons, List.length_nil, List.cons_append, List.nil_append, Nat.zero_add, Nat.reduceAdd, Nat.reduceSub, List.replicate]
  have i := isord_run k h
  repeat (first | (with_reducible first | exact i | exact nil_run | exact nils_run) | ((with_reducible apply var_run);exact rfl) | (with_reducible first | exact NotB.t | apply IfR.f | apply cons_run | apply tru_any | apply rb_not | apply rb_callF) | ((with_reducible refine lenP ?_);exact rfl) | with_reducible apply rb_if)
end K03
end MM
namespace MM
namespace K03
open PySem L2
theorem fx0 {d : D} {r : List D} {h : Hm} : fIx (.tup (d :: r)) (.int 0) h = .ok d h := rb_ixT (by unfold L2.atI ixN; simp)
theorem reck_add {a b : Int} (ha : Wd a) (hb : Wd b) (r : List D) (h : Hm) : ∃ g, f_reckoned [.tup (.str "add" :: r), .int a, .int b] h = .ok (.int (rck "add" a b)) (h ++ g) := by
  have e := add_run a b h
  refine ⟨[], call_ret f_reckoned_eq rfl ?_⟩
  unfold b_reckoned
  simp only [startE, List.map_cons, List.map_nil, List.length_cons, List.length_nil, List.cons_append, List.nil_append, Nat.zero_add, Nat.reduceAdd, Nat.reduceSub, List.replicate]
  rw [List.append_nil]
  repeat (first | (with_reducible first | exact fx0 | exact e | exact c_run | exact nil_run) | ((with_reducible apply var_run);exact rfl) | with_reducible apply IfR.t | ((with_reducible apply ThR.rt');exact rfl) | ((with_reducible apply ThR.nx);(try simp only [List.set_cons_succ, List.set_cons_zero, setAll])) | ((with_reducible apply inD (k := true));exact rfl;exact rfl;exact rfl;decide) | (with_reducible first | apply m2_run | apply cons_run | apply tup_run | apply bool_run | apply rb_callF) | ((with_reducible refine lenP ?_);exact rfl) | (with_reducible first | apply rb_seq | apply rb_if | apply ret_run | apply rb_asg) | ((with_reducible apply envP);exact rfl))
theorem reck_sub {a b : Int} (ha : Wd a) (hb : Wd b) (r : List D) (h : Hm) : ∃ g, f_reckoned [.tup (.str "sub" :: r), .int a, .int b] h = .ok (.int (rck "sub" a b)) (h ++ g) := by
  have e := less_run a b h
  refine ⟨[], call_ret f_reckoned_eq rfl ?_⟩
  unfold b_reckoned
  simp only [startE, List.map_cons, List.map_nil, List.length_cons, List.length_nil, List.cons_append, List.nil_append, Nat.zero_add, Nat.reduceAdd, Nat.reduceSub, List.replicate]
  rw [List.append_nil]
  repeat (first | (with_reducible first | exact fx0 | exact e | exact c_run | exact nil_run | exact nils_run) | ((with_reducible apply var_run);exact rfl) | (with_reducible first | apply IfR.t | apply IfR.f) | ((with_reducible apply ThR.rt');exact rfl) | ((with_reducible apply ThR.nx);(try simp only [List.set_cons_succ, List.set_cons_zero, setAll])) | ((with_reducible refine eqs_t ?_);decide) | ((with_reducible apply inD (k := false));exact rfl;exact rfl;exact rfl;decide) | (with_reducible first | apply m2_run | apply cons_run | apply tup_run | apply bool_run | apply rb_callF) | ((with_reducible refine lenP ?_);exact rfl) | (with_reducible first | apply rb_seq | apply rb_if | apply ret_run | apply rb_asg) | ((with_reducible apply envP);exact rfl))
theorem reck_mul {a b : Int} (ha : Wd a) (hb : Wd b) (r : List D) (h : Hm) : ∃ g, f_reckoned [.tup (.str "mul" :: r), .int a, .int b] h = .ok (.int (rck "mul" a b)) (h ++ g) := by
  have cm : CMul a b := .inl ⟨by have := ha.1; omega, by have := ha.2; omega⟩
  have e := times_run a b h cm
  refine ⟨[], call_ret f_reckoned_eq rfl ?_⟩
  unfold b_reckoned
  simp only [startE, List.map_cons, List.map_nil, List.length_cons, List.length_nil, List.cons_append, List.nil_append, Nat.zero_add, Nat.reduceAdd, Nat.reduceSub, List.replicate]
  rw [List.append_nil]
  repeat (first | (with_reducible first | exact fx0 | exact e | exact c_run | exact nil_run | exact nils_run) | ((with_reducible apply var_run);exact rfl) | (with_reducible first | apply IfR.t | apply IfR.f) | ((with_reducible apply ThR.rt');exact rfl) | ((with_reducible apply ThR.nx);(try simp only [List.set_cons_succ, List.set_cons_zero, setAll])) | ((with_reducible refine eqs_t ?_);decide) | ((with_reducible refine eqs_f ?_);decide) | ((with_reducible apply inD (k := false));exact rfl;exact rfl;exact rfl;decide) | (with_reducible first | apply m2_run | apply cons_run | apply tup_run | apply bool_run | apply rb_callF) | ((with_reducible refine lenP ?_);exact rfl) | (with_reducible first | apply rb_seq | apply rb_if | apply ret_run | apply rb_asg) | ((with_reducible apply envP);exact rfl))
theorem reck_shl {a b : Int} (ha : Wd a) (hb : Wd b) (r : List D) (h : Hm) : ∃ g, f_reckoned [.tup (.str "shl" :: r), .int a, .int b] h = .ok (.int (rck "shl" a b)) (h ++ g) := by
  have e := up_run a b h
  refine ⟨[], call_ret f_reckoned_eq rfl ?_⟩
  unfold b_reckoned
  simp only [startE, List.map_cons, List.map_nil, List.length_cons, List.length_nil, List.cons_append, List.nil_append, Nat.zero_add, Nat.reduceAdd, Nat.reduceSub, List.replicate]
  rw [List.append_nil]
  repeat (first | (with_reducible first | exact fx0 | exact e | exact c_run | exact nil_run | exact nils_run) | ((with_reducible apply var_run);exact rfl) | (with_reducible first | apply IfR.t | apply IfR.f) | ((with_reducible apply ThR.rt');exact rfl) | ((with_reducible apply ThR.nx);(try simp only [List.set_cons_succ, List.set_cons_zero, setAll])) | ((with_reducible refine eqs_f ?_);decide) | ((with_reducible apply inD (k := true));exact rfl;exact rfl;exact rfl;decide) | ((with_reducible apply inD (k := false));exact rfl;exact rfl;exact rfl;decide) | (with_reducible first | apply m2_run | apply cons_run | apply tup_run | apply bool_run | apply rb_callF) | ((with_reducible refine lenP ?_);exact rfl) | (with_reducible first | apply rb_seq | apply rb_if | apply ret_run | apply rb_asg) | ((with_reducible apply envP);exact rfl))
theorem reck_shr {a b : Int} (ha : Wd a) (hb : Wd b) (r : List D) (h : Hm) : ∃ g, f_reckoned [.tup (.str "shr" :: r), .int a, .int b] h = .ok (.int (rck "shr" a b)) (h ++ g) := by
  have e := down_run a b h
  refine ⟨[], call_ret f_reckoned_eq rfl ?_⟩
  unfold b_reckoned
  simp only [startE, List.map_cons, List.map_nil, List.length_cons, List.length_nil, List.cons_append, List.nil_append, Nat.zero_add, Nat.reduceAdd, Nat.reduceSub, List.replicate]
  rw [List.append_nil]
  repeat (first | (with_reducible first | exact fx0 | exact e | exact c_run | exact nil_run | exact nils_run) | ((with_reducible apply var_run);exact rfl) | (with_reducible first | apply IfR.t | apply IfR.f) | ((with_reducible apply ThR.rt');exact rfl) | ((with_reducible apply ThR.nx);(try simp only [List.set_cons_succ, List.set_cons_zero, setAll])) | ((with_reducible refine eqs_t ?_);decide) | ((with_reducible refine eqs_f ?_);decide) | ((with_reducible apply inD (k := false));exact rfl;exact rfl;exact rfl;decide) | (with_reducible first | apply m2_run | apply cons_run | apply tup_run | apply bool_run | apply rb_callF) | ((with_reducible refine lenP ?_);exact rfl) | (with_reducible first | apply rb_seq | apply rb_if | apply ret_run | apply rb_asg) | ((with_reducible apply envP);exact rfl))
theorem reck_sar {a b : Int} (ha : Wd a) (hb : Wd b) (r : List D) (h : Hm) : ∃ g, f_reckoned [.tup (.str "sar" :: r), .int a, .int b] h = .ok (.int (rck "sar" a b)) (h ++ g) := by
  have e := downs_run a b h
  refine ⟨[], call_ret f_reckoned_eq rfl ?_⟩
  unfold b_reckoned
  simp only [startE, List.map_cons, List.map_nil, List.length_cons, List.length_nil, List.cons_append, List.nil_append, Nat.zero_add, Nat.reduceAdd, Nat.reduceSub, List.replicate]
  rw [List.append_nil]
  repeat (first | (with_reducible first | exact fx0 | exact e | exact c_run | exact nil_run | exact nils_run) | ((with_reducible apply var_run);exact rfl) | (with_reducible first | apply IfR.t | apply IfR.f) | ((with_reducible apply ThR.rt');exact rfl) | ((with_reducible apply ThR.nx);(try simp only [List.set_cons_succ, List.set_cons_zero, setAll])) | ((with_reducible refine eqs_t ?_);decide) | ((with_reducible refine eqs_f ?_);decide) | ((with_reducible apply inD (k := false));exact rfl;exact rfl;exact rfl;decide) | (with_reducible first | apply m2_run | apply cons_run | apply tup_run | apply bool_run | apply rb_callF) | ((with_reducible refine lenP ?_);exact rfl) | (with_reducible first | apply rb_seq | apply rb_if | apply ret_run | apply rb_asg) | ((with_reducible apply envP);exact rfl))
theorem reck_slt {a b : Int} (ha : Wd a) (hb : Wd b) (r : List D) (h : Hm) : ∃ g, f_reckoned [.tup (.str "slt" :: r), .int a, .int b] h = .ok (.int (rck "slt" a b)) (h ++ g) := by
  have e := isless_run a b h
  simp only [decide_eq_true_eq] at e
  refine ⟨[], call_ret f_reckoned_eq rfl ?_⟩
  unfold b_reckoned
  simp only [startE, List.map_cons, List.map_nil, List.length_cons, List.length_nil, List.cons_append, List.nil_append, Nat.zero_add, Nat.reduceAdd, Nat.reduceSub, List.replicate]
  rw [List.append_nil]
  repeat (first | (with_reducible first | exact fx0 | exact e | exact c_run | exact nil_run | exact nils_run) | ((with_reducible apply var_run);exact rfl) | (with_reducible first | apply IfR.t | apply IfR.f) | ((with_reducible apply ThR.rt');exact rfl) | ((with_reducible apply ThR.nx);(try simp only [List.set_cons_succ, List.set_cons_zero, setAll])) | ((with_reducible refine eqs_f ?_);decide) | ((with_reducible apply inD (k := true));exact rfl;exact rfl;exact rfl;decide) | ((with_reducible apply inD (k := false));exact rfl;exact rfl;exact rfl;decide) | (with_reducible first | apply m2_run | apply cons_run | apply tup_run | apply bool_run | apply rb_callF) | ((with_reducible refine lenP ?_);exact rfl) | (with_reducible first | apply rb_seq | apply rb_if | apply ret_run | apply rb_asg) | ((with_reducible apply envP);exact rfl))
theorem reck_sltu {a b : Int} (ha : Wd a) (hb : Wd b) (r : List D) (h : Hm) : ∃ g, f_reckoned [.tup (.str "sltu" :: r), .int a, .int b] h = .ok (.int (rck "sltu" a b)) (h ++ g) := by
  have e := isbelow_run a b h
  simp only [decide_eq_true_eq] at e
  refine ⟨[], call_ret f_reckoned_eq rfl ?_⟩
  unfold b_reckoned
  simp only [startE, List.map_cons, List.map_nil, List.length_cons, List.length_nil, List.cons_append, List.nil_append, Nat.zero_add, Nat.reduceAdd, Nat.reduceSub, List.replicate]
  rw [List.append_nil]
  repeat (first | (with_reducible first | exact fx0 | exact e | exact c_run | exact nil_run | exact nils_run) | ((with_reducible apply var_run);exact rfl) | (with_reducible first | apply IfR.t | apply IfR.f) | ((with_reducible apply ThR.rt');exact rfl) | ((with_reducible apply ThR.nx);(try simp only [List.set_cons_succ, List.set_cons_zero, setAll])) | ((with_reducible refine eqs_t ?_);decide) | ((with_reducible refine eqs_f ?_);decide) | ((with_reducible apply inD (k := false));exact rfl;exact rfl;exact rfl;decide) | (with_reducible first | apply m2_run | apply cons_run | apply tup_run | apply bool_run | apply rb_callF) | ((with_reducible refine lenP ?_);exact rfl) | (with_reducible first | apply rb_seq | apply rb_if | apply ret_run | apply rb_asg) | ((with_reducible apply envP);exact rfl))
theorem reck_addi {a b : Int} (ha : Wd a) (hb : Wd b) (r : List D) (h : Hm) : ∃ g, f_reckoned [.tup (.str "addi" :: r), .int a, .int b] h = .ok (.int (rck "addi" a b)) (h ++ g) := by
  have e := add_run a b h
  refine ⟨[], call_ret f_reckoned_eq rfl ?_⟩
  unfold b_reckoned
  simp only [startE, List.map_cons, List.map_nil, List.length_cons, List.length_nil, List.cons_append, List.nil_append, Nat.zero_add, Nat.reduceAdd, Nat.reduceSub, List.replicate]
  rw [List.append_nil]
  repeat (first | (with_reducible first | exact fx0 | exact e | exact c_run | exact nil_run) | ((with_reducible apply var_run);exact rfl) | with_reducible apply IfR.t | ((with_reducible apply ThR.rt');exact rfl) | ((with_reducible apply ThR.nx);(try simp only [List.set_cons_succ, List.set_cons_zero, setAll])) | ((with_reducible apply inD (k := true));exact rfl;exact rfl;exact rfl;decide) | (with_reducible first | apply m2_run | apply cons_run | apply tup_run | apply bool_run | apply rb_callF) | ((with_reducible refine lenP ?_);exact rfl) | (with_reducible first | apply rb_seq | apply rb_if | apply ret_run | apply rb_asg) | ((with_reducible apply envP);exact rfl))
theorem reck_shli {a b : Int} (ha : Wd a) (hb : Wd b) (r : List D) (h : Hm) : ∃ g, f_reckoned [.tup (.str "shli" :: r), .int a, .int b] h = .ok (.int (rck "shli" a b)) (h ++ g) := by
  have e := up_run a b h
  refine ⟨[], call_ret f_reckoned_eq rfl ?_⟩
  unfold b_reckoned
  simp only [startE, List.map_cons, List.map_nil, List.length_cons, List.length_nil, List.cons_append, List.nil_append, Nat.zero_add, Nat.reduceAdd, Nat.reduceSub, List.replicate]
  rw [List.append_nil]
  repeat (first | (with_reducible first | exact fx0 | exact e | exact c_run | exact nil_run | exact nils_run) | ((with_reducible apply var_run);exact rfl) | (with_reducible first | apply IfR.t | apply IfR.f) | ((with_reducible apply ThR.rt');exact rfl) | ((with_reducible apply ThR.nx);(try simp only [List.set_cons_succ, List.set_cons_zero, setAll])) | ((with_reducible refine eqs_f ?_);decide) | ((with_reducible apply inD (k := true));exact rfl;exact rfl;exact rfl;decide) | ((with_reducible apply inD (k := false));exact rfl;exact rfl;exact rfl;decide) | (with_reducible first | apply m2_run | apply cons_run | apply tup_run | apply bool_run | apply rb_callF) | ((with_reducible refine lenP ?_);exact rfl) | (with_reducible first | apply rb_seq | apply rb_if | apply ret_run | apply rb_asg) | ((with_reducible apply envP);exact rfl))
theorem reck_slti {a b : Int} (ha : Wd a) (hb : Wd b) (r : List D) (h : Hm) : ∃ g, f_reckoned [.tup (.str "slti" :: r), .int a, .int b] h = .ok (.int (rck "slti" a b)) (h ++ g) := by
  have e := isless_run a b h
  simp only [decide_eq_true_eq] at e
  refine ⟨[], call_ret f_reckoned_eq rfl ?_⟩
  unfold b_reckoned
  simp only [startE, List.map_cons, List.map_nil, List.length_cons, List.length_nil, List.cons_append, List.nil_append, Nat.zero_add, Nat.reduceAdd, Nat.reduceSub, List.replicate]
  rw [List.append_nil]
  repeat (first | (with_reducible first | exact fx0 | exact e | exact c_run | exact nil_run | exact nils_run) | ((with_reducible apply var_run);exact rfl) | (with_reducible first | apply IfR.t | apply IfR.f) | ((with_reducible apply ThR.rt');exact rfl) | ((with_reducible apply ThR.nx);(try simp only [List.set_cons_succ, List.set_cons_zero, setAll])) | ((with_reducible refine eqs_f ?_);decide) | ((with_reducible apply inD (k := true));exact rfl;exact rfl;exact rfl;decide) | ((with_reducible apply inD (k := false));exact rfl;exact rfl;exact rfl;decide) | (with_reducible first | apply m2_run | apply cons_run | apply tup_run | apply bool_run | apply rb_callF) | ((with_reducible refine lenP ?_);exact rfl) | (with_reducible first | apply rb_seq | apply rb_if | apply ret_run | apply rb_asg) | ((with_reducible apply envP);exact rfl))
theorem reck_and {a b : Int} (ha : Wd a) (hb : Wd b) (r : List D) (h : Hm) : ∃ g, f_reckoned [.tup (.str "and" :: r), .int a, .int b] h = .ok (.int (rck "and" a b)) (h ++ g) := by
  obtain ⟨g, e⟩ := shared_run a b h
  refine ⟨g, call_ret f_reckoned_eq rfl ?_⟩
  unfold b_reckoned
  simp only [startE, List.map_cons, List.map_nil, List.length_cons, List.length_nil, List.cons_append, List.nil_append, Nat.zero_add, Nat.reduceAdd, Nat.reduceSub, List.replicate]
  repeat (first | (with_reducible first | exact fx0 | exact e | exact c_run | exact nil_run | exact nils_run) | ((with_reducible apply var_run);exact rfl) | (with_reducible first | apply IfR.t | apply IfR.f) | ((with_reducible apply ThR.rt');exact rfl) | ((with_reducible apply ThR.nx);(try simp only [List.set_cons_succ, List.set_cons_zero, setAll])) | ((with_reducible refine eqs_f ?_);decide) | ((with_reducible apply inD (k := true));exact rfl;exact rfl;exact rfl;decide) | ((with_reducible apply inD (k := false));exact rfl;exact rfl;exact rfl;decide) | (with_reducible first | apply m2_run | apply cons_run | apply tup_run | apply bool_run | apply rb_callF) | ((with_reducible refine lenP ?_);exact rfl) | (with_reducible first | apply rb_seq | apply rb_if | apply ret_run | apply rb_asg) | ((with_reducible apply envP);exact rfl))
theorem reck_or {a b : Int} (ha : Wd a) (hb : Wd b) (r : List D) (h : Hm) : ∃ g, f_reckoned [.tup (.str "or" :: r), .int a, .int b] h = .ok (.int (rck "or" a b)) (h ++ g) := by
  obtain ⟨g, e⟩ := either_run a b h
  refine ⟨g, call_ret f_reckoned_eq rfl ?_⟩
  unfold b_reckoned
  simp only [startE, List.map_cons, List.map_nil, List.length_cons, List.length_nil, List.cons_append, List.nil_append, Nat.zero_add, Nat.reduceAdd, Nat.reduceSub, List.replicate]
  repeat (first | (with_reducible first | exact fx0 | exact e | exact c_run | exact nil_run | exact nils_run) | ((with_reducible apply var_run);exact rfl) | (with_reducible first | apply IfR.t | apply IfR.f) | ((with_reducible apply ThR.rt');exact rfl) | ((with_reducible apply ThR.nx);(try simp only [List.set_cons_succ, List.set_cons_zero, setAll])) | ((with_reducible refine eqs_f ?_);decide) | ((with_reducible apply inD (k := true));exact rfl;exact rfl;exact rfl;decide) | ((with_reducible apply inD (k := false));exact rfl;exact rfl;exact rfl;decide) | (with_reducible first | apply m2_run | apply cons_run | apply tup_run | apply bool_run | apply rb_callF) | ((with_reducible refine lenP ?_);exact rfl) | (with_reducible first | apply rb_seq | apply rb_if | apply ret_run | apply rb_asg) | ((with_reducible apply envP);exact rfl))
theorem reck_xor {a b : Int} (ha : Wd a) (hb : Wd b) (r : List D) (h : Hm) : ∃ g, f_reckoned [.tup (.str "xor" :: r), .int a, .int b] h = .ok (.int (rck "xor" a b)) (h ++ g) := by
  obtain ⟨g, e⟩ := unlike_run a b h
  refine ⟨g, call_ret f_reckoned_eq rfl ?_⟩
  unfold b_reckoned
  simp only [startE, List.map_cons, List.map_nil, List.length_cons, List.length_nil, List.cons_append, List.nil_append, Nat.zero_add, Nat.reduceAdd, Nat.reduceSub, List.replicate]
  repeat (first | (with_reducible first | exact fx0 | exact e | exact c_run | exact nil_run | exact nils_run) | ((with_reducible apply var_run);exact rfl) | (with_reducible first | apply IfR.t | apply IfR.f) | ((with_reducible apply ThR.rt');exact rfl) | ((with_reducible apply ThR.nx);(try simp only [List.set_cons_succ, List.set_cons_zero, setAll])) | ((with_reducible refine eqs_f ?_);decide) | ((with_reducible apply inD (k := true));exact rfl;exact rfl;exact rfl;decide) | ((with_reducible apply inD (k := false));exact rfl;exact rfl;exact rfl;decide) | (with_reducible first | apply m2_run | apply cons_run | apply tup_run | apply bool_run | apply rb_callF) | ((with_reducible refine lenP ?_);exact rfl) | (with_reducible first | apply rb_seq | apply rb_if | apply ret_run | apply rb_asg) | ((with_reducible apply envP);exact rfl))
theorem reck_andi {a b : Int} (ha : Wd a) (hb : Wd b) (r : List D) (h : Hm) : ∃ g, f_reckoned [.tup (.str "andi" :: r), .int a, .int b] h = .ok (.int (rck "andi" a b)) (h ++ g) := by
  obtain ⟨g, e⟩ := shared_run a b h
  refine ⟨g, call_ret f_reckoned_eq rfl ?_⟩
  unfold b_reckoned
  simp only [startE, List.map_cons, List.map_nil, List.length_cons, List.length_nil, List.cons_append, List.nil_append, Nat.zero_add, Nat.reduceAdd, Nat.reduceSub, List.replicate]
  repeat (first | (with_reducible first | exact fx0 | exact e | exact c_run | exact nil_run | exact nils_run) | ((with_reducible apply var_run);exact rfl) | (with_reducible first | apply IfR.t | apply IfR.f) | ((with_reducible apply ThR.rt');exact rfl) | ((with_reducible apply ThR.nx);(try simp only [List.set_cons_succ, List.set_cons_zero, setAll])) | ((with_reducible refine eqs_f ?_);decide) | ((with_reducible apply inD (k := true));exact rfl;exact rfl;exact rfl;decide) | ((with_reducible apply inD (k := false));exact rfl;exact rfl;exact rfl;decide) | (with_reducible first | apply m2_run | apply cons_run | apply tup_run | apply bool_run | apply rb_callF) | ((with_reducible refine lenP ?_);exact rfl) | (with_reducible first | apply rb_seq | apply rb_if | apply ret_run | apply rb_asg) | ((with_reducible apply envP);exact rfl))
theorem reck_ori {a b : Int} (ha : Wd a) (hb : Wd b) (r : List D) (h : Hm) : ∃ g, f_reckoned [.tup (.str "ori" :: r), .int a, .int b] h = .ok (.int (rck "ori" a b)) (h ++ g) := by
  obtain ⟨g, e⟩ := either_run a b h
  refine ⟨g, call_ret f_reckoned_eq rfl ?_⟩
  unfold b_reckoned
  simp only [startE, List.map_cons, List.map_nil, List.length_cons, List.length_nil, List.cons_append, List.nil_append, Nat.zero_add, Nat.reduceAdd, Nat.reduceSub, List.replicate]
  repeat (first | (with_reducible first | exact fx0 | exact e | exact c_run | exact nil_run | exact nils_run) | ((with_reducible apply var_run);exact rfl) | (with_reducible first | apply IfR.t | apply IfR.f) | ((with_reducible apply ThR.rt');exact rfl) | ((with_reducible apply ThR.nx);(try simp only [List.set_cons_succ, List.set_cons_zero, setAll])) | ((with_reducible refine eqs_f ?_);decide) | ((with_reducible apply inD (k := true));exact rfl;exact rfl;exact rfl;decide) | ((with_reducible apply inD (k := false));exact rfl;exact rfl;exact rfl;decide) | (with_reducible first | apply m2_run | apply cons_run | apply tup_run | apply bool_run | apply rb_callF) | ((with_reducible refine lenP ?_);exact rfl) | (with_reducible first | apply rb_seq | apply rb_if | apply ret_run | apply rb_asg) | ((with_reducible apply envP);exact rfl))
theorem reck_xori {a b : Int} (ha : Wd a) (hb : Wd b) (r : List D) (h : Hm) : ∃ g, f_reckoned [.tup (.str "xori" :: r), .int a, .int b] h = .ok (.int (rck "xori" a b)) (h ++ g) := by
  obtain ⟨g, e⟩ := unlike_run a b h
  refine ⟨g, call_ret f_reckoned_eq rfl ?_⟩
  unfold b_reckoned
  simp only [startE, List.map_cons, List.map_nil, List.length_cons, List.length_nil, List.cons_append, List.nil_append, Nat.zero_add, Nat.reduceAdd, Nat.reduceSub, List.replicate]
  repeat (first | (with_reducible first | exact fx0 | exact e | exact c_run | exact nil_run | exact nils_run) | ((with_reducible apply var_run);exact rfl) | (with_reducible first | apply IfR.t | apply IfR.f) | ((with_reducible apply ThR.rt');exact rfl) | ((with_reducible apply ThR.nx);(try simp only [List.set_cons_succ, List.set_cons_zero, setAll])) | ((with_reducible refine eqs_f ?_);decide) | ((with_reducible apply inD (k := true));exact rfl;exact rfl;exact rfl;decide) | ((with_reducible apply inD (k := false));exact rfl;exact rfl;exact rfl;decide) | (with_reducible first | apply m2_run | apply cons_run | apply tup_run | apply bool_run | apply rb_callF) | ((with_reducible refine lenP ?_);exact rfl) | (with_reducible first | apply rb_seq | apply rb_if | apply ret_run | apply rb_asg) | ((with_reducible apply envP);exact rfl))
theorem reck_run {n : Str} (hn : n ∈ N3 ∨ n ∈ N2) {a b : Int} (ha : Wd a) (hb : Wd b) (r : List D) (h : Hm) : ∃ g, f_reckoned [.tup (.str n :: r), .int a, .int b] h = .ok (.int (rck n a b)) (h ++ g) := by
  rcases hn with hn | hn
  · exact n3_ind (P := fun n => ∃ g, f_reckoned [.tup (.str n :: r), .int a, .int b] h = .ok (.int (rck n a b)) (h ++ g)) (reck_add ha hb r h) (reck_sub ha hb r h) (reck_mul ha hb r h) (reck_and ha hb r h) (reck_or ha hb r h) (reck_xor ha hb r h) (reck_shl ha hb r h) (reck_shr ha hb r h) (reck_sar ha hb r h) (reck_slt ha hb r h) (reck_sltu ha hb r h) hn
  · exact n2_ind (P := fun n => ∃ g, f_reckoned [.tup (.str n :: r), .int a, .int b] h = .ok (.int (rck n a b)) (h ++ g)) (reck_addi ha hb r h) (reck_andi ha hb r h) (reck_ori ha hb r h) (reck_xori ha hb r h) (reck_shli ha hb r h) (reck_slti ha hb r h) hn
theorem taken_run {n : Str} (hn : n ∈ NB) (a b : Int) (r : List D) (h : Hm) : f_is_taken [.tup (.str n :: r), .int a, .int b] h = .ok (.bl (tkn n a b)) h := by
  have e := isless_run a b h
  simp only [decide_eq_true_eq] at e
  refine nb_ind (P := fun n => f_is_taken [.tup (.str n :: r), .int a, .int b] h = .ok (.bl (tkn n a b)) h) ?_ ?_ ?_ ?_ hn <;> refine call_ret f_is_taken_eq rfl ?_ <;> unfold b_is_taken <;> simp only [startE, List.map_cons, List.map_nil, List.length_cons, List.length_nil, List.cons_append, List.nil_append, Nat.zero_add, Nat.reduceAdd, Nat.reduceSub, List.replicate]
  · have e2 : fEq (.int a) (.int b) h = .ok (.bl (tkn "beq" a b)) h := fEq_i
    repeat (first | (with_reducible first | exact fx0 | exact e2 | exact c_run) | ((with_reducible apply var_run);exact rfl) | (with_reducible first | apply IfR.t | exact ThR.rt) | ((with_reducible refine eqs_t ?_);decide) | (with_reducible first | apply m2_run | apply bool_run | apply rb_seq | apply rb_if | apply ret_run))
  · have e2 : fNe (.int a) (.int b) h = .ok (.bl (tkn "bne" a b)) h := fNe_i
    repeat (first | (with_reducible first | exact fx0 | exact e2 | exact c_run | exact nils_run) | ((with_reducible apply var_run);exact rfl) | (with_reducible first | apply IfR.t | apply IfR.f | exact ThR.rt) | ((with_reducible apply ThR.nx);(try simp only [List.set_cons_succ, List.set_cons_zero, setAll])) | ((with_reducible refine eqs_t ?_);decide) | ((with_reducible refine eqs_f ?_);decide) | (with_reducible first | apply m2_run | apply bool_run | apply rb_seq | apply rb_if | apply ret_run))
  · by_cases c : sgn a < sgn b
    · have e2 : fEq (.int 1) (.int 1) h = .ok (.bl (tkn "blt" a b)) h := by
        rw [fEq_i, show tkn "blt" a b = decide (sgn a < sgn b) from rfl, decide_eq_true c]
        rfl
      rw [if_pos c] at e
      repeat (first | (with_reducible first | exact fx0 | exact e | exact e2 | exact c_run | exact nil_run | exact nils_run) | ((with_reducible apply var_run);exact rfl) | (with_reducible first | apply IfR.t | apply IfR.f) | ((with_reducible apply ThR.nx);(try simp only [List.set_cons_succ, List.set_cons_zero, setAll])) | ((with_reducible refine eqs_t ?_);decide) | ((with_reducible refine eqs_f ?_);decide) | (with_reducible first | apply m2_run | apply cons_run | apply bool_run | apply rb_ifE | apply rb_callF) | ((with_reducible refine lenP ?_);exact rfl) | (with_reducible first | apply rb_seq | apply rb_if | apply ret_run))
    · have e2 : fEq (.int 0) (.int 1) h = .ok (.bl (tkn "blt" a b)) h := by
        rw [fEq_i, show tkn "blt" a b = decide (sgn a < sgn b) from rfl, decide_eq_false c]
        rfl
      rw [if_neg c] at e
      repeat (first | (with_reducible first | exact fx0 | exact e | exact e2 | exact c_run | exact nil_run | exact nils_run) | ((with_reducible apply var_run);exact rfl) | (with_reducible first | apply IfR.t | apply IfR.f) | ((with_reducible apply ThR.nx);(try simp only [List.set_cons_succ, List.set_cons_zero, setAll])) | ((with_reducible refine eqs_t ?_);decide) | ((with_reducible refine eqs_f ?_);decide) | (with_reducible first | apply m2_run | apply cons_run | apply bool_run | apply rb_ifE | apply rb_callF) | ((with_reducible refine lenP ?_);exact rfl) | (with_reducible first | apply rb_seq | apply rb_if | apply ret_run))
  · by_cases c : sgn a < sgn b
    · have e2 : fEq (.int 1) (.int 0) h = .ok (.bl (tkn "bge" a b)) h := by
        rw [fEq_i, show tkn "bge" a b = !decide (sgn a < sgn b) from rfl, decide_eq_true c]
        rfl
      rw [if_pos c] at e
      repeat (first | (with_reducible first | exact fx0 | exact e | exact e2 | exact c_run | exact nil_run | exact nils_run) | ((with_reducible apply var_run);exact rfl) | with_reducible apply IfR.f | ((with_reducible apply ThR.nx);(try simp only [List.set_cons_succ, List.set_cons_zero, setAll])) | ((with_reducible refine eqs_f ?_);decide) | (with_reducible first | apply m2_run | apply cons_run | apply bool_run | apply rb_ifE | apply rb_callF) | ((with_reducible refine lenP ?_);exact rfl) | (with_reducible first | apply rb_seq | apply rb_if | apply ret_run))
    · have e2 : fEq (.int 0) (.int 0) h = .ok (.bl (tkn "bge" a b)) h := by
        rw [fEq_i, show tkn "bge" a b = !decide (sgn a < sgn b) from rfl, decide_eq_false c]
        rfl
      rw [if_neg c] at e
      repeat (first | (with_reducible first | exact fx0 | exact e | exact e2 | exact c_run | exact nil_run | exact nils_run) | ((with_reducible apply var_run);exact rfl) | with_reducible apply IfR.f | ((with_reducible apply ThR.nx);(try simp only [List.set_cons_succ, List.set_cons_zero, setAll])) | ((with_reducible refine eqs_f ?_);decide) | (with_reducible first | apply m2_run | apply cons_run | apply bool_run | apply rb_ifE | apply rb_callF) | ((with_reducible refine lenP ?_);exact rfl) | (with_reducible first | apply rb_seq | apply rb_if | apply ret_run))
end K03
end MM
namespace MM
namespace K03
open PySem L2
section
variable {h : Hm} {P R M : Nat} {pr : List Od} {m : Ms}
theorem put_none (d : D) : f_State_put [.ref P, .non, d] h = .ok .non h := by
  apply call_next f_State_put_eq rfl
  unfold b_State_put
  simp only [startE, List.map_cons, List.map_nil, List.length_cons, List.length_nil, List.cons_append, List.nil_append, Nat.zero_add, Nat.reduceAdd, Nat.reduceSub, List.replicate]
  repeat (first | (with_reducible first | exact c_run | exact okr | exact nils_run) | ((with_reducible apply var_run);exact rfl) | with_reducible apply IfR.f | ((with_reducible refine is_non (k := false) ?_);exact rfl) | (with_reducible first | apply m2_run | apply bool_run | apply rb_and | apply rb_if))
theorem put_run (s : StH h P R M pr m) (k : m.rg.length = 8) {c w : Int} (c1 : 0 < c) (c2 : c < 8) : ∃ h', f_State_put [.ref P, .int c, .int w] h = .ok .non h' ∧ StH h' P R M pr { m with rg := m.rg.set c.toNat w } ∧ KL [R] h h' := by
  refine ⟨_, ?_, s.setR, KL.set (by simp)⟩
  apply call_next f_State_put_eq rfl
  unfold b_State_put
  simp only [startE, List.map_cons, List.map_nil, List.length_cons, List.length_nil, List.cons_append, List.nil_append, Nat.zero_add, Nat.reduceAdd, Nat.reduceSub, List.replicate]
  have e : fSet (.ref R) (.int c) (.int w) h = some (h.set R (.lst ((m.rg.set c.toNat w).map D.int))) := by
    rw [List.map_set]
    exact fSet_int s.hR (by omega) (by rw [List.length_map]; omega)
  have z : fIs true (.int c) .non h = .ok (.bl true) h := by rw [fIs_n]; rfl
  repeat (first | (with_reducible first | exact s.hP | exact e | exact z | exact c_run) | ((with_reducible apply var_run);exact rfl) | with_reducible apply IfR.t | ((with_reducible refine ne_t ?_);omega) | (with_reducible first | apply m2_run | apply bool_run | apply rb_and) | ((with_reducible apply lkS);exact rfl) | ((with_reducible apply memP);decide) | (with_reducible first | apply fld_run | apply rb_if | apply sub_run))
theorem fault_run (s : StH h P R M pr m) (c : Int) : ∃ h', f_State_fault [.ref P, .int c] h = .ok .non h' ∧ StH h' P R M pr (m.fault c) ∧ KL [P] h h' := by
  have s1 : StH _ P R M pr { m with ca := c } := s.setP rfl rfl
  have s2 : StH _ P R M pr { m with ca := c, bk := m.pl } := s1.setP rfl rfl
  cases e : m.hd with
  | none =>
    have s3 : StH _ P R M pr { m with ca := c, bk := m.pl, en := .fault c m.pl } := s2.setP rfl rfl
    refine ⟨_, ?_, by rw [Ms.fault_none e]; exact s3, ((KL.set (by simp)).trans (KL.set (by simp))).trans (KL.set (by simp))⟩
    apply call_next f_State_fault_eq rfl
    unfold b_State_fault
    simp only [startE, List.map_cons, List.map_nil, List.length_cons, List.length_nil, List.cons_append, List.nil_append, Nat.zero_add, Nat.reduceAdd, Nat.reduceSub, List.replicate]
    have z : fIs false (oi m.hd) .non ((h.set P (.ins "State" (sfl pr R M { m with ca := c }))).set P (.ins "State" (sfl pr R M { m with ca := c, bk := m.pl }))) = .ok (.bl true) ((h.set P (.ins "State" (sfl pr R M { m with ca := c }))).set P (.ins "State" (sfl pr R M { m with ca := c, bk := m.pl }))) := by rw [e, fIs_n]; rfl
    repeat (first | (with_reducible first | exact putD_ca _ | exact putD_bk _ | exact s.hP | exact s1.hP | exact s2.hP | exact z | exact c_run | exact nil_run) | ((with_reducible apply var_run);exact rfl) | with_reducible apply IfR.t | ((with_reducible apply ThR.nx);(try simp only [List.set_cons_succ, List.set_cons_zero, setAll])) | (with_reducible first | apply m2_run | apply cons_run | apply tup_run | apply bool_run) | ((with_reducible apply lkS);exact rfl) | ((with_reducible apply memP);decide) | ((with_reducible apply ltP);exact rfl) | (with_reducible first | apply fld_run | apply rb_fldM | apply rb_seq | apply rb_if) | ((with_reducible apply pdP);exact rfl))
  | some t =>
    have s3 : StH _ P R M pr { m with ca := c, bk := m.pl, pl := t } := s2.setP rfl rfl
    refine ⟨_, ?_, by rw [Ms.fault_some e]; exact s3, ((KL.set (by simp)).trans (KL.set (by simp))).trans (KL.set (by simp))⟩
    apply call_next f_State_fault_eq rfl
    have pe : ∀ m2 : Ms, putD "place" (oi m.hd) (sfl pr R M m2) = sfl pr R M { m2 with pl := t } := fun m2 => by rw [e]; rfl
    unfold b_State_fault
    simp only [startE, List.map_cons, List.map_nil, List.length_cons, List.length_nil, List.cons_append, List.nil_append, Nat.zero_add, Nat.reduceAdd, Nat.reduceSub, List.replicate]
    have z : fIs false (oi m.hd) .non ((h.set P (.ins "State" (sfl pr R M { m with ca := c }))).set P (.ins "State" (sfl pr R M { m with ca := c, bk := m.pl }))) = .ok (.bl false) ((h.set P (.ins "State" (sfl pr R M { m with ca := c }))).set P (.ins "State" (sfl pr R M { m with ca := c, bk := m.pl }))) := by rw [e, fIs_n]; rfl
    repeat (first | (with_reducible first | exact putD_ca _ | exact putD_bk _ | exact s.hP | exact s1.hP | exact s2.hP | exact z | exact pe _ | exact c_run) | ((with_reducible apply var_run);exact rfl) | with_reducible apply IfR.f | ((with_reducible apply ThR.nx);(try simp only [List.set_cons_succ, List.set_cons_zero, setAll])) | (with_reducible first | apply m2_run | apply bool_run) | ((with_reducible apply lkS);exact rfl) | ((with_reducible apply memP);decide) | ((with_reducible apply ltP);exact rfl) | (with_reducible first | apply fld_run | apply rb_fldM | apply rb_seq | apply rb_if))
theorem load_in (s : StH h P R M pr m) (a : Int) (ha : a = 254) : f_State_load [.ref P, .int a] h = .ok (.tup [.int (m.ic.headD 0), .bl true]) h := by
  refine call_ret f_State_load_eq rfl ?_
  unfold b_State_load
  simp only [startE, List.map_cons, List.map_nil, List.length_cons, List.length_nil, List.cons_append, List.nil_append, Nat.zero_add, Nat.reduceAdd, Nat.reduceSub, List.replicate]
  cases e : m.ic with
  | nil =>
    have z : fNe (.tup (m.ic.map D.int)) (.tup []) h = .ok (.bl false) h := by rw [e]; exact fNe_py (q := .tuple []) rfl rfl rfl
    repeat (first | (with_reducible first | exact s.hP | exact z | exact c_run | exact nil_run) | ((with_reducible apply var_run);exact rfl) | (with_reducible first | apply IfR.t | apply IfR.f) | ((with_reducible apply ThR.rt');exact rfl) | ((with_reducible refine eq_t ?_);omega) | (with_reducible first | apply m2_run | apply cons_run | apply tup_run | apply bool_run | apply rb_ifE) | ((with_reducible apply lkS);exact rfl) | ((with_reducible apply memP);decide) | (with_reducible first | apply fld_run | apply rb_seq | apply rb_if | apply ret_run))
  | cons w ws =>
    have z : fNe (.tup (m.ic.map D.int)) (.tup []) h = .ok (.bl true) h := by
      rw [e]
      exact ne_nilT py_tints
    have z2 : fIx (.tup (m.ic.map D.int)) (.int 0) h = .ok (.int w) h := by
      rw [e, List.map_cons]
      exact fx0
    repeat (first | (with_reducible first | exact s.hP | exact z | exact z2 | exact c_run | exact nil_run) | ((with_reducible apply var_run);exact rfl) | with_reducible apply IfR.t | ((with_reducible apply ThR.rt');exact rfl) | ((with_reducible refine eq_t ?_);omega) | (with_reducible first | apply m2_run | apply cons_run | apply tup_run | apply bool_run | apply rb_ifE) | ((with_reducible apply lkS);exact rfl) | ((with_reducible apply memP);decide) | (with_reducible first | apply fld_run | apply rb_seq | apply rb_if | apply ret_run))
theorem load_out (s : StH h P R M pr m) (a : Int) (ha : 256 ≤ a) : f_State_load [.ref P, .int a] h = .ok (.tup [.int 0, .bl false]) h := by
  refine call_ret f_State_load_eq rfl ?_
  unfold b_State_load
  simp only [startE, List.map_cons, List.map_nil, List.length_cons, List.length_nil, List.cons_append, List.nil_append, Nat.zero_add, Nat.reduceAdd, Nat.reduceSub, List.replicate]
  repeat (first | (with_reducible first | exact c_run | exact nil_run | exact nils_run) | ((with_reducible apply var_run);exact rfl) | (with_reducible first | apply IfR.t | apply IfR.f | exact ThR.rt) | ((with_reducible apply ThR.nx);(try simp only [List.set_cons_succ, List.set_cons_zero, setAll])) | ((with_reducible refine ge_t ?_);omega) | ((with_reducible refine eq_f ?_);omega) | (with_reducible first | apply m2_run | apply cons_run | apply tup_run | apply bool_run | apply rb_seq | apply rb_if | apply ret_run))
theorem load_me (s : StH h P R M pr m) (k : m.me.length = 256) (a : Int) (a0 : 0 ≤ a) (a1 : a < 256) (a2 : a ≠ 254) : f_State_load [.ref P, .int a] h = .ok (.tup [.int (rgA m.me a), .bl true]) h := by
  refine call_ret f_State_load_eq rfl ?_
  unfold b_State_load
  simp only [startE, List.map_cons, List.map_nil, List.length_cons, List.length_nil, List.cons_append, List.nil_append, Nat.zero_add, Nat.reduceAdd, Nat.reduceSub, List.replicate]
  have z := rg_ix s.hM a0 (by rw [k]; exact a1)
  repeat (first | (with_reducible first | exact s.hP | exact z | exact c_run | exact nil_run | exact nils_run) | ((with_reducible apply var_run);exact rfl) | with_reducible apply IfR.f | ((with_reducible apply ThR.nx);(try simp only [List.set_cons_succ, List.set_cons_zero, setAll])) | ((with_reducible refine ge_f ?_);omega) | ((with_reducible refine eq_f ?_);omega) | (with_reducible first | apply m2_run | apply cons_run | apply tup_run | apply bool_run) | ((with_reducible apply lkS);exact rfl) | ((with_reducible apply memP);decide) | (with_reducible first | apply fld_run | apply rb_seq | apply rb_if | apply ret_run))
theorem cut1 (l : List Int) : cutD (l.map D.int) (some 1) none = l.tail.map D.int := by
  cases l with
  | nil => rfl
  | cons a l =>
    rw [List.map_cons, cutD_tl]
    rfl
theorem taken_in_run (s : StH h P R M pr m) (a : Int) : ∃ h', f_State_taken_in [.ref P, .int a] h = .ok .non h' ∧ StH h' P R M pr (if a = 254 then { m with ic := m.ic.tail } else m) ∧ KL [P] h h' := by
  by_cases c : a = 254
  · rw [if_pos c]
    refine ⟨_, ?_, s.setP (m' := { m with ic := m.ic.tail }) rfl rfl, KL.set (by simp)⟩
    apply call_next f_State_taken_in_eq rfl
    unfold b_State_taken_in
    simp only [startE, List.map_cons, List.map_nil, List.length_cons, List.length_nil, List.cons_append, List.nil_append, Nat.zero_add, Nat.reduceAdd, Nat.reduceSub, List.replicate]
    have z : fSl (.tup (m.ic.map D.int)) (some 1) none h = .ok (.tup (m.ic.tail.map D.int)) h := by rw [sl_t, cut1]
    repeat (first | (with_reducible first | exact putD_ic _ | exact s.hP | exact z | exact c_run | exact no_run) | ((with_reducible apply var_run);exact rfl) | with_reducible apply IfR.t | ((with_reducible refine eq_t ?_);omega) | (with_reducible first | apply m2_run | apply bool_run | apply some_run | apply sl_run) | ((with_reducible apply lkS);exact rfl) | ((with_reducible apply memP);decide) | ((with_reducible apply ltP);exact rfl) | (with_reducible first | apply fld_run | apply rb_fldM | apply rb_if))
  · rw [if_neg c]
    refine ⟨h, ?_, s, KL.refl⟩
    apply call_next f_State_taken_in_eq rfl
    unfold b_State_taken_in
    simp only [startE, List.map_cons, List.map_nil, List.length_cons, List.length_nil, List.cons_append, List.nil_append, Nat.zero_add, Nat.reduceAdd, Nat.reduceSub, List.replicate]
    repeat (first | (with_reducible first | exact c_run | exact nils_run) | ((with_reducible apply var_run);exact rfl) | with_reducible apply IfR.f | ((with_reducible refine eq_f ?_);omega) | (with_reducible first | apply m2_run | apply bool_run | apply rb_if))
theorem store_out (a w : Int) (ha : 256 ≤ a) : f_State_store [.ref P, .int a, .int w] h = .ok (.bl false) h := by
  refine call_ret f_State_store_eq rfl ?_
  unfold b_State_store
  simp only [startE, List.map_cons, List.map_nil, List.length_cons, List.length_nil, List.cons_append, List.nil_append, Nat.zero_add, Nat.reduceAdd, Nat.reduceSub, List.replicate]
  repeat (first | with_reducible exact c_run | ((with_reducible apply var_run);exact rfl) | (with_reducible first | apply IfR.t | exact ThR.rt) | ((with_reducible refine ge_t ?_);omega) | (with_reducible first | apply m2_run | apply bool_run | apply rb_seq | apply rb_if | apply ret_run))
def storeP (m : Ms) (a w : Int) : Ms := if a = 255 then { m with ou := m.ou ++ [w] } else if a = 254 then m else { m with me := m.me.set a.toNat w }
theorem store_run (s : StH h P R M pr m) (k : m.me.length = 256) (ko : m.ou.length ≤ 900000) (a w : Int) (a0 : 0 ≤ a) (a1 : a < 256) : ∃ h', f_State_store [.ref P, .int a, .int w] h = .ok (.bl true) h' ∧ StH h' P R M pr (storeP m a w) ∧ KL [P, M] h h' := by
  unfold storeP
  by_cases c : a = 255
  · rw [if_pos c]
    refine ⟨_, ?_, s.setP (m' := { m with ou := m.ou ++ [w] }) rfl rfl, KL.set (by simp)⟩
    apply call_ret f_State_store_eq rfl
    unfold b_State_store
    simp only [startE, List.map_cons, List.map_nil, List.length_cons, List.length_nil, List.cons_append, List.nil_append, Nat.zero_add, Nat.reduceAdd, Nat.reduceSub, List.replicate]
    have z : fAdd (.tup (m.ou.map D.int)) (.tup [.int w]) h = .ok (.tup ((m.ou ++ [w]).map D.int)) h := add_tl (l2 := [w]) (by simp; omega)
    repeat (first | (with_reducible first | exact putD_ou _ | exact s.hP | exact z | exact c_run | exact nil_run | exact nils_run) | ((with_reducible apply var_run);exact rfl) | (with_reducible first | apply IfR.t | apply IfR.f) | ((with_reducible apply ThR.nx);(try simp only [List.set_cons_succ, List.set_cons_zero, setAll])) | ((with_reducible refine ge_f ?_);omega) | ((with_reducible refine eq_t ?_);omega) | (with_reducible first | apply m2_run | apply cons_run | apply tup_run | apply bool_run) | ((with_reducible apply lkS);exact rfl) | ((with_reducible apply memP);decide) | ((with_reducible apply ltP);exact rfl) | (with_reducible first | apply fld_run | apply rb_fldM | apply rb_seq | apply rb_if | apply ret_run))
  · rw [if_neg c]
    by_cases c2 : a = 254
    · rw [if_pos c2]
      refine ⟨h, ?_, s, KL.refl⟩
      apply call_ret f_State_store_eq rfl
      unfold b_State_store
      simp only [startE, List.map_cons, List.map_nil, List.length_cons, List.length_nil, List.cons_append, List.nil_append, Nat.zero_add, Nat.reduceAdd, Nat.reduceSub, List.replicate]
      repeat (first | (with_reducible first | exact c_run | exact nils_run) | ((with_reducible apply var_run);exact rfl) | with_reducible apply IfR.f | ((with_reducible apply ThR.nx);(try simp only [List.set_cons_succ, List.set_cons_zero, setAll])) | ((with_reducible refine ge_f ?_);omega) | ((with_reducible refine eq_f ?_);omega) | ((with_reducible refine ne_f ?_);omega) | (with_reducible first | apply m2_run | apply bool_run | apply rb_seq | apply rb_if | apply ret_run))
    · rw [if_neg c2]
      refine ⟨_, ?_, s.setM, KL.set (by simp)⟩
      apply call_ret f_State_store_eq rfl
      unfold b_State_store
      simp only [startE, List.map_cons, List.map_nil, List.length_cons, List.length_nil, List.cons_append, List.nil_append, Nat.zero_add, Nat.reduceAdd, Nat.reduceSub, List.replicate]
      have e : fSet (.ref M) (.int a) (.int w) h = some (h.set M (.lst ((m.me.set a.toNat w).map D.int))) := by
        rw [List.map_set]
        exact fSet_int s.hM (by omega) (by rw [List.length_map]; omega)
      repeat (first | (with_reducible first | exact s.hP | exact e | exact c_run | exact nils_run) | ((with_reducible apply var_run);exact rfl) | (with_reducible first | apply IfR.t | apply IfR.f) | ((with_reducible apply ThR.nx);(try simp only [List.set_cons_succ, List.set_cons_zero, setAll])) | ((with_reducible refine ge_f ?_);omega) | ((with_reducible refine eq_f ?_);omega) | ((with_reducible refine ne_t ?_);omega) | (with_reducible first | apply m2_run | apply bool_run) | ((with_reducible apply lkS);exact rfl) | ((with_reducible apply memP);decide) | (with_reducible first | apply fld_run | apply rb_seq | apply rb_if | apply ret_run | apply sub_run))
theorem seen_run (s : StH h P R M pr m) : f_State_seen [.ref P] h = .ok m.seenD h := by
  refine call_ret f_State_seen_eq rfl ?_
  unfold b_State_seen Ms.seenD
  simp only [startE, List.map_cons, List.map_nil, List.length_cons, List.length_nil, List.cons_append, List.nil_append, Nat.zero_add, Nat.reduceAdd, Nat.reduceSub, List.replicate]
  have z1 := fTuple_lst s.hR
  have z2 := fTuple_lst s.hM
  repeat (first | (with_reducible first | exact s.hP | exact z1 | exact z2 | exact nil_run) | ((with_reducible apply var_run);exact rfl) | (with_reducible first | apply cons_run | apply tup_run | apply call_run) | ((with_reducible apply lkS);exact rfl) | ((with_reducible apply memP);decide) | (with_reducible first | apply fld_run | apply ret_run))
theorem call_run' (s : StH h P R M pr m) (k8 : m.rg.length = 8) (k : Int) : ∃ h', f_call [.ref P, .int k] h = .ok .non h' ∧ StH h' P R M pr (m.call k) ∧ KL [P, R] h h' := by
  unfold Ms.call
  by_cases c : k = 0
  · rw [if_pos c]
    have s1 : StH _ P R M pr { m with hd := some (rgA m.rg 1) } := s.setP rfl rfl
    have s2 : StH _ P R M pr { m with hd := some (rgA m.rg 1), pl := m.pl + 1 } := s1.setP rfl rfl
    refine ⟨_, ?_, s2, (KL.set (by simp)).trans (KL.set (by simp))⟩
    apply call_ret f_call_eq rfl
    unfold b_call
    simp only [startE, List.map_cons, List.map_nil, List.length_cons, List.length_nil, List.cons_append, List.nil_append, Nat.zero_add, Nat.reduceAdd, Nat.reduceSub, List.replicate]
    have z := rg_ix s.hR (r := 1) (by decide) (by rw [k8]; decide)
    have pe : putD "handler" (.int (rgA m.rg 1)) (sfl pr R M m) = sfl pr R M { m with hd := some (rgA m.rg 1) } := rfl
    repeat (first | (with_reducible first | exact putD_pl _ | exact s.hP | exact s1.hP | exact z | exact pe | exact c_run | exact rb_retN) | ((with_reducible apply var_run);exact rfl) | (with_reducible first | apply IfR.t | exact ThR.rt) | ((with_reducible apply ThR.nx);(try simp only [List.set_cons_succ, List.set_cons_zero, setAll])) | with_reducible exact fIAdd_i | ((with_reducible refine eq_t ?_);omega) | (with_reducible first | apply m2_run | apply bool_run) | ((with_reducible apply lkS);exact rfl) | ((with_reducible apply memP);decide) | ((with_reducible apply ltP);exact rfl) | (with_reducible first | apply fld_run | apply rb_fldM | apply rb_fldA | apply rb_seq | apply rb_if))
  · rw [if_neg c]
    obtain ⟨h1, r1, s1, k1⟩ := put_run s k8 (c := 7) (w := k % 65536) (by decide) (by decide)
    have s2 : StH _ P R M pr { m with rg := m.rg.set (7 : Int).toNat (k % 65536), pl := m.pl + 1 } := s1.setP rfl rfl
    obtain ⟨h3, r3, s3, k3⟩ := fault_run s2 2
    refine ⟨h3, ?_, s3, ((k1.sub (by simp)).trans (KL.set (by simp))).trans (k3.sub (by simp))⟩
    apply call_next f_call_eq rfl
    unfold b_call
    simp only [startE, List.map_cons, List.map_nil, List.length_cons, List.length_nil, List.cons_append, List.nil_append, Nat.zero_add, Nat.reduceAdd, Nat.reduceSub, List.replicate]
    repeat (first | (with_reducible first | exact putD_pl _ | exact s.hP | exact s1.hP | exact s2.hP | exact r1 | exact r3 | exact c_run | exact nil_run | exact nils_run) | ((with_reducible apply var_run);exact rfl) | with_reducible apply IfR.f | ((with_reducible apply ThR.nx);(try simp only [List.set_cons_succ, List.set_cons_zero, setAll])) | with_reducible exact fIAdd_i | ((with_reducible refine eq_f ?_);omega) | ((with_reducible refine mod_p ?_);omega) | (with_reducible first | apply m2_run | apply cons_run | apply bool_run) | ((with_reducible refine lenP1 ?_);exact rfl) | with_reducible apply rb_meth | ((with_reducible apply lkN);exact rfl) | ((with_reducible apply lkS);exact rfl) | ((with_reducible apply memP);decide) | ((with_reducible apply ltP);exact rfl) | (with_reducible first | apply rb_fldA | apply rb_seq | apply rb_if | apply drop_run))
theorem wf_run {o : Od} (k : o.ok) (s : StH h P R M pr m) (k8 : m.rg.length = 8) : ∃ g, f_words_for [o.d, .ref R] h = .ok (.tup [.int (wdA m.rg o), .int (wdB m.rg o)]) (h ++ g) := by
  have L := lcL_pure (gs := []) (g := gN 3) (t := tYesM) (e := m2 fIx (mVar 1) (mVar 3)) (env := wipeE [some o.d, some (.ref R), none, none] [3]) (h := h) gdOk_nil D.int (fun r => some (.int (rgA m.rg r))) o.reads fun r hr => by
    have z := Od.reads_ok k r hr
    have e := rg_ix s.hR z.1 (by rw [k8]; exact z.2)
    show lcTurn _ _ _ [some o.d, some (.ref R), none, none] _ _ = _
    simp [lcTurn, e]
  have hf : o.reads.filterMap (fun r => some (D.int (rgA m.rg r))) = (o.reads.map (rgA m.rg)).map D.int := by
    rw [List.map_map, ← List.filterMap_eq_map]
    rfl
  rw [hf] at L
  have R1 := reads_run k h
  have m0 : mItA (mCallF 1 f_reads (mCons (mVar 0) mNil)) [some o.d, some (.ref R), none, none] h = .ok (o.reads.map D.int, []) h := by repeat (first | (with_reducible first | exact R1 | exact nil_run) | ((with_reducible apply var_run);exact rfl) | (with_reducible first | apply cons_run | apply rb_callF) | ((with_reducible refine lenP ?_);exact rfl) | with_reducible apply itT_run)
  have lc := lc_run (vs := [3]) (ds := o.reads.map D.int) m0 (by rw [List.length_map]; exact Nat.le_trans (Od.reads_len o) (by decide)) L
  have ad : fAdd (.ref h.length) (.ref (h ++ [O.lst ((o.reads.map (rgA m.rg)).map D.int)]).length) ((h ++ [O.lst ((o.reads.map (rgA m.rg)).map D.int)]) ++ [O.lst [.int 0, .int 0]]) = .ok (.ref ((h ++ [O.lst ((o.reads.map (rgA m.rg)).map D.int)]) ++ [O.lst [.int 0, .int 0]]).length) ((h ++ [O.lst ((o.reads.map (rgA m.rg)).map D.int)]) ++ [O.lst [.int 0, .int 0]] ++ [O.lst ((o.reads.map (rgA m.rg)).map D.int ++ [.int 0, .int 0])]) :=
    add_l (keep_app get_new) get_new (by have := Od.reads_len o; simp; omega)
  have gn := get_new (h := (h ++ [O.lst ((o.reads.map (rgA m.rg)).map D.int)]) ++ [O.lst [.int 0, .int 0]]) (o := O.lst ((o.reads.map (rgA m.rg)).map D.int ++ [.int 0, .int 0]))
  have gn' : ((h ++ [O.lst ((o.reads.map (rgA m.rg)).map D.int)]) ++ [O.lst [.int 0, .int 0]] ++ [O.lst ((o.reads.map (rgA m.rg)).map D.int ++ [.int 0, .int 0])])[((h ++ [O.lst ((o.reads.map (rgA m.rg)).map D.int)]) ++ [O.lst [.int 0, .int 0]]).length]? = some (.lst ((o.reads.map (rgA m.rg) ++ [0, 0]).map D.int)) := by
    rw [gn, List.map_append]
    rfl
  have l2 : 2 ≤ (o.reads.map (rgA m.rg) ++ [0, 0]).length := by simp
  have i0 := ix_get gn' (k := 0) (by decide) (by omega)
  have i1 := ix_get gn' (k := 1) (by decide) (by omega)
  change _ = MM.R.ok (D.int (wdA m.rg o)) _ at i0
  change _ = MM.R.ok (D.int (wdB m.rg o)) _ at i1
  refine ⟨[O.lst ((o.reads.map (rgA m.rg)).map D.int)] ++ [O.lst [.int 0, .int 0]] ++ [O.lst ((o.reads.map (rgA m.rg)).map D.int ++ [.int 0, .int 0])], ?_⟩
  rw [show h ++ ([O.lst ((o.reads.map (rgA m.rg)).map D.int)] ++ [O.lst [.int 0, .int 0]] ++ [O.lst ((o.reads.map (rgA m.rg)).map D.int ++ [.int 0, .int 0])]) = (h ++ [O.lst ((o.reads.map (rgA m.rg)).map D.int)]) ++ [O.lst [.int 0, .int 0]] ++ [O.lst ((o.reads.map (rgA m.rg)).map D.int ++ [.int 0, .int 0])] by simp]
  apply call_ret f_words_for_eq rfl
  unfold b_words_for
  simp only [startE, List.map_cons, List.map_nil, List.length_cons, List.length_nil, List.cons_append, List.nil_append, Nat.zero_add, Nat.reduceAdd, Nat.reduceSub, List.replicate]
  repeat (first | (with_reducible first | exact lc | exact ad | exact i0 | exact i1 | exact c_run | exact nil_run) | ((with_reducible apply var_run);exact rfl) | ((with_reducible apply ThR.nx);(try simp only [List.set_cons_succ, List.set_cons_zero, setAll])) | (with_reducible first | apply m2_run | apply cons_run | apply tup_run | apply lst_run | apply rb_seq | apply ret_run | apply rb_asg) | ((with_reducible apply envP);exact rfl))
end
end K03
end MM
namespace MM
namespace K03
open PySem L2
theorem eff_r3 {n : Str} (hn : n ∈ N3) (x y z : Int) {p a b : Int} (ha : Wd a) (hb : Wd b) (h : Hm) : ∃ g, f_effect [.tup [.str n, .int x, .int y, .int z], .int p, .int a, .int b] h = .ok (.tup [.int (rck n a b), .int (p + 1), .non]) (h ++ g) := by
  obtain ⟨g, e⟩ := reck_run (.inl hn) ha hb [.int x, .int y, .int z] h
  refine ⟨g, ?_⟩
  revert e
  refine n3_ind (P := fun n => f_reckoned [.tup [.str n, .int x, .int y, .int z], .int a, .int b] h = .ok (.int (rck n a b)) (h ++ g) → f_effect [.tup [.str n, .int x, .int y, .int z], .int p, .int a, .int b] h = .ok (.tup [.int (rck n a b), .int (p + 1), .non]) (h ++ g)) ?_ ?_ ?_ ?_ ?_ ?_ ?_ ?_ ?_ ?_ ?_ hn <;> (intro e; apply call_ret f_effect_eq rfl; unfold b_effect; simp only [startE, List.map_cons, List.map_nil, List.length_cons, List.length_nil, List.cons_append, List.nil_append, Nat.zero_add, Nat.reduceAdd, Nat.reduceSub, List.replicate]; repeat (first | (with_reducible first | exact e | exact c_run | exact nil_run) | ((with_reducible apply var_run);exact rfl) | (with_reducible first | apply IfR.t | exact ThR.rt) | ((with_reducible apply ThR.nx);(try simp only [List.set_cons_succ, List.set_cons_zero, setAll])) | with_reducible exact fAdd_i | ((with_reducible apply inD (k := true));exact rfl;exact rfl;exact rfl;decide) | ((with_reducible apply rb_ixT);exact rfl) | (with_reducible first | apply m2_run | apply cons_run | apply tup_run | apply bool_run | apply rb_callF) | ((with_reducible refine lenP ?_);exact rfl) | (with_reducible first | apply rb_seq | apply rb_if | apply ret_run | apply rb_asg) | ((with_reducible apply envP);exact rfl)))
theorem eff_r2 {n : Str} (hn : n ∈ N2) (x y z : Int) {p a b : Int} (ha : Wd a) (h : Hm) : ∃ g, f_effect [.tup [.str n, .int x, .int y, .int z], .int p, .int a, .int b] h = .ok (.tup [.int (rck n a (z % 65536)), .int (p + 1), .non]) (h ++ g) := by
  obtain ⟨g, e⟩ := reck_run (.inr hn) ha (mod_wd z) [.int x, .int y, .int z] h
  refine ⟨g, ?_⟩
  revert e
  refine n2_ind (P := fun n => f_reckoned [.tup [.str n, .int x, .int y, .int z], .int a, .int (z % 65536)] h = .ok (.int (rck n a (z % 65536))) (h ++ g) → f_effect [.tup [.str n, .int x, .int y, .int z], .int p, .int a, .int b] h = .ok (.tup [.int (rck n a (z % 65536)), .int (p + 1), .non]) (h ++ g)) ?_ ?_ ?_ ?_ ?_ ?_ hn <;> (intro e; apply call_ret f_effect_eq rfl; unfold b_effect; simp only [startE, List.map_cons, List.map_nil, List.length_cons, List.length_nil, List.cons_append, List.nil_append, Nat.zero_add, Nat.reduceAdd, Nat.reduceSub, List.replicate]; repeat (first | (with_reducible first | exact e | exact c_run | exact nil_run | exact nils_run) | ((with_reducible apply var_run);exact rfl) | (with_reducible first | apply IfR.t | apply IfR.f | exact ThR.rt) | ((with_reducible apply ThR.nx);(try simp only [List.set_cons_succ, List.set_cons_zero, setAll])) | with_reducible exact fAdd_i | ((with_reducible apply inD (k := true));exact rfl;exact rfl;exact rfl;decide) | ((with_reducible apply inD (k := false));exact rfl;exact rfl;exact rfl;decide) | ((with_reducible apply rb_ixT);exact rfl) | ((with_reducible refine mod_p ?_);omega) | (with_reducible first | apply m2_run | apply cons_run | apply tup_run | apply bool_run | apply rb_callF) | ((with_reducible refine lenP ?_);exact rfl) | (with_reducible first | apply rb_seq | apply rb_if | apply ret_run | apply rb_asg) | ((with_reducible apply envP);exact rfl)))
theorem eff_br {n : Str} (hn : n ∈ NB) (x y z : Int) (p a b : Int) (h : Hm) : f_effect [.tup [.str n, .int x, .int y, .int z], .int p, .int a, .int b] h = .ok (.tup [.non, .int (if tkn n a b = true then p + z else p + 1), .non]) h := by
  have e := taken_run hn a b [.int x, .int y, .int z] h
  have go : ∀ k : Bool, k = tkn n a b → f_is_taken [.tup [.str n, .int x, .int y, .int z], .int a, .int b] h = .ok (.bl k) h → f_effect [.tup [.str n, .int x, .int y, .int z], .int p, .int a, .int b] h = .ok (.tup [.non, .int (if k = true then p + z else p + 1), .non]) h := by
    intro k _
    cases k with
    | true =>
      rw [if_pos rfl]
      refine nb_ind (P := fun n => f_is_taken [.tup [.str n, .int x, .int y, .int z], .int a, .int b] h = .ok (.bl true) h → f_effect [.tup [.str n, .int x, .int y, .int z], .int p, .int a, .int b] h = .ok (.tup [.non, .int (p + z), .non]) h) ?_ ?_ ?_ ?_ hn <;> (intro e; apply call_ret f_effect_eq rfl; unfold b_effect; simp only [startE, List.map_cons, List.map_nil, List.length_cons, List.length_nil, List.cons_append, List.nil_append, Nat.zero_add, Nat.reduceAdd, Nat.reduceSub, List.replicate]; repeat (first | (with_reducible first | exact e | exact c_run | exact nil_run | exact nils_run) | ((with_reducible apply var_run);exact rfl) | (with_reducible first | apply IfR.t | apply IfR.f | exact ThR.rt) | ((with_reducible apply ThR.nx);(try simp only [List.set_cons_succ, List.set_cons_zero, setAll])) | with_reducible exact fAdd_i | ((with_reducible refine eqs_f ?_);decide) | ((with_reducible apply inD (k := true));exact rfl;exact rfl;exact rfl;decide) | ((with_reducible apply inD (k := false));exact rfl;exact rfl;exact rfl;decide) | ((with_reducible apply rb_ixT);exact rfl) | (with_reducible first | apply m2_run | apply cons_run | apply tup_run | apply bool_run | apply tru_any | apply rb_ifE | apply rb_callF) | ((with_reducible refine lenP ?_);exact rfl) | (with_reducible first | apply rb_seq | apply rb_if | apply ret_run | apply rb_asg) | ((with_reducible apply envP);exact rfl)))
    | false =>
      rw [if_neg Bool.false_ne_true]
      refine nb_ind (P := fun n => f_is_taken [.tup [.str n, .int x, .int y, .int z], .int a, .int b] h = .ok (.bl false) h → f_effect [.tup [.str n, .int x, .int y, .int z], .int p, .int a, .int b] h = .ok (.tup [.non, .int (p + 1), .non]) h) ?_ ?_ ?_ ?_ hn <;> (intro e; apply call_ret f_effect_eq rfl; unfold b_effect; simp only [startE, List.map_cons, List.map_nil, List.length_cons, List.length_nil, List.cons_append, List.nil_append, Nat.zero_add, Nat.reduceAdd, Nat.reduceSub, List.replicate]; repeat (first | (with_reducible first | exact e | exact c_run | exact nil_run | exact nils_run) | ((with_reducible apply var_run);exact rfl) | (with_reducible first | apply IfR.t | apply IfR.f | exact ThR.rt) | ((with_reducible apply ThR.nx);(try simp only [List.set_cons_succ, List.set_cons_zero, setAll])) | with_reducible exact fAdd_i | ((with_reducible refine eqs_f ?_);decide) | ((with_reducible apply inD (k := true));exact rfl;exact rfl;exact rfl;decide) | ((with_reducible apply inD (k := false));exact rfl;exact rfl;exact rfl;decide) | ((with_reducible apply rb_ixT);exact rfl) | (with_reducible first | apply m2_run | apply cons_run | apply tup_run | apply bool_run | apply tru_any | apply rb_ifE | apply rb_callF) | ((with_reducible refine lenP ?_);exact rfl) | (with_reducible first | apply rb_seq | apply rb_if | apply ret_run | apply rb_asg) | ((with_reducible apply envP);exact rfl)))
  exact go _ rfl e
theorem eff_run {o : Od} (k : o.ok) {p a b : Int} (ha : Wd a) (hb : Wd b) (h : Hm) : ∃ g, f_effect [o.d, .int p, .int a, .int b] h = .ok (effDt o p a b) (h ++ g) := by
  have nil : ∀ r : D, f_effect [o.d, .int p, .int a, .int b] h = .ok r h → ∃ g, f_effect [o.d, .int p, .int a, .int b] h = .ok r (h ++ g) := fun r e => ⟨[], by rw [List.append_nil]; exact e⟩
  cases o with
  | r3 n x y z => exact eff_r3 k.1 x y z ha hb h
  | r2 n x y z => exact eff_r2 k.1 x y z ha h
  | br n x y z => exact nil _ (eff_br k.1 x y z p a b h)
  | lui x y =>
    refine nil (.tup [.int (y % 256 * 256), .int (p + 1), .non]) ?_
    have e : fMul (.int (y % 256)) (.int 256) h = .ok (.int (y % 256 * 256)) h := mul_r ⟨by decide, by decide⟩
    apply call_ret f_effect_eq rfl
    unfold b_effect Od.d
    simp only [startE, List.map_cons, List.map_nil, List.length_cons, List.length_nil, List.cons_append, List.nil_append, Nat.zero_add, Nat.reduceAdd, Nat.reduceSub, List.replicate]
    repeat (first | (with_reducible first | exact e | exact c_run | exact nil_run | exact nils_run) | ((with_reducible apply var_run);exact rfl) | (with_reducible first | apply IfR.t | apply IfR.f | exact ThR.rt) | ((with_reducible apply ThR.nx);(try simp only [List.set_cons_succ, List.set_cons_zero, setAll])) | with_reducible exact fAdd_i | ((with_reducible refine eqs_t ?_);decide) | ((with_reducible apply inD (k := false));exact rfl;exact rfl;exact rfl;decide) | ((with_reducible apply rb_ixT);exact rfl) | ((with_reducible refine mod_p ?_);omega) | (with_reducible first | apply m2_run | apply cons_run | apply tup_run | apply bool_run | apply rb_seq | apply rb_if | apply ret_run | apply rb_asg) | ((with_reducible apply envP);exact rfl))
  | lw x y z =>
    refine nil (.tup [.non, .int (p + 1), .tup [.str "load", .int ((a + z % 65536) % 65536)]]) ?_
    have e := add_run a (z % 65536) h
    apply call_ret f_effect_eq rfl
    unfold b_effect Od.d
    simp only [startE, List.map_cons, List.map_nil, List.length_cons, List.length_nil, List.cons_append, List.nil_append, Nat.zero_add, Nat.reduceAdd, Nat.reduceSub, List.replicate]
    repeat (first | (with_reducible first | exact e | exact c_run | exact nil_run | exact nils_run) | ((with_reducible apply var_run);exact rfl) | (with_reducible first | apply IfR.t | apply IfR.f | exact ThR.rt) | ((with_reducible apply ThR.nx);(try simp only [List.set_cons_succ, List.set_cons_zero, setAll])) | with_reducible exact fAdd_i | ((with_reducible refine eqs_t ?_);decide) | ((with_reducible refine eqs_f ?_);decide) | ((with_reducible apply inD (k := false));exact rfl;exact rfl;exact rfl;decide) | ((with_reducible apply rb_ixT);exact rfl) | ((with_reducible refine mod_p ?_);omega) | (with_reducible first | apply m2_run | apply cons_run | apply tup_run | apply bool_run | apply rb_callF) | ((with_reducible refine lenP ?_);exact rfl) | (with_reducible first | apply rb_seq | apply rb_if | apply ret_run | apply rb_asg) | ((with_reducible apply envP);exact rfl))
  | sw x y z =>
    refine nil (.tup [.non, .int (p + 1), .tup [.str "store", .int ((b + z % 65536) % 65536), .int a]]) ?_
    have e := add_run b (z % 65536) h
    apply call_ret f_effect_eq rfl
    unfold b_effect Od.d
    simp only [startE, List.map_cons, List.map_nil, List.length_cons, List.length_nil, List.cons_append, List.nil_append, Nat.zero_add, Nat.reduceAdd, Nat.reduceSub, List.replicate]
    repeat (first | (with_reducible first | exact e | exact c_run | exact nil_run | exact nils_run) | ((with_reducible apply var_run);exact rfl) | (with_reducible first | apply IfR.t | apply IfR.f | exact ThR.rt) | ((with_reducible apply ThR.nx);(try simp only [List.set_cons_succ, List.set_cons_zero, setAll])) | with_reducible exact fAdd_i | ((with_reducible refine eqs_t ?_);decide) | ((with_reducible refine eqs_f ?_);decide) | ((with_reducible apply inD (k := false));exact rfl;exact rfl;exact rfl;decide) | ((with_reducible apply rb_ixT);exact rfl) | ((with_reducible refine mod_p ?_);omega) | (with_reducible first | apply m2_run | apply cons_run | apply tup_run | apply bool_run | apply rb_callF) | ((with_reducible refine lenP ?_);exact rfl) | (with_reducible first | apply rb_seq | apply rb_if | apply ret_run | apply rb_asg) | ((with_reducible apply envP);exact rfl))
  | jal x y =>
    refine nil (.tup [.int (p + 1), .int (p + y), .non]) ?_
    apply call_ret f_effect_eq rfl
    unfold b_effect Od.d
    simp only [startE, List.map_cons, List.map_nil, List.length_cons, List.length_nil, List.cons_append, List.nil_append, Nat.zero_add, Nat.reduceAdd, Nat.reduceSub, List.replicate]
    repeat (first | (with_reducible first | exact c_run | exact nil_run | exact nils_run) | ((with_reducible apply var_run);exact rfl) | (with_reducible first | apply IfR.t | apply IfR.f | exact ThR.rt) | ((with_reducible apply ThR.nx);(try simp only [List.set_cons_succ, List.set_cons_zero, setAll])) | with_reducible exact fAdd_i | ((with_reducible refine eqs_t ?_);decide) | ((with_reducible refine eqs_f ?_);decide) | ((with_reducible apply inD (k := false));exact rfl;exact rfl;exact rfl;decide) | ((with_reducible apply rb_ixT);exact rfl) | (with_reducible first | apply m2_run | apply cons_run | apply tup_run | apply bool_run | apply rb_seq | apply rb_if | apply ret_run | apply rb_asg) | ((with_reducible apply envP);exact rfl))
  | jalr x y z =>
    refine nil (.tup [.int (p + 1), .int ((a + z % 65536) % 65536), .non]) ?_
    have e := add_run a (z % 65536) h
    apply call_ret f_effect_eq rfl
    unfold b_effect Od.d
    simp only [startE, List.map_cons, List.map_nil, List.length_cons, List.length_nil, List.cons_append, List.nil_append, Nat.zero_add, Nat.reduceAdd, Nat.reduceSub, List.replicate]
    repeat (first | (with_reducible first | exact e | exact c_run | exact nil_run | exact nils_run) | ((with_reducible apply var_run);exact rfl) | (with_reducible first | apply IfR.t | apply IfR.f | exact ThR.rt) | ((with_reducible apply ThR.nx);(try simp only [List.set_cons_succ, List.set_cons_zero, setAll])) | with_reducible exact fAdd_i | ((with_reducible refine eqs_t ?_);decide) | ((with_reducible refine eqs_f ?_);decide) | ((with_reducible apply inD (k := false));exact rfl;exact rfl;exact rfl;decide) | ((with_reducible apply rb_ixT);exact rfl) | ((with_reducible refine mod_p ?_);omega) | (with_reducible first | apply m2_run | apply cons_run | apply tup_run | apply bool_run | apply rb_callF) | ((with_reducible refine lenP ?_);exact rfl) | (with_reducible first | apply rb_seq | apply rb_if | apply ret_run | apply rb_asg) | ((with_reducible apply envP);exact rfl))
  | call x =>
    refine nil (.tup [.non, .int (p + 1), .non]) ?_
    apply call_ret f_effect_eq rfl
    unfold b_effect Od.d
    simp only [startE, List.map_cons, List.map_nil, List.length_cons, List.length_nil, List.cons_append, List.nil_append, Nat.zero_add, Nat.reduceAdd, Nat.reduceSub, List.replicate]
    repeat (first | (with_reducible first | exact c_run | exact nil_run | exact nils_run) | ((with_reducible apply var_run);exact rfl) | with_reducible apply IfR.f | ((with_reducible apply ThR.nx);(try simp only [List.set_cons_succ, List.set_cons_zero, setAll])) | with_reducible exact fAdd_i | ((with_reducible refine eqs_f ?_);decide) | ((with_reducible apply inD (k := false));exact rfl;exact rfl;exact rfl;decide) | ((with_reducible apply rb_ixT);exact rfl) | (with_reducible first | apply m2_run | apply cons_run | apply tup_run | apply bool_run | apply rb_seq | apply rb_if | apply ret_run | apply rb_asg) | ((with_reducible apply envP);exact rfl))
  | back =>
    refine nil (.tup [.non, .int (p + 1), .non]) ?_
    apply call_ret f_effect_eq rfl
    unfold b_effect Od.d
    simp only [startE, List.map_cons, List.map_nil, List.length_cons, List.length_nil, List.cons_append, List.nil_append, Nat.zero_add, Nat.reduceAdd, Nat.reduceSub, List.replicate]
    repeat (first | (with_reducible first | exact c_run | exact nil_run | exact nils_run) | ((with_reducible apply var_run);exact rfl) | with_reducible apply IfR.f | ((with_reducible apply ThR.nx);(try simp only [List.set_cons_succ, List.set_cons_zero, setAll])) | with_reducible exact fAdd_i | ((with_reducible refine eqs_f ?_);decide) | ((with_reducible apply inD (k := false));exact rfl;exact rfl;exact rfl;decide) | ((with_reducible apply rb_ixT);exact rfl) | (with_reducible first | apply m2_run | apply cons_run | apply tup_run | apply bool_run | apply rb_seq | apply rb_if | apply ret_run | apply rb_asg) | ((with_reducible apply envP);exact rfl))
  | halt =>
    refine nil (.tup [.non, .int (p + 1), .non]) ?_
    apply call_ret f_effect_eq rfl
    unfold b_effect Od.d
    simp only [startE, List.map_cons, List.map_nil, List.length_cons, List.length_nil, List.cons_append, List.nil_append, Nat.zero_add, Nat.reduceAdd, Nat.reduceSub, List.replicate]
    repeat (first | (with_reducible first | exact c_run | exact nil_run | exact nils_run) | ((with_reducible apply var_run);exact rfl) | with_reducible apply IfR.f | ((with_reducible apply ThR.nx);(try simp only [List.set_cons_succ, List.set_cons_zero, setAll])) | with_reducible exact fAdd_i | ((with_reducible refine eqs_f ?_);decide) | ((with_reducible apply inD (k := false));exact rfl;exact rfl;exact rfl;decide) | ((with_reducible apply rb_ixT);exact rfl) | (with_reducible first | apply m2_run | apply cons_run | apply tup_run | apply bool_run | apply rb_seq | apply rb_if | apply ret_run | apply rb_asg) | ((with_reducible apply envP);exact rfl))
end K03
end MM
namespace MM
namespace K03
open PySem L2
section
variable {h : Hm} {P R M : Nat} {pr : List Od} {m : Ms}
theorem put_o {o : Od} (k : o.ok) (s : StH h P R M pr m) (k8 : m.rg.length = 8) {x : D} {w : Int} (e : o.wr ≠ 0 → x = .int w) : ∃ h', f_State_put [.ref P, o.wrD, x] h = .ok .non h' ∧ StH h' P R M pr { m with rg := putR m.rg o.wr w } ∧ KL [R] h h' := by
  have kw := Od.wr_ok k
  unfold Od.wrD putR
  by_cases z : o.wr = 0
  · rw [if_pos z, if_pos z]
    exact ⟨h, put_none x, s, KL.refl⟩
  · rw [if_neg z, if_neg z, e z]
    exact put_run s k8 (by have := kw.1; omega) kw.2
/-- the end of a step: a word is put, the place goes on -/
theorem tail_run {o : Od} (k : o.ok) (s : StH h P R M pr m) (k8 : m.rg.length = 8) {x2 x3 x6 x7 : Option D} {x : D} {w t : Int} (e : o.wr ≠ 0 → x = .int w) : ∃ h', (sSeq p_step_11 p_step_12) [some (.ref P), some o.d, x2, x3, some x, some (.int t), x6, x7] h = .next [some (.ref P), some o.d, x2, x3, some x, some (.int t), x6, x7] h' ∧ StH h' P R M pr { m with rg := putR m.rg o.wr w, pl := t } ∧ KL [P, R, M] h h' := by
  obtain ⟨h1, r1, s1, k1⟩ := put_o k s k8 e
  have w1 := writes_run k h
  have s2 : StH _ P R M pr { m with rg := putR m.rg o.wr w, pl := t } := s1.setP rfl rfl
  refine ⟨_, ?_, s2, (k1.sub (by simp)).trans (KL.set (by simp))⟩
  repeat (first | (with_reducible first | exact putD_pl _ | exact s.hP | exact s1.hP | exact w1 | exact r1 | exact nil_run) | ((with_reducible apply var_run);exact rfl) | ((with_reducible apply ThR.nx);(try simp only [List.set_cons_succ, List.set_cons_zero, setAll])) | (with_reducible first | apply cons_run | apply rb_callF) | ((with_reducible refine lenP ?_);exact rfl) | ((with_reducible refine lenP1 ?_);exact rfl) | with_reducible apply rb_meth | ((with_reducible apply lkN);exact rfl) | ((with_reducible apply memP);decide) | ((with_reducible apply ltP);exact rfl) | (with_reducible first | apply rb_fldM | apply rb_seq | apply drop_run))
noncomputable abbrev rest : Ev → Hm → SR := sSeq p_step_9 (sSeq p_step_10 (sSeq p_step_11 p_step_12))
def wdD (o : Od) (p a b : Int) : D := match o.effW p a b with
  | some w => .int w
  | none => .non
theorem rest_no {o : Od} (k : o.ok) (s : StH h P R M pr m) (k8 : m.rg.length = 8) {a b : Int} {x2 x3 : Option D} (e : o.effD a b = .no) : ∃ h', EndsAt (rest [some (.ref P), some o.d, x2, x3, some (wdD o m.pl a b), some (.int (o.effP m.pl a b)), some (o.effD a b).d, none] h) h' ∧ StH h' P R M pr { m with rg := putR m.rg o.wr ((o.effW m.pl a b).getD 0), pl := o.effP m.pl a b } ∧ KL [P, R, M] h h' := by
  rw [e]
  obtain ⟨h1, r1, s1, k1⟩ := tail_run k s k8 (x2 := x2) (x3 := x3) (x6 := some Dd.no.d) (x7 := none) (x := wdD o m.pl a b) (w := (o.effW m.pl a b).getD 0) (t := o.effP m.pl a b) fun z => by
    obtain ⟨w, q⟩ := Od.effW_some (p := m.pl) e z
    unfold wdD
    rw [q]
    rfl
  have z : fIs true Dd.no.d .non h = .ok (.bl false) h := rfl
  refine ⟨h1, ?_, s1, k1⟩
  apply EndsAt.nx
  repeat (first | (with_reducible first | exact z | exact r1 | exact c_run | exact okr | exact nils_run) | ((with_reducible apply var_run);exact rfl) | with_reducible apply IfR.f | ((with_reducible apply ThR.nx);(try simp only [List.set_cons_succ, List.set_cons_zero, setAll])) | (with_reducible first | apply m2_run | apply bool_run | apply rb_and | apply rb_seq | apply rb_if))
theorem rest_out {o : Od} (s : StH h P R M pr m) {d : Dd} {x2 x3 : Option D} {x : D} {t : Int} (e : (∃ ad, d = .load ad ∧ 256 ≤ ad) ∨ ∃ ad w, d = .store ad w ∧ 256 ≤ ad) : ∃ h', rest [some (.ref P), some o.d, x2, x3, some x, some (.int t), some d.d, none] h = .ret .non h' ∧ StH h' P R M pr (m.fault 1) ∧ KL [P, R, M] h h' := by
  obtain ⟨h1, r1, s1, k1⟩ := fault_run s 1
  refine ⟨h1, ?_, s1, k1.sub (by simp)⟩
  rcases e with ⟨ad, rfl, ha⟩ | ⟨ad, w, rfl, ha⟩
  · have z : fIs true (Dd.load ad).d .non h = .ok (.bl true) h := rfl
    have z0 : fIx (Dd.load ad).d (.int 0) h = .ok (.str "load") h := rfl
    have z1 : fIx (Dd.load ad).d (.int 1) h = .ok (.int ad) h := rfl
    have z2 := load_out s ad ha
    repeat (first | (with_reducible first | exact z | exact z0 | exact z1 | exact z2 | exact s.hP | exact r1 | exact c_run | exact nil_run | exact rb_retN) | ((with_reducible apply var_run);exact rfl) | (with_reducible first | exact NotB.f | apply IfR.t | exact ThR.rt) | ((with_reducible apply ThR.nx);(try simp only [List.set_cons_succ, List.set_cons_zero, setAll])) | ((with_reducible refine eqs_t ?_);decide) | (with_reducible first | apply m2_run | apply cons_run | apply bool_run | apply tru_any | apply rb_and | apply rb_not) | ((with_reducible refine lenP ?_);exact rfl) | ((with_reducible refine lenP1 ?_);exact rfl) | with_reducible apply rb_meth | ((with_reducible apply lkN);exact rfl) | (with_reducible first | apply rb_seq | apply rb_if | apply drop_run | exact UnpN.nil | apply UnpN.cons | apply rb_unp))
  · have z : fIs true (Dd.store ad w).d .non h = .ok (.bl true) h := rfl
    have z0 : fIx (Dd.store ad w).d (.int 0) h = .ok (.str "store") h := rfl
    have z1 : fIx (Dd.store ad w).d (.int 1) h = .ok (.int ad) h := rfl
    have z3 : fIx (Dd.store ad w).d (.int 2) h = .ok (.int w) h := rfl
    have z2 := store_out (P := P) (h := h) ad w ha
    repeat (first | (with_reducible first | exact z | exact z0 | exact z1 | exact z2 | exact z3 | exact s.hP | exact r1 | exact c_run | exact nil_run | exact nils_run | exact rb_retN) | ((with_reducible apply var_run);exact rfl) | (with_reducible first | exact NotB.f | apply IfR.t | apply IfR.f | exact ThR.rt) | ((with_reducible apply ThR.nx);(try simp only [List.set_cons_succ, List.set_cons_zero, setAll])) | ((with_reducible refine eqs_t ?_);decide) | ((with_reducible refine eqs_f ?_);decide) | (with_reducible first | apply m2_run | apply cons_run | apply bool_run | apply tru_any | apply rb_and | apply rb_not) | ((with_reducible refine lenP1 ?_);exact rfl) | with_reducible apply rb_meth | ((with_reducible apply lkN);exact rfl) | (with_reducible first | apply rb_seq | apply rb_if | apply drop_run))
theorem rest_load {o : Od} (k : o.ok) (s : StH h P R M pr m) (k8 : m.rg.length = 8) (k256 : m.me.length = 256) {ad : Int} {x2 x3 : Option D} {x : D} {t : Int} (a0 : 0 ≤ ad) (a1 : ad < 256) : ∃ h', EndsAt (rest [some (.ref P), some o.d, x2, x3, some x, some (.int t), some (Dd.load ad).d, none] h) h' ∧
    StH h' P R M pr (if ad = 254 then { m with rg := putR m.rg o.wr (m.ic.headD 0), ic := m.ic.tail, pl := t } else { m with rg := putR m.rg o.wr (rgA m.me ad), pl := t }) ∧ KL [P, R, M] h h' := by
  obtain ⟨h1, r1, s1, k1⟩ := taken_in_run s ad
  have z : ∀ h : Hm, fIs true (Dd.load ad).d .non h = .ok (.bl true) h := fun _ => rfl
  have z0 : ∀ h : Hm, fIx (Dd.load ad).d (.int 0) h = .ok (.str "load") h := fun _ => rfl
  have z1 : ∀ h : Hm, fIx (Dd.load ad).d (.int 1) h = .ok (.int ad) h := fun _ => rfl
  by_cases c : ad = 254
  · rw [if_pos c] at s1 ⊢
    have z2 := load_in s ad c
    obtain ⟨h2, r2, s2, k2⟩ := tail_run k s1 k8 (x2 := x2) (x3 := x3) (x6 := some (Dd.load ad).d) (x7 := some (.bl true)) (x := .int (m.ic.headD 0)) (w := m.ic.headD 0) (t := t) fun _ => rfl
    refine ⟨h2, ?_, s2, (k1.sub (by simp)).trans k2⟩
    apply EndsAt.nx
    repeat (first | (with_reducible first | exact z _ | exact z0 _ | exact z1 _ | exact z2 | exact s.hP | exact r1 | exact r2 | exact c_run | exact okr | exact nil_run | exact nils_run) | ((with_reducible apply var_run);exact rfl) | (with_reducible first | exact NotB.t | apply IfR.t | apply IfR.f) | ((with_reducible apply ThR.nx);(try simp only [List.set_cons_succ, List.set_cons_zero, setAll])) | ((with_reducible refine eqs_t ?_);decide) | ((with_reducible refine eqs_f ?_);decide) | (with_reducible first | apply m2_run | apply cons_run | apply bool_run | apply tru_any | apply rb_and | apply rb_not) | ((with_reducible refine lenP ?_);exact rfl) | ((with_reducible refine lenP1 ?_);exact rfl) | with_reducible apply rb_meth | ((with_reducible apply lkN);exact rfl) | (with_reducible first | apply rb_seq | apply rb_if | apply drop_run | exact UnpN.nil | apply UnpN.cons | apply rb_unp))
  · rw [if_neg c] at s1 ⊢
    have z2 := load_me s k256 ad a0 a1 c
    obtain ⟨h2, r2, s2, k2⟩ := tail_run k s1 k8 (x2 := x2) (x3 := x3) (x6 := some (Dd.load ad).d) (x7 := some (.bl true)) (x := .int (rgA m.me ad)) (w := rgA m.me ad) (t := t) fun _ => rfl
    refine ⟨h2, ?_, s2, (k1.sub (by simp)).trans k2⟩
    apply EndsAt.nx
    repeat (first | (with_reducible first | exact z _ | exact z0 _ | exact z1 _ | exact z2 | exact s.hP | exact r1 | exact r2 | exact c_run | exact okr | exact nil_run | exact nils_run) | ((with_reducible apply var_run);exact rfl) | (with_reducible first | exact NotB.t | apply IfR.t | apply IfR.f) | ((with_reducible apply ThR.nx);(try simp only [List.set_cons_succ, List.set_cons_zero, setAll])) | ((with_reducible refine eqs_t ?_);decide) | ((with_reducible refine eqs_f ?_);decide) | (with_reducible first | apply m2_run | apply cons_run | apply bool_run | apply tru_any | apply rb_and | apply rb_not) | ((with_reducible refine lenP ?_);exact rfl) | ((with_reducible refine lenP1 ?_);exact rfl) | with_reducible apply rb_meth | ((with_reducible apply lkN);exact rfl) | (with_reducible first | apply rb_seq | apply rb_if | apply drop_run | exact UnpN.nil | apply UnpN.cons | apply rb_unp))
theorem rest_store {o : Od} (k : o.ok) (s : StH h P R M pr m) (k8 : m.rg.length = 8) (k256 : m.me.length = 256) (ko : m.ou.length ≤ 900000) {ad w : Int} {x2 x3 : Option D} {t : Int} (hw : o.wr = 0) (a0 : 0 ≤ ad) (a1 : ad < 256) : ∃ h', EndsAt (rest [some (.ref P), some o.d, x2, x3, some .non, some (.int t), some (Dd.store ad w).d, none] h) h' ∧
    StH h' P R M pr { storeP m ad w with pl := t } ∧ KL [P, R, M] h h' := by
  obtain ⟨h1, r1, s1, k1⟩ := store_run s k256 ko ad w a0 a1
  have z : ∀ h : Hm, fIs true (Dd.store ad w).d .non h = .ok (.bl true) h := fun _ => rfl
  have z0 : ∀ h : Hm, fIx (Dd.store ad w).d (.int 0) h = .ok (.str "store") h := fun _ => rfl
  have z1 : ∀ h : Hm, fIx (Dd.store ad w).d (.int 1) h = .ok (.int ad) h := fun _ => rfl
  have z3 : ∀ h : Hm, fIx (Dd.store ad w).d (.int 2) h = .ok (.int w) h := fun _ => rfl
  have e8 : (storeP m ad w).rg = m.rg := by
    unfold storeP
    split
    · rfl
    · split <;> rfl
  obtain ⟨h2, r2, s2, k2⟩ := tail_run k s1 (by rw [e8]; exact k8) (x2 := x2) (x3 := x3) (x6 := some (Dd.store ad w).d) (x7 := none) (x := .non) (w := 0) (t := t) fun q => (q hw).elim
  have e9 : { storeP m ad w with rg := putR (storeP m ad w).rg o.wr 0, pl := t } = { storeP m ad w with pl := t } := by
    unfold putR
    rw [if_pos hw]
  rw [e9] at s2
  refine ⟨h2, ?_, s2, (k1.sub (by simp)).trans k2⟩
  apply EndsAt.nx
  repeat (first | (with_reducible first | exact z _ | exact z0 _ | exact z1 _ | exact z3 _ | exact s.hP | exact r1 | exact r2 | exact c_run | exact nil_run | exact nils_run) | ((with_reducible apply var_run);exact rfl) | (with_reducible first | exact NotB.t | apply IfR.t | apply IfR.f) | ((with_reducible apply ThR.nx);(try simp only [List.set_cons_succ, List.set_cons_zero, setAll])) | ((with_reducible refine eqs_t ?_);decide) | ((with_reducible refine eqs_f ?_);decide) | (with_reducible first | apply m2_run | apply cons_run | apply bool_run | apply tru_any | apply rb_and | apply rb_not) | ((with_reducible refine lenP1 ?_);exact rfl) | with_reducible apply rb_meth | ((with_reducible apply lkN);exact rfl) | (with_reducible first | apply rb_seq | apply rb_if))
theorem rest_run {o : Od} (k : o.ok) (s : StH h P R M pr m) (mo : m.ok) (ko : m.ou.length ≤ 900000) (x : o.ex) {x2 x3 : Option D} : ∃ h', EndsAt (rest [some (.ref P), some o.d, x2, x3, some (wdD o m.pl (wdA m.rg o) (wdB m.rg o)), some (.int (o.effP m.pl (wdA m.rg o) (wdB m.rg o))), some (o.effD (wdA m.rg o) (wdB m.rg o)).d, none] h) h' ∧ StH h' P R M pr (m.exec o) ∧ KL [P, R, M] h h' := by
  have hA : Wd (wdA m.rg o) := wd_mem mo.rw _ _
  have hB : Wd (wdB m.rg o) := wd_mem mo.rw _ _
  unfold Ms.exec
  generalize wdA m.rg o = a at hA ⊢
  generalize wdB m.rg o = b at hB ⊢
  cases e : o.effD a b with
  | no =>
    obtain ⟨h', r, s', k'⟩ := rest_no k s mo.r8 (x2 := x2) (x3 := x3) e
    rw [e] at r
    simp only [Ms.dd]
    exact ⟨h', r, s', k'⟩
  | load ad =>
    simp only [Ms.dd]
    have ha : Wd ad := by
      cases o <;> first
        | (cases e; exact mod_wd _)
        | cases e
    by_cases c : 256 ≤ ad
    · rw [if_neg (by omega), if_pos c]
      obtain ⟨h', r, s', k'⟩ := rest_out (o := o) s (d := .load ad) (x2 := x2) (x3 := x3) (x := wdD o m.pl a b) (t := o.effP m.pl a b) (.inl ⟨ad, rfl, c⟩)
      exact ⟨h', .inr r, s', k'⟩
    · obtain ⟨h', r, s', k'⟩ := rest_load k s mo.r8 mo.m256 (x2 := x2) (x3 := x3) (x := wdD o m.pl a b) (t := o.effP m.pl a b) ha.1 (by omega)
      refine ⟨h', r, ?_, k'⟩
      by_cases c2 : ad = 254
      · rw [if_pos c2] at s' ⊢
        exact s'
      · rw [if_neg c2] at s' ⊢
        rw [if_neg c]
        exact s'
  | store ad w =>
    simp only [Ms.dd]
    have ha : Wd ad := by
      cases o <;> first
        | (cases e; exact mod_wd _)
        | cases e
    have hz : o.wr = 0 ∧ wdD o m.pl a b = .non := by
      cases o <;> first
        | exact ⟨rfl, rfl⟩
        | cases e
    by_cases c : 256 ≤ ad
    · rw [if_pos c]
      obtain ⟨h', r, s', k'⟩ := rest_out (o := o) s (d := .store ad w) (x2 := x2) (x3 := x3) (x := wdD o m.pl a b) (t := o.effP m.pl a b) (.inr ⟨ad, w, rfl, c⟩)
      exact ⟨h', .inr r, s', k'⟩
    · rw [hz.2]
      obtain ⟨h', r, s', k'⟩ := rest_store k s mo.r8 mo.m256 ko (x2 := x2) (x3 := x3) (w := w) (t := o.effP m.pl a b) hz.1 ha.1 (by omega)
      refine ⟨h', r, ?_, k'⟩
      rw [if_neg c]
      unfold storeP at s'
      by_cases c2 : ad = 255
      · rw [if_pos c2] at s' ⊢
        exact s'
      · rw [if_neg c2] at s' ⊢
        by_cases c3 : ad = 254
        · rw [if_pos c3] at s' ⊢
          exact s'
        · rw [if_neg c3] at s' ⊢
          exact s'
end
end K03
end MM
namespace MM
namespace K03
open PySem L2
section
variable {h : Hm} {P R M : Nat} {pr : List Od} {m : Ms}
theorem step_in {o : Od} (k : o.ok) (s : StH h P R M pr m) (mo : m.ok) (ho : m.ou.length ≤ 900000) (e : m.en = .go) (h0 : 0 ≤ m.pl) (q : pr[m.pl.toNat]? = some o) : ∃ h', f_step [.ref P] h = .ok .non h' ∧ StH h' P R M pr (m.doO o) ∧ KL [P, R, M] h h' := by
  have hl := (List.getElem?_eq_some_iff.mp q).1
  obtain ⟨n, hn⟩ : ∃ n : Int, n = pr.length := ⟨_, rfl⟩
  have e1 : fIs true m.en.d .non h = .ok (.bl false) h := by rw [en_is, e]; rfl
  have e2 := pr_len (pr := pr) (h := h)
  rw [← hn] at e2
  have hlt : m.pl < n := by omega
  have e3 := pr_ix (h := h) h0 q
  have s1 : StH _ P R M pr { m with ct := m.ct + 1 } := s.setP rfl rfl
  have k1 : KL [P, R, M] h (h.set P (.ins "State" (sfl pr R M { m with ct := m.ct + 1 }))) := KL.set (by simp)
  have e4 : ∀ h : Hm, fIx o.d (.int 0) h = .ok (.str o.nm) h := fun h => Od.d_ix0
  by_cases x1 : o = .halt
  · subst x1
    have s2 : StH _ P R M pr { m with ct := m.ct + 1, en := .halt } := s1.setP rfl rfl
    refine ⟨_, ?_, s2, k1.trans (KL.set (by simp))⟩
    have pe : ∀ m2 : Ms, putD "ended" (.tup [.str "halt"]) (sfl pr R M m2) = sfl pr R M { m2 with en := .halt } := fun _ => rfl
    apply call_ret f_step_eq rfl
    unfold b_step
    simp only [startE, List.map_cons, List.map_nil, List.length_cons, List.length_nil, List.cons_append, List.nil_append, Nat.zero_add, Nat.reduceAdd, Nat.reduceSub, List.replicate]
    repeat (first | (with_reducible first | exact putD_ct _ | exact s.hP | exact s1.hP | exact e1 | exact e2 | exact e3 | exact e4 _ | exact pe _ | exact c_run | exact nil_run | exact nils_run | exact rb_retN) | ((with_reducible apply var_run);exact rfl) | (with_reducible first | exact NotB.t | apply IfR.t | apply IfR.f | exact ThR.rt) | ((with_reducible apply ThR.nx);(try simp only [List.set_cons_succ, List.set_cons_zero, setAll])) | with_reducible exact fIAdd_i | ((with_reducible refine lt_t ?_);omega) | ((with_reducible refine le_t ?_);omega) | ((with_reducible refine eqs_t ?_);decide) | (with_reducible first | apply m2_run | apply cons_run | apply tup_run | apply bool_run | apply rb_not | apply rb_chain | apply call_run) | ((with_reducible apply lkS);exact rfl) | ((with_reducible apply memP);decide) | ((with_reducible apply ltP);exact rfl) | (with_reducible first | apply fld_run | apply rb_fldM | apply rb_fldA | apply rb_seq | apply rb_if | apply rb_asg) | ((with_reducible apply envP);exact rfl) | with_reducible apply rb_bind)
  · by_cases x2 : ∃ c, o = .call c
    · obtain ⟨c, rfl⟩ := x2
      obtain ⟨h2, r2, s2, k2⟩ := call_run' s1 mo.r8 c
      refine ⟨h2, ?_, s2, k1.trans (k2.sub (by simp))⟩
      have e4 : ∀ h : Hm, fIx (Od.call c).d (.int 0) h = .ok (.str "call") h := fun _ => rfl
      have e5 : ∀ h : Hm, fIx (Od.call c).d (.int 1) h = .ok (.int c) h := fun _ => rfl
      apply call_ret f_step_eq rfl
      unfold b_step
      simp only [startE, List.map_cons, List.map_nil, List.length_cons, List.length_nil, List.cons_append, List.nil_append, Nat.zero_add, Nat.reduceAdd, Nat.reduceSub, List.replicate]
      repeat (first | (with_reducible first | exact putD_ct _ | exact s.hP | exact e1 | exact e2 | exact e3 | exact e4 _ | exact e5 _ | exact r2 | exact c_run | exact nil_run | exact nils_run | exact rb_retN) | ((with_reducible apply var_run);exact rfl) | (with_reducible first | exact NotB.t | apply IfR.t | apply IfR.f | exact ThR.rt) | ((with_reducible apply ThR.nx);(try simp only [List.set_cons_succ, List.set_cons_zero, setAll])) | with_reducible exact fIAdd_i | ((with_reducible refine lt_t ?_);omega) | ((with_reducible refine le_t ?_);omega) | ((with_reducible refine eqs_t ?_);decide) | ((with_reducible refine eqs_f ?_);decide) | (with_reducible first | apply m2_run | apply cons_run | apply bool_run | apply rb_not | apply rb_chain | apply call_run | apply rb_callF) | ((with_reducible refine lenP ?_);exact rfl) | ((with_reducible apply lkS);exact rfl) | ((with_reducible apply memP);decide) | ((with_reducible apply ltP);exact rfl) | (with_reducible first | apply fld_run | apply rb_fldA | apply rb_seq | apply rb_if | apply drop_run | apply rb_asg) | ((with_reducible apply envP);exact rfl) | with_reducible apply rb_bind)
    · by_cases x3 : o = .back
      · subst x3
        have s2 : StH _ P R M pr { m with ct := m.ct + 1, pl := m.bk } := s1.setP rfl rfl
        refine ⟨_, ?_, s2, k1.trans (KL.set (by simp))⟩
        apply call_ret f_step_eq rfl
        unfold b_step
        simp only [startE, List.map_cons, List.map_nil, List.length_cons, List.length_nil, List.cons_append, List.nil_append, Nat.zero_add, Nat.reduceAdd, Nat.reduceSub, List.replicate]
        repeat (first | (with_reducible first | exact putD_pl _ | exact putD_ct _ | exact s.hP | exact s1.hP | exact e1 | exact e2 | exact e3 | exact e4 _ | exact c_run | exact nil_run | exact nils_run | exact rb_retN) | ((with_reducible apply var_run);exact rfl) | (with_reducible first | exact NotB.t | apply IfR.t | apply IfR.f | exact ThR.rt) | ((with_reducible apply ThR.nx);(try simp only [List.set_cons_succ, List.set_cons_zero, setAll])) | with_reducible exact fIAdd_i | ((with_reducible refine lt_t ?_);omega) | ((with_reducible refine le_t ?_);omega) | ((with_reducible refine eqs_t ?_);decide) | ((with_reducible refine eqs_f ?_);decide) | (with_reducible first | apply m2_run | apply cons_run | apply bool_run | apply rb_not | apply rb_chain | apply call_run) | ((with_reducible apply lkS);exact rfl) | ((with_reducible apply memP);decide) | ((with_reducible apply ltP);exact rfl) | (with_reducible first | apply fld_run | apply rb_fldM | apply rb_fldA | apply rb_seq | apply rb_if | apply rb_asg) | ((with_reducible apply envP);exact rfl) | with_reducible apply rb_bind)
      · have x : o.ex := ⟨x1, x3, fun c z => x2 ⟨c, z⟩⟩
        obtain ⟨n1, n2, n3⟩ := Od.ex_nm k x
        rw [Ms.doO_ex x]
        obtain ⟨g1, w1⟩ := wf_run k s1 mo.r8
        have s2 := s1.app (g := g1)
        have mo1 : Ms.ok { m with ct := m.ct + 1 } := ⟨mo.r8, mo.rw, mo.m256, mo.mw, mo.iw⟩
        obtain ⟨g2, w2⟩ := eff_run k (p := m.pl) (a := wdA m.rg o) (b := wdB m.rg o) (wd_mem mo.rw _ _) (wd_mem mo.rw _ _) (h.set P (.ins "State" (sfl pr R M { m with ct := m.ct + 1 })) ++ g1)
        have s3 := s2.app (g := g2)
        obtain ⟨h4, r4, s4, k4⟩ := rest_run k s3 mo1 ho x (x2 := some (.int (wdA m.rg o))) (x3 := some (.int (wdB m.rg o)))
        refine ⟨h4, ?_, s4, ((k1.trans KL.app).trans KL.app).trans k4⟩
        have t0 : ∀ h : Hm, fEq (.str o.nm) (.str "halt") h = .ok (.bl false) h := fun h => eqs_f n1
        have t1 : ∀ h : Hm, fEq (.str o.nm) (.str "call") h = .ok (.bl false) h := fun h => eqs_f n2
        have t2 : ∀ h : Hm, fEq (.str o.nm) (.str "back") h = .ok (.bl false) h := fun h => eqs_f n3
        have c0 : p_step_0 [some (.ref P), none, none, none, none, none, none, none] h = .next [some (.ref P), none, none, none, none, none, none, none] h := by repeat (first | (with_reducible first | exact s.hP | exact e1 | exact c_run | exact nils_run) | ((with_reducible apply var_run);exact rfl) | (with_reducible first | apply IfR.f | apply m2_run | apply bool_run) | ((with_reducible apply lkS);exact rfl) | ((with_reducible apply memP);decide) | (with_reducible first | apply fld_run | apply rb_if))
        have c1 : p_step_1 [some (.ref P), none, none, none, none, none, none, none] h = .next [some (.ref P), none, none, none, none, none, none, none] h := by repeat (first | (with_reducible first | exact s.hP | exact e2 | exact c_run | exact nil_run | exact nils_run) | ((with_reducible apply var_run);exact rfl) | (with_reducible first | exact NotB.t | apply IfR.t | apply IfR.f) | ((with_reducible refine lt_t ?_);omega) | ((with_reducible refine le_t ?_);omega) | (with_reducible first | apply cons_run | apply bool_run | apply rb_not | apply rb_chain | apply call_run) | ((with_reducible apply lkS);exact rfl) | ((with_reducible apply memP);decide) | (with_reducible first | apply fld_run | apply rb_if | apply rb_bind))
        have c2 : p_step_2 [some (.ref P), none, none, none, none, none, none, none] h = .next [some (.ref P), some o.d, none, none, none, none, none, none] h := by repeat (first | (with_reducible first | exact s.hP | exact e3) | ((with_reducible apply var_run);exact rfl) | with_reducible apply m2_run | ((with_reducible apply lkS);exact rfl) | ((with_reducible apply memP);decide) | (with_reducible first | apply fld_run | apply rb_asg) | ((with_reducible apply envP);exact rfl))
        have c3 : p_step_3 [some (.ref P), some o.d, none, none, none, none, none, none] h = .next [some (.ref P), some o.d, none, none, none, none, none, none] (h.set P (.ins "State" (sfl pr R M { m with ct := m.ct + 1 }))) := by repeat (first | (with_reducible first | exact putD_ct _ | exact s.hP | exact c_run) | ((with_reducible apply var_run);exact rfl) | with_reducible exact fIAdd_i | ((with_reducible apply lkS);exact rfl) | ((with_reducible apply memP);decide) | ((with_reducible apply ltP);exact rfl) | with_reducible apply rb_fldA)
        have c4 : p_step_4 [some (.ref P), some o.d, none, none, none, none, none, none] (h.set P (.ins "State" (sfl pr R M { m with ct := m.ct + 1 }))) = .next [some (.ref P), some o.d, none, none, none, none, none, none] (h.set P (.ins "State" (sfl pr R M { m with ct := m.ct + 1 }))) := by repeat (first | (with_reducible first | exact e4 _ | exact t0 _ | exact c_run | exact nils_run) | ((with_reducible apply var_run);exact rfl) | (with_reducible first | apply IfR.f | apply m2_run | apply bool_run | apply rb_if))
        have c5 : p_step_5 [some (.ref P), some o.d, none, none, none, none, none, none] (h.set P (.ins "State" (sfl pr R M { m with ct := m.ct + 1 }))) = .next [some (.ref P), some o.d, none, none, none, none, none, none] (h.set P (.ins "State" (sfl pr R M { m with ct := m.ct + 1 }))) := by repeat (first | (with_reducible first | exact e4 _ | exact t1 _ | exact c_run | exact nils_run) | ((with_reducible apply var_run);exact rfl) | (with_reducible first | apply IfR.f | apply m2_run | apply bool_run | apply rb_if))
        have c6 : p_step_6 [some (.ref P), some o.d, none, none, none, none, none, none] (h.set P (.ins "State" (sfl pr R M { m with ct := m.ct + 1 }))) = .next [some (.ref P), some o.d, none, none, none, none, none, none] (h.set P (.ins "State" (sfl pr R M { m with ct := m.ct + 1 }))) := by repeat (first | (with_reducible first | exact e4 _ | exact t2 _ | exact c_run | exact nils_run) | ((with_reducible apply var_run);exact rfl) | (with_reducible first | apply IfR.f | apply m2_run | apply bool_run | apply rb_if))
        have c7 : p_step_7 [some (.ref P), some o.d, none, none, none, none, none, none] (h.set P (.ins "State" (sfl pr R M { m with ct := m.ct + 1 }))) = .next [some (.ref P), some o.d, some (.int (wdA m.rg o)), some (.int (wdB m.rg o)), none, none, none, none] (h.set P (.ins "State" (sfl pr R M { m with ct := m.ct + 1 })) ++ g1) := by
          refine (rb_unp (is := [2, 3]) (m := _) (ds := [.int (wdA m.rg o), .int (wdB m.rg o)]) ?_ rfl (.cons (.cons .nil)) rfl).trans rfl
          repeat (first | (with_reducible first | exact s1.hP | exact w1 | exact nil_run) | ((with_reducible apply var_run);exact rfl) | (with_reducible first | apply cons_run | apply rb_callF) | ((with_reducible refine lenP ?_);exact rfl) | ((with_reducible apply lkS);exact rfl) | ((with_reducible apply memP);decide) | with_reducible apply fld_run)
        have c8 : p_step_8 [some (.ref P), some o.d, some (.int (wdA m.rg o)), some (.int (wdB m.rg o)), none, none, none, none] (h.set P (.ins "State" (sfl pr R M { m with ct := m.ct + 1 })) ++ g1) = .next [some (.ref P), some o.d, some (.int (wdA m.rg o)), some (.int (wdB m.rg o)), some (wdD o m.pl (wdA m.rg o) (wdB m.rg o)), some (.int (o.effP m.pl (wdA m.rg o) (wdB m.rg o))), some (o.effD (wdA m.rg o) (wdB m.rg o)).d, none] (h.set P (.ins "State" (sfl pr R M { m with ct := m.ct + 1 })) ++ g1 ++ g2) := by
          refine (rb_unp (is := [4, 5, 6]) (m := _) (ds := [wdD o m.pl (wdA m.rg o) (wdB m.rg o), .int (o.effP m.pl (wdA m.rg o) (wdB m.rg o)), (o.effD (wdA m.rg o) (wdB m.rg o)).d]) ?_ rfl (.cons (.cons (.cons .nil))) rfl).trans rfl
          have w2' : f_effect [o.d, .int m.pl, .int (wdA m.rg o), .int (wdB m.rg o)] (h.set P (.ins "State" (sfl pr R M { m with ct := m.ct + 1 })) ++ g1) = .ok (.tup [wdD o m.pl (wdA m.rg o) (wdB m.rg o), .int (o.effP m.pl (wdA m.rg o) (wdB m.rg o)), (o.effD (wdA m.rg o) (wdB m.rg o)).d]) (h.set P (.ins "State" (sfl pr R M { m with ct := m.ct + 1 })) ++ g1 ++ g2) := w2
          repeat (first | (with_reducible first | exact s2.hP | exact w2' | exact nil_run) | ((with_reducible apply var_run);exact rfl) | (with_reducible first | apply cons_run | apply rb_callF) | ((with_reducible refine lenP ?_);exact rfl) | ((with_reducible apply lkS);exact rfl) | ((with_reducible apply memP);decide) | with_reducible apply fld_run)
        apply call_ends f_step_eq rfl
        exact ends_seq c0 (ends_seq c1 (ends_seq c2 (ends_seq c3 (ends_seq c4 (ends_seq c5 (ends_seq c6 (ends_seq c7 (ends_seq c8 r4))))))))
theorem step_run (s : StH h P R M pr m) (mo : m.ok) (ho : m.ou.length ≤ 900000) (po : ∀ o ∈ pr, o.ok) : ∃ h', f_step [.ref P] h = .ok .non h' ∧ StH h' P R M pr (m.step pr) ∧ KL [P, R, M] h h' := by
  by_cases e : m.en = .go
  · by_cases c : 0 ≤ m.pl ∧ m.pl < pr.length
    · obtain ⟨o, q⟩ : ∃ o, pr[m.pl.toNat]? = some o := ⟨_, List.getElem?_eq_getElem (by omega)⟩
      rw [Ms.step_in e c.1 q]
      exact step_in (po o (List.mem_of_getElem? q)) s mo ho e c.1 q
    · rw [Ms.step_out e c]
      have s1 : StH _ P R M pr { m with en := .past m.pl } := s.setP rfl rfl
      refine ⟨_, ?_, s1, KL.set (by simp)⟩
      obtain ⟨n, hn⟩ : ∃ n : Int, n = pr.length := ⟨_, rfl⟩
      have e1 : fIs true m.en.d .non h = .ok (.bl false) h := by rw [en_is, e]; rfl
      have e2 := pr_len (pr := pr) (h := h)
      rw [← hn] at e2 c
      have pe : putD "ended" (.tup [.str "past", .int m.pl]) (sfl pr R M m) = sfl pr R M { m with en := .past m.pl } := rfl
      apply call_ret f_step_eq rfl
      unfold b_step
      simp only [startE, List.map_cons, List.map_nil, List.length_cons, List.length_nil, List.cons_append, List.nil_append, Nat.zero_add, Nat.reduceAdd, Nat.reduceSub, List.replicate]
      by_cases c0 : 0 ≤ m.pl
      · repeat (first | (with_reducible first | exact s.hP | exact e1 | exact e2 | exact pe | exact c_run | exact nil_run | exact nils_run | exact rb_retN) | ((with_reducible apply var_run);exact rfl) | (with_reducible first | exact NotB.f | apply IfR.t | apply IfR.f | exact ThR.rt) | ((with_reducible apply ThR.nx);(try simp only [List.set_cons_succ, List.set_cons_zero, setAll])) | ((with_reducible refine lt_f ?_);omega) | ((with_reducible refine le_t ?_);omega) | (with_reducible first | apply m2_run | apply cons_run | apply tup_run | apply bool_run | apply rb_not | apply rb_chain | apply call_run) | ((with_reducible apply lkS);exact rfl) | ((with_reducible apply memP);decide) | ((with_reducible apply ltP);exact rfl) | (with_reducible first | apply fld_run | apply rb_fldM | apply rb_seq | apply rb_if | apply rb_bind))
      · repeat (first | (with_reducible first | exact s.hP | exact e1 | exact pe | exact c_run | exact okr | exact nil_run | exact nils_run | exact rb_retN) | ((with_reducible apply var_run);exact rfl) | (with_reducible first | exact NotB.f | apply IfR.t | apply IfR.f | exact ThR.rt) | ((with_reducible apply ThR.nx);(try simp only [List.set_cons_succ, List.set_cons_zero, setAll])) | ((with_reducible refine le_f ?_);omega) | (with_reducible first | apply m2_run | apply cons_run | apply tup_run | apply bool_run | apply rb_not | apply rb_chain) | ((with_reducible apply lkS);exact rfl) | ((with_reducible apply memP);decide) | ((with_reducible apply ltP);exact rfl) | (with_reducible first | apply fld_run | apply rb_fldM | apply rb_seq | apply rb_if))
  · rw [Ms.step_end e]
    refine ⟨h, ?_, s, KL.refl⟩
    have e1 : fIs true m.en.d .non h = .ok (.bl true) h := by
      rw [en_is, decide_eq_false e]
      rfl
    apply call_ret f_step_eq rfl
    unfold b_step
    simp only [startE, List.map_cons, List.map_nil, List.length_cons, List.length_nil, List.cons_append, List.nil_append, Nat.zero_add, Nat.reduceAdd, Nat.reduceSub, List.replicate]
    repeat (first | (with_reducible first | exact s.hP | exact e1 | exact c_run | exact rb_retN) | ((with_reducible apply var_run);exact rfl) | (with_reducible first | apply IfR.t | exact ThR.rt | apply m2_run | apply bool_run) | ((with_reducible apply lkS);exact rfl) | ((with_reducible apply memP);decide) | (with_reducible first | apply fld_run | apply rb_seq | apply rb_if))
end
end K03
end MM
namespace MM
namespace K03
open PySem L2
theorem chk_orders {x0 x1 x2 x4 : Option D} {h : Hm} : ∀ (pr : List Od) (x3 : Option D), (∀ o ∈ pr, o.ok) → ∃ y, forL [] (gN 3) l_State___init___0 (pr.map Od.d) [x0, x1, x2, x3, x4] h = .next [x0, x1, x2, y, x4] h
  | [], x3, _ => ⟨x3, forL_nil gdOk_nil⟩
  | o :: pr, x3, w => by
    obtain ⟨y, ih⟩ := chk_orders (x0 := x0) (x1 := x1) (x2 := x2) (x4 := x4) (h := h) pr (some o.d) fun q hq => w q (List.mem_cons_of_mem _ hq)
    refine ⟨y, forL_next (e1 := [x0, x1, x2, some o.d, x4]) (h1 := h) gdOk_nil rfl ?_ ih⟩
    have e := checkord_run (w o List.mem_cons_self) h
    unfold l_State___init___0
    repeat (first | (with_reducible first | exact e | exact nil_run) | ((with_reducible apply var_run);exact rfl) | (with_reducible first | apply cons_run | apply rb_callF) | ((with_reducible refine lenP ?_);exact rfl) | with_reducible apply drop_run)
theorem chk_words {x0 x1 x2 x3 : Option D} {h : Hm} {gs : List (Nat × O)} (hg : gdOk gs h = true) : ∀ (ws : List Int) (x4 : Option D), (∀ w ∈ ws, Wd w) → ∃ y, forL gs (gN 4) l_State___init___1 (ws.map D.int) [x0, x1, x2, x3, x4] h = .next [x0, x1, x2, x3, y] h
  | [], x4, _ => ⟨x4, forL_nil hg⟩
  | v :: ws, x4, w => by
    obtain ⟨y, ih⟩ := chk_words (x0 := x0) (x1 := x1) (x2 := x2) (x3 := x3) hg ws (some (.int v)) fun q hq => w q (List.mem_cons_of_mem _ hq)
    refine ⟨y, forL_next (e1 := [x0, x1, x2, x3, some (.int v)]) (h1 := h) hg rfl ?_ ih⟩
    have k := w v List.mem_cons_self
    have e := check_run v k.1 k.2 h
    unfold l_State___init___1
    repeat (first | (with_reducible first | exact e | exact nil_run) | ((with_reducible apply var_run);exact rfl) | (with_reducible first | apply cons_run | apply rb_callF) | ((with_reducible refine lenP ?_);exact rfl) | with_reducible apply drop_run)
/-- words, as a tuple or as a list -/
def IncD (d : D) (h : Hm) (inc : List Int) : Prop := d = .tup (inc.map D.int) ∨ ∃ r, d = .ref r ∧ h[r]? = some (.lst (inc.map D.int))
theorem inc_it {d : D} {h : Hm} {inc : List Int} {m : Ev → Hm → R D} {env : Ev} (i : IncD d h inc) (e : m env h = .ok d h) : ∃ gs, mItA m env h = .ok (inc.map D.int, gs) h ∧ gdOk gs h = true := by
  rcases i with rfl | ⟨r, rfl, hr⟩
  · exact ⟨[], itT_run e, gdOk_nil⟩
  · exact ⟨_, itA_run e hr, gdOk_one hr⟩
theorem inc_tup {d : D} {h : Hm} {inc : List Int} (i : IncD d h inc) : fTuple [d] h = .ok (.tup (inc.map D.int)) h := by
  rcases i with rfl | ⟨r, rfl, hr⟩
  · rfl
  · exact fTuple_lst hr
theorem IncD.kl {d : D} {h h' : Hm} {inc : List Int} {S : List Nat} (i : IncD d h inc) (k : KL S h h') (n : ∀ x ∈ S, ∀ r, d = .ref r → x ≠ r) : IncD d h' inc := by
  rcases i with rfl | ⟨r, rfl, hr⟩
  · exact .inl rfl
  · exact .inr ⟨r, rfl, k.get hr fun z => n _ z r rfl rfl⟩
theorem init_run {h : Hm} {P : Nat} {pr : List Od} {d : D} {inc : List Int} (eP : h[P]? = some (.ins "State" [])) (po : ∀ o ∈ pr, o.ok) (l0 : pr ≠ []) (l1 : pr.length ≤ 400) (i : IncD d h inc) (nd : d ≠ .ref P) (iw : ∀ w ∈ inc, Wd w) :
    ∃ R M h', f_State___init__ [.ref P, prD pr, d] h = .ok .non h' ∧ StH h' P R M pr (Ms.new inc) ∧ KL [P] h h' ∧ h.length ≤ R ∧ h.length ≤ M := by
  have hPl := get_lt eP
  obtain ⟨n, hn⟩ : ∃ n : Int, n = pr.length := ⟨_, rfl⟩
  have e2 := pr_len (pr := pr) (h := h)
  rw [← hn] at e2
  have n0 : 0 < n := by
    have : 0 < pr.length := List.length_pos_iff.mpr l0
    omega
  have n1 : n ≤ 400 := by omega
  have c0 : p_State___init___0 [some (.ref P), some (prD pr), some d, none, none] h = .next [some (.ref P), some (prD pr), some d, none, none] h := by repeat (first | (with_reducible first | exact e2 | exact c_run | exact nil_run | exact nils_run) | ((with_reducible apply var_run);exact rfl) | (with_reducible first | exact NotB.t | apply IfR.t | apply IfR.f) | ((with_reducible refine lt_t ?_);omega) | ((with_reducible refine le_t ?_);omega) | (with_reducible first | apply cons_run | apply bool_run | apply rb_not | apply rb_chain | apply call_run | apply rb_if | apply rb_bind))
  obtain ⟨y3, L3⟩ := chk_orders (x0 := some (.ref P)) (x1 := some (prD pr)) (x2 := some d) (x4 := none) (h := h) pr none po
  have c1 : p_State___init___1 [some (.ref P), some (prD pr), some d, none, none] h = .next [some (.ref P), some (prD pr), some d, y3, none] h := for_run (itT_run rfl) L3
  obtain ⟨gs, I1, I2⟩ := inc_it (m := mVar 2) (env := [some (.ref P), some (prD pr), some d, y3, none]) i rfl
  obtain ⟨y4, L4⟩ := chk_words (x0 := some (.ref P)) (x1 := some (prD pr)) (x2 := some d) (x3 := y3) I2 inc none iw
  have c2 : p_State___init___2 [some (.ref P), some (prD pr), some d, y3, none] h = .next [some (.ref P), some (prD pr), some d, y3, y4] h := for_run I1 L4
  -- program, place
  have a3 : fTuple [prD pr] h = .ok (prD pr) h := rfl
  obtain ⟨h3, q3⟩ : ∃ h3 : Hm, h3 = h.set P (.ins "State" [("program", prD pr), ("place", .int 0)]) := ⟨_, rfl⟩
  have e3 : h3[P]? = some (.ins "State" [("program", prD pr), ("place", .int 0)]) := by rw [q3]; exact set_get eP
  have k3 : KL [P] h h3 := by rw [q3]; exact KL.set (by simp)
  have u3 := set_get (o' := .ins "State" [("program", prD pr)]) eP
  have c3 : p_State___init___3 [some (.ref P), some (prD pr), some d, y3, y4] h = .next [some (.ref P), some (prD pr), some d, y3, y4] (h.set P (.ins "State" [("program", prD pr)])) := by repeat (first | (with_reducible first | exact a3 | exact eP | exact nil_run) | ((with_reducible apply var_run);exact rfl) | (with_reducible first | apply cons_run | apply call_run) | ((with_reducible apply memP);decide) | ((with_reducible apply ltP);exact rfl) | with_reducible apply rb_fldM | ((with_reducible apply pdP);exact rfl))
  have c4 : p_State___init___4 [some (.ref P), some (prD pr), some d, y3, y4] (h.set P (.ins "State" [("program", prD pr)])) = .next [some (.ref P), some (prD pr), some d, y3, y4] h3 := by
    rw [show h3 = (h.set P (.ins "State" [("program", prD pr)])).set P (.ins "State" [("program", prD pr), ("place", .int 0)]) by rw [List.set_set, q3]]
    repeat (first | (with_reducible first | exact u3 | exact c_run) | ((with_reducible apply var_run);exact rfl) | ((with_reducible apply memP);decide) | ((with_reducible apply ltP);exact rfl) | with_reducible apply rb_fldM | ((with_reducible apply pdP);exact rfl))
  -- registers, memory
  have f8 : fMul (.ref h3.length) (.int 8) (h3 ++ [.lst [.int 0]]) = .ok (.ref (h3 ++ [O.lst [.int 0]]).length) (h3 ++ [.lst [.int 0]] ++ [.lst ((List.replicate 8 (0 : Int)).map D.int)]) := by
    unfold fMul
    simp only [get_new]
    rw [if_pos ⟨by decide, by decide, by decide⟩]
    rfl
  obtain ⟨R, hR⟩ : ∃ R, R = (h3 ++ [O.lst [.int 0]]).length := ⟨_, rfl⟩
  rw [← hR] at f8
  obtain ⟨h4, q4⟩ : ∃ h4 : Hm, h4 = h3 ++ [.lst [.int 0]] ++ [.lst ((List.replicate 8 (0 : Int)).map D.int)] := ⟨_, rfl⟩
  rw [← q4] at f8
  have r4 : h4[R]? = some (.lst ((List.replicate 8 (0 : Int)).map D.int)) := by rw [q4, hR]; exact get_new
  have e4 : h4[P]? = some (.ins "State" [("program", prD pr), ("place", .int 0)]) := by rw [q4]; exact keep_app (keep_app e3)
  have l4 : h4.length = R + 1 := by rw [q4, hR]; simp
  have R0 : h.length ≤ R := by
    have := k3.1
    rw [hR]
    simp
    omega
  have k4 : KL [P] h h4 := by rw [q4]; exact (k3.trans KL.app).trans KL.app
  obtain ⟨h5, q5⟩ : ∃ h5 : Hm, h5 = h4.set P (.ins "State" [("program", prD pr), ("place", .int 0), ("registers", .ref R)]) := ⟨_, rfl⟩
  have e5 : h5[P]? = some (.ins "State" [("program", prD pr), ("place", .int 0), ("registers", .ref R)]) := by rw [q5]; exact set_get e4
  have nRP : R ≠ P := by omega
  have r5 : h5[R]? = some (.lst ((List.replicate 8 (0 : Int)).map D.int)) := by rw [q5, set_ne nRP]; exact r4
  have k5 : KL [P] h h5 := by rw [q5]; exact k4.trans (KL.set (by simp))
  have c5 : p_State___init___5 [some (.ref P), some (prD pr), some d, y3, y4] h3 = .next [some (.ref P), some (prD pr), some d, y3, y4] h5 := by
    rw [q5]
    repeat (first | (with_reducible first | exact f8 | exact e4 | exact c_run | exact nil_run) | ((with_reducible apply var_run);exact rfl) | (with_reducible first | apply m2_run | apply cons_run | apply lst_run) | ((with_reducible apply memP);decide) | ((with_reducible apply ltP);exact rfl) | with_reducible apply rb_fldM | ((with_reducible apply pdP);exact rfl))
  have fm : fMul (.ref h5.length) (.int 256) (h5 ++ [.lst [.int 0]]) = .ok (.ref (h5 ++ [O.lst [.int 0]]).length) (h5 ++ [.lst [.int 0]] ++ [.lst ((List.replicate 256 (0 : Int)).map D.int)]) := by
    unfold fMul
    simp only [get_new]
    rw [if_pos ⟨by decide, by decide, by decide⟩]
    rw [show (256 : Int).toNat = 256 from rfl, rep_flat, List.map_replicate]
  obtain ⟨M, hM⟩ : ∃ M, M = (h5 ++ [O.lst [.int 0]]).length := ⟨_, rfl⟩
  rw [← hM] at fm
  obtain ⟨h6, q6⟩ : ∃ h6 : Hm, h6 = h5 ++ [.lst [.int 0]] ++ [.lst ((List.replicate 256 (0 : Int)).map D.int)] := ⟨_, rfl⟩
  rw [← q6] at fm
  have m6 : h6[M]? = some (.lst ((List.replicate 256 (0 : Int)).map D.int)) := by rw [q6, hM]; exact get_new
  have r6 : h6[R]? = some (.lst ((List.replicate 8 (0 : Int)).map D.int)) := by rw [q6]; exact keep_app (keep_app r5)
  have e6 : h6[P]? = some (.ins "State" [("program", prD pr), ("place", .int 0), ("registers", .ref R)]) := by rw [q6]; exact keep_app (keep_app e5)
  have M0 : h5.length < M := by rw [hM]; simp
  have M1 : h.length ≤ M := Nat.le_trans k5.1 (Nat.le_of_lt M0)
  have nMP : M ≠ P := by omega
  have nMR : M ≠ R := by
    have := get_lt r5
    omega
  have k6 : KL [P] h h6 := by rw [q6]; exact (k5.trans KL.app).trans KL.app
  obtain ⟨h7, q7⟩ : ∃ h7 : Hm, h7 = h6.set P (.ins "State" [("program", prD pr), ("place", .int 0), ("registers", .ref R), ("memory", .ref M)]) := ⟨_, rfl⟩
  have e7 : h7[P]? = some (.ins "State" [("program", prD pr), ("place", .int 0), ("registers", .ref R), ("memory", .ref M)]) := by rw [q7]; exact set_get e6
  have r7 : h7[R]? = some (.lst ((List.replicate 8 (0 : Int)).map D.int)) := by rw [q7, set_ne nRP]; exact r6
  have m7 : h7[M]? = some (.lst ((List.replicate 256 (0 : Int)).map D.int)) := by rw [q7, set_ne nMP]; exact m6
  have k7 : KL [P] h h7 := by rw [q7]; exact k6.trans (KL.set (by simp))
  have c6 : p_State___init___6 [some (.ref P), some (prD pr), some d, y3, y4] h5 = .next [some (.ref P), some (prD pr), some d, y3, y4] h7 := by
    rw [q7]
    repeat (first | (with_reducible first | exact fm | exact e6 | exact c_run | exact nil_run) | ((with_reducible apply var_run);exact rfl) | (with_reducible first | apply m2_run | apply cons_run | apply lst_run) | ((with_reducible apply memP);decide) | ((with_reducible apply ltP);exact rfl) | with_reducible apply rb_fldM | ((with_reducible apply pdP);exact rfl))
  -- the rest
  have i7 : IncD d h7 inc := i.kl k7 fun x hx r hr z => nd (by rw [hr, ← z]; simp at hx; rw [hx])
  obtain ⟨h8, q8⟩ : ∃ h8 : Hm, h8 = h7.set P (.ins "State" [("program", prD pr), ("place", .int 0), ("registers", .ref R), ("memory", .ref M), ("out", .tup []), ("incoming", .tup (inc.map D.int))]) := ⟨_, rfl⟩
  have u7 := set_get (o' := .ins "State" [("program", prD pr), ("place", .int 0), ("registers", .ref R), ("memory", .ref M), ("out", .tup [])]) e7
  have c7 : p_State___init___7 [some (.ref P), some (prD pr), some d, y3, y4] h7 = .next [some (.ref P), some (prD pr), some d, y3, y4] (h7.set P (.ins "State" [("program", prD pr), ("place", .int 0), ("registers", .ref R), ("memory", .ref M), ("out", .tup [])])) := by repeat (first | (with_reducible first | exact e7 | exact nil_run) | ((with_reducible apply var_run);exact rfl) | with_reducible apply tup_run | ((with_reducible apply memP);decide) | ((with_reducible apply ltP);exact rfl) | with_reducible apply rb_fldM | ((with_reducible apply pdP);exact rfl))
  have c8 : p_State___init___8 [some (.ref P), some (prD pr), some d, y3, y4] (h7.set P (.ins "State" [("program", prD pr), ("place", .int 0), ("registers", .ref R), ("memory", .ref M), ("out", .tup [])])) = .next [some (.ref P), some (prD pr), some d, y3, y4] h8 := by
    rw [show h8 = (h7.set P (.ins "State" [("program", prD pr), ("place", .int 0), ("registers", .ref R), ("memory", .ref M), ("out", .tup [])])).set P (.ins "State" [("program", prD pr), ("place", .int 0), ("registers", .ref R), ("memory", .ref M), ("out", .tup []), ("incoming", .tup (inc.map D.int))]) by rw [List.set_set, q8]]
    have t : fTuple [d] (h7.set P (.ins "State" [("program", prD pr), ("place", .int 0), ("registers", .ref R), ("memory", .ref M), ("out", .tup [])])) = .ok (.tup (inc.map D.int)) (h7.set P (.ins "State" [("program", prD pr), ("place", .int 0), ("registers", .ref R), ("memory", .ref M), ("out", .tup [])])) :=
      inc_tup (i7.kl (S := [P]) (KL.set (by simp)) fun x hx r hr z => nd (by rw [hr, ← z]; simp at hx; rw [hx]))
    repeat (first | (with_reducible first | exact u7 | exact t | exact nil_run) | ((with_reducible apply var_run);exact rfl) | (with_reducible first | apply cons_run | apply call_run) | ((with_reducible apply memP);decide) | ((with_reducible apply ltP);exact rfl) | with_reducible apply rb_fldM | ((with_reducible apply pdP);exact rfl))
  have e8 : h8[P]? = some (.ins "State" [("program", prD pr), ("place", .int 0), ("registers", .ref R), ("memory", .ref M), ("out", .tup []), ("incoming", .tup (inc.map D.int))]) := by rw [q8]; exact set_get e7
  obtain ⟨h9, q9⟩ : ∃ h9 : Hm, h9 = h8.set P (.ins "State" (sfl pr R M (Ms.new inc))) := ⟨_, rfl⟩
  obtain ⟨g0, qg0⟩ : ∃ g0 : Hm, g0 = h8.set P (.ins "State" [("program", prD pr), ("place", .int 0), ("registers", .ref R), ("memory", .ref M), ("out", .tup []), ("incoming", .tup (inc.map D.int)), ("cause", .int 0)]) := ⟨_, rfl⟩
  have eg0 : g0[P]? = some (.ins "State" [("program", prD pr), ("place", .int 0), ("registers", .ref R), ("memory", .ref M), ("out", .tup []), ("incoming", .tup (inc.map D.int)), ("cause", .int 0)]) := by rw [qg0]; exact set_get e8
  have cg0 : p_State___init___9 [some (.ref P), some (prD pr), some d, y3, y4] h8 = .next [some (.ref P), some (prD pr), some d, y3, y4] g0 := by
    rw [qg0]
    repeat (first | (with_reducible first | exact e8 | exact c_run) | ((with_reducible apply var_run);exact rfl) | ((with_reducible apply memP);decide) | ((with_reducible apply ltP);exact rfl) | with_reducible apply rb_fldM | ((with_reducible apply pdP);exact rfl))
  obtain ⟨g1, qg1⟩ : ∃ g1 : Hm, g1 = g0.set P (.ins "State" [("program", prD pr), ("place", .int 0), ("registers", .ref R), ("memory", .ref M), ("out", .tup []), ("incoming", .tup (inc.map D.int)), ("cause", .int 0), ("return_place", .int 0)]) := ⟨_, rfl⟩
  have eg1 : g1[P]? = some (.ins "State" [("program", prD pr), ("place", .int 0), ("registers", .ref R), ("memory", .ref M), ("out", .tup []), ("incoming", .tup (inc.map D.int)), ("cause", .int 0), ("return_place", .int 0)]) := by rw [qg1]; exact set_get eg0
  have cg1 : p_State___init___10 [some (.ref P), some (prD pr), some d, y3, y4] g0 = .next [some (.ref P), some (prD pr), some d, y3, y4] g1 := by
    rw [qg1]
    repeat (first | (with_reducible first | exact eg0 | exact c_run) | ((with_reducible apply var_run);exact rfl) | ((with_reducible apply memP);decide) | ((with_reducible apply ltP);exact rfl) | with_reducible apply rb_fldM | ((with_reducible apply pdP);exact rfl))
  obtain ⟨g2, qg2⟩ : ∃ g2 : Hm, g2 = g1.set P (.ins "State" [("program", prD pr), ("place", .int 0), ("registers", .ref R), ("memory", .ref M), ("out", .tup []), ("incoming", .tup (inc.map D.int)), ("cause", .int 0), ("return_place", .int 0), ("handler", .non)]) := ⟨_, rfl⟩
  have eg2 : g2[P]? = some (.ins "State" [("program", prD pr), ("place", .int 0), ("registers", .ref R), ("memory", .ref M), ("out", .tup []), ("incoming", .tup (inc.map D.int)), ("cause", .int 0), ("return_place", .int 0), ("handler", .non)]) := by rw [qg2]; exact set_get eg1
  have cg2 : p_State___init___11 [some (.ref P), some (prD pr), some d, y3, y4] g1 = .next [some (.ref P), some (prD pr), some d, y3, y4] g2 := by
    rw [qg2]
    repeat (first | (with_reducible first | exact eg1 | exact c_run) | ((with_reducible apply var_run);exact rfl) | ((with_reducible apply memP);decide) | ((with_reducible apply ltP);exact rfl) | with_reducible apply rb_fldM | ((with_reducible apply pdP);exact rfl))
  obtain ⟨g3, qg3⟩ : ∃ g3 : Hm, g3 = g2.set P (.ins "State" [("program", prD pr), ("place", .int 0), ("registers", .ref R), ("memory", .ref M), ("out", .tup []), ("incoming", .tup (inc.map D.int)), ("cause", .int 0), ("return_place", .int 0), ("handler", .non), ("ended", .non)]) := ⟨_, rfl⟩
  have eg3 : g3[P]? = some (.ins "State" [("program", prD pr), ("place", .int 0), ("registers", .ref R), ("memory", .ref M), ("out", .tup []), ("incoming", .tup (inc.map D.int)), ("cause", .int 0), ("return_place", .int 0), ("handler", .non), ("ended", .non)]) := by rw [qg3]; exact set_get eg2
  have cg3 : p_State___init___12 [some (.ref P), some (prD pr), some d, y3, y4] g2 = .next [some (.ref P), some (prD pr), some d, y3, y4] g3 := by
    rw [qg3]
    repeat (first | (with_reducible first | exact eg2 | exact c_run) | ((with_reducible apply var_run);exact rfl) | ((with_reducible apply memP);decide) | ((with_reducible apply ltP);exact rfl) | with_reducible apply rb_fldM | ((with_reducible apply pdP);exact rfl))
  have cg4 : p_State___init___13 [some (.ref P), some (prD pr), some d, y3, y4] g3 = .next [some (.ref P), some (prD pr), some d, y3, y4] h9 := by
    rw [show h9 = g3.set P (.ins "State" (sfl pr R M (Ms.new inc))) by rw [q9, qg3, qg2, qg1, qg0]; simp only [List.set_set]]
    repeat (first | (with_reducible first | exact eg3 | exact c_run) | ((with_reducible apply var_run);exact rfl) | ((with_reducible apply memP);decide) | ((with_reducible apply ltP);exact rfl) | with_reducible apply rb_fldM | ((with_reducible apply pdP);exact rfl))
  refine ⟨R, M, h9, ?_, ⟨by rw [q9]; exact set_get e8, by rw [q9, q8, set_ne nRP, set_ne nRP]; exact r7, by rw [q9, q8, set_ne nMP, set_ne nMP]; exact m7, nRP, nMP, nMR⟩, by rw [q9, q8]; exact (k7.trans (KL.set (by simp))).trans (KL.set (by simp)), R0, M1⟩
  apply call_next f_State___init___eq rfl
  exact seq_next c0 (seq_next c1 (seq_next c2 (seq_next c3 (seq_next c4 (seq_next c5 (seq_next c6 (seq_next c7 (seq_next c8 (seq_next cg0 (seq_next cg1 (seq_next cg2 (seq_next cg3 cg4))))))))))))
end K03
end MM
namespace MM
namespace K03
open PySem L2
section
variable {P R M : Nat} {pr : List Od}
/-- runs to the end -/
theorem run_loop (po : ∀ o ∈ pr, o.ok) (pl : pr.length ≤ 400) {most : Int} (mb : most ≤ 800000) : ∀ (k fuel : Nat) {h : Hm} {m : Ms} {x0 x1 : Option D}, k < fuel → StH h P R M pr m → m.good → (∀ i, i < k → (Ms.iter pr i m).en = .go ∧ (Ms.iter pr i m).ct < most) → (Ms.iter pr k m).en ≠ .go →
    ∃ h', sWhile (mBool (m2 (fIs false) (mFld cs_ended "ended" (mVar 3)) (mC .non))) l_run_0 fuel [x0, x1, some (.int most), some (.ref P)] h = .next [x0, x1, some (.int most), some (.ref P)] h' ∧ StH h' P R M pr (Ms.iter pr k m) ∧ KL [P, R, M] h h' := by
  intro k
  induction k with
  | zero =>
    intro fuel h m x0 x1 hk s g _ e
    obtain ⟨fuel, rfl⟩ : ∃ f, fuel = f + 1 := ⟨fuel - 1, by omega⟩
    refine ⟨h, wh_end ?_, s, KL.refl⟩
    have z : fIs false m.en.d .non h = .ok (.bl false) h := by
      rw [en_is, decide_eq_false (show ¬ m.en = .go from e)]
      rfl
    repeat (first | (with_reducible first | exact s.hP | exact z | exact c_run) | ((with_reducible apply var_run);exact rfl) | (with_reducible first | apply m2_run | apply bool_run) | ((with_reducible apply lkS);exact rfl) | ((with_reducible apply memP);decide) | with_reducible apply fld_run)
  | succ k ih =>
    intro fuel h m x0 x1 hk s g w e
    obtain ⟨fuel, rfl⟩ : ∃ f, fuel = f + 1 := ⟨fuel - 1, by omega⟩
    have w0 := w 0 (Nat.succ_pos k)
    have e0 : m.en = .go := w0.1
    have c0 : m.ct < most := w0.2
    obtain ⟨h1, r1, s1, k1⟩ := step_run s g.ok (by have := g.ou; omega) po
    have g1 := Ms.step_good g pl
    obtain ⟨h2, r2, s2, k2⟩ := ih fuel (x0 := x0) (x1 := x1) (by omega) s1 g1.1 (fun i hi => w (i + 1) (by omega)) e
    refine ⟨h2, wh_next (h1 := h) (h2 := h1) (e1 := [x0, x1, some (.int most), some (.ref P)]) ?_ ?_ r2, s2, k1.trans k2⟩
    · have z : fIs false m.en.d .non h = .ok (.bl true) h := by
        rw [en_is, decide_eq_true e0]
        rfl
      repeat (first | (with_reducible first | exact s.hP | exact z | exact c_run) | ((with_reducible apply var_run);exact rfl) | (with_reducible first | apply m2_run | apply bool_run) | ((with_reducible apply lkS);exact rfl) | ((with_reducible apply memP);decide) | with_reducible apply fld_run)
    · have z : fGe (.int m.ct) (.int most) h = .ok (.bl false) h := ge_f (by omega)
      unfold l_run_0
      repeat (first | (with_reducible first | exact s.hP | exact z | exact r1 | exact nil_run | exact nils_run) | ((with_reducible apply var_run);exact rfl) | with_reducible apply IfR.f | ((with_reducible apply ThR.nx);(try simp only [List.set_cons_succ, List.set_cons_zero, setAll])) | (with_reducible first | apply m2_run | apply cons_run | apply bool_run | apply rb_callF) | ((with_reducible refine lenP ?_);exact rfl) | ((with_reducible apply lkS);exact rfl) | ((with_reducible apply memP);decide) | (with_reducible first | apply fld_run | apply rb_seq | apply rb_if | apply drop_run))
/-- runs too long -/
theorem run_long (po : ∀ o ∈ pr, o.ok) (pl : pr.length ≤ 400) {most : Int} (mb : most ≤ 800000) : ∀ (k fuel : Nat) {h : Hm} {m : Ms} {x0 x1 : Option D}, k < fuel → StH h P R M pr m → m.good → (∀ i, i ≤ k → (Ms.iter pr i m).en = .go) → (∀ i, i < k → (Ms.iter pr i m).ct < most) → most ≤ (Ms.iter pr k m).ct →
    ∃ h', sWhile (mBool (m2 (fIs false) (mFld cs_ended "ended" (mVar 3)) (mC .non))) l_run_0 fuel [x0, x1, some (.int most), some (.ref P)] h = .exn ⟨"TooLarge", []⟩ [x0, x1, some (.int most), some (.ref P)] h' ∧ KL [P, R, M] h h' := by
  intro k
  induction k with
  | zero =>
    intro fuel h m x0 x1 hk s g w _ e
    obtain ⟨fuel, rfl⟩ : ∃ f, fuel = f + 1 := ⟨fuel - 1, by omega⟩
    have e0 : m.en = .go := w 0 (Nat.le_refl 0)
    have c0 : most ≤ m.ct := e
    refine ⟨h, wh_exn (h1 := h) ?_ ?_, KL.refl⟩
    · have z : fIs false m.en.d .non h = .ok (.bl true) h := by
        rw [en_is, decide_eq_true e0]
        rfl
      repeat (first | (with_reducible first | exact s.hP | exact z | exact c_run) | ((with_reducible apply var_run);exact rfl) | (with_reducible first | apply m2_run | apply bool_run) | ((with_reducible apply lkS);exact rfl) | ((with_reducible apply memP);decide) | with_reducible apply fld_run)
    · have z : fGe (.int m.ct) (.int most) h = .ok (.bl true) h := ge_t (by omega)
      unfold l_run_0
      repeat (first | (with_reducible first | exact s.hP | exact z | exact rb_raise) | ((with_reducible apply var_run);exact rfl) | (with_reducible first | apply IfR.t | exact ThR.ex | apply m2_run | apply bool_run) | ((with_reducible apply lkS);exact rfl) | ((with_reducible apply memP);decide) | (with_reducible first | apply fld_run | apply rb_seq | apply rb_if))
  | succ k ih =>
    intro fuel h m x0 x1 hk s g w w' e
    obtain ⟨fuel, rfl⟩ : ∃ f, fuel = f + 1 := ⟨fuel - 1, by omega⟩
    have e0 : m.en = .go := w 0 (by omega)
    have c0 : m.ct < most := w' 0 (by omega)
    obtain ⟨h1, r1, s1, k1⟩ := step_run s g.ok (by have := g.ou; omega) po
    have g1 := Ms.step_good g pl
    obtain ⟨h2, r2, k2⟩ := ih fuel (x0 := x0) (x1 := x1) (by omega) s1 g1.1 (fun i hi => w (i + 1) (by omega)) (fun i hi => w' (i + 1) (by omega)) e
    refine ⟨h2, wh_next (h1 := h) (h2 := h1) (e1 := [x0, x1, some (.int most), some (.ref P)]) ?_ ?_ r2, k1.trans k2⟩
    · have z : fIs false m.en.d .non h = .ok (.bl true) h := by
        rw [en_is, decide_eq_true e0]
        rfl
      repeat (first | (with_reducible first | exact s.hP | exact z | exact c_run) | ((with_reducible apply var_run);exact rfl) | (with_reducible first | apply m2_run | apply bool_run) | ((with_reducible apply lkS);exact rfl) | ((with_reducible apply memP);decide) | with_reducible apply fld_run)
    · have z : fGe (.int m.ct) (.int most) h = .ok (.bl false) h := ge_f (by omega)
      unfold l_run_0
      repeat (first | (with_reducible first | exact s.hP | exact z | exact r1 | exact nil_run | exact nils_run) | ((with_reducible apply var_run);exact rfl) | with_reducible apply IfR.f | ((with_reducible apply ThR.nx);(try simp only [List.set_cons_succ, List.set_cons_zero, setAll])) | (with_reducible first | apply m2_run | apply cons_run | apply bool_run | apply rb_callF) | ((with_reducible refine lenP ?_);exact rfl) | ((with_reducible apply lkS);exact rfl) | ((with_reducible apply memP);decide) | (with_reducible first | apply fld_run | apply rb_seq | apply rb_if | apply drop_run))
end
section
variable {pr : List Od}
/-- State(program, incoming) -/
theorem make_state {h : Hm} {d : D} {inc : List Int} (po : ∀ o ∈ pr, o.ok) (l0 : pr ≠ []) (l1 : pr.length ≤ 400) (i : IncD d h inc) (iw : ∀ w ∈ inc, Wd w) :
    ∃ R M h', (∀ {env : Ev} {ma mb : Ev → Hm → MM.R D}, ma env h = .ok (prD pr) h → mb env h = .ok d h → mMake "State" 3 f_State___init__ (mCons ma (mCons mb mNil)) env h = .ok (.ref h.length) h') ∧ StH h' h.length R M pr (Ms.new inc) ∧ KL [] h h' ∧ h.length ≤ R ∧ h.length ≤ M := by
  have nd : d ≠ .ref h.length := by
    rcases i with rfl | ⟨r, rfl, hr⟩
    · intro z; cases z
    · intro z
      cases z
      have := get_lt hr
      omega
  obtain ⟨R, M, h', r, s, k, a, b⟩ := init_run (h := h ++ [.ins "State" []]) (P := h.length) get_new po l0 l1 (i.kl (S := []) KL.app (fun x hx => by cases hx)) nd iw
  refine ⟨R, M, h', fun ea eb => ?_, s, ⟨Nat.le_trans (by simp) k.1, fun j hj _ => ?_⟩, by simp at a; omega, by simp at b; omega⟩
  · exact make_run (cons_run ea (cons_run eb nil_run)) rfl r
  · rw [k.2 j (by simp; omega) (by simp; omega), List.getElem?_append_left hj]
theorem run_ok {h : Hm} {d : D} {inc : List Int} {most : Int} (mb : most ≤ 800000) (po : ∀ o ∈ pr, o.ok) (l0 : pr ≠ []) (l1 : pr.length ≤ 400) (i : IncD d h inc) (iw : ∀ w ∈ inc, Wd w) (k : Nat) (hk : k < 1000000)
    (w : ∀ i, i < k → (Ms.iter pr i (Ms.new inc)).en = .go ∧ (Ms.iter pr i (Ms.new inc)).ct < most) (e : (Ms.iter pr k (Ms.new inc)).en ≠ .go) :
    ∃ R M h', f_run [prD pr, d, .int most] h = .ok (.ref h.length) h' ∧ StH h' h.length R M pr (Ms.iter pr k (Ms.new inc)) ∧ KL [] h h' := by
  obtain ⟨R, M, h1, r1, s1, k1, a1, a2⟩ := make_state po l0 l1 i iw
  obtain ⟨h2, r2, s2, k2⟩ := run_loop po l1 mb k 1000000 (x0 := some (prD pr)) (x1 := some d) hk s1 (Ms.new_good iw) w e
  refine ⟨R, M, h2, ?_, s2, ⟨Nat.le_trans k1.1 k2.1, fun j hj n => (k2.2 j (Nat.lt_of_lt_of_le hj k1.1) (by simp; omega)).trans (k1.2 j hj n)⟩⟩
  apply call_ret f_run_eq rfl
  exact seq_next (asg_run (r1 rfl rfl)) (seq_next r2 (ret_run rfl))
theorem run_exn {h : Hm} {d : D} {inc : List Int} {most : Int} (mb : most ≤ 800000) (po : ∀ o ∈ pr, o.ok) (l0 : pr ≠ []) (l1 : pr.length ≤ 400) (i : IncD d h inc) (iw : ∀ w ∈ inc, Wd w) (k : Nat) (hk : k < 1000000)
    (w : ∀ i, i ≤ k → (Ms.iter pr i (Ms.new inc)).en = .go) (w' : ∀ i, i < k → (Ms.iter pr i (Ms.new inc)).ct < most) (e : most ≤ (Ms.iter pr k (Ms.new inc)).ct) :
    ∃ h', f_run [prD pr, d, .int most] h = .exn ⟨"TooLarge", []⟩ h' ∧ KL [] h h' := by
  obtain ⟨R, M, h1, r1, s1, k1, a1, a2⟩ := make_state po l0 l1 i iw
  obtain ⟨h2, r2, k2⟩ := run_long po l1 mb k 1000000 (x0 := some (prD pr)) (x1 := some d) hk s1 (Ms.new_good iw) w w' e
  refine ⟨h2, ?_, ⟨Nat.le_trans k1.1 k2.1, fun j hj n => (k2.2 j (Nat.lt_of_lt_of_le hj k1.1) (by simp; omega)).trans (k1.2 j hj n)⟩⟩
  apply call_exn f_run_eq rfl
  exact seq_next (asg_run (r1 rfl rfl)) (seq_exn r2)
end
end K03
end MM
namespace MM
namespace K03
open PySem L2
def rowD (m : Ms) : D := .tup [.int m.pl, m.seenD]
def rowsD (pr : List Od) (m : Ms) (a k : Nat) : List D := (List.range' a k).map fun i => rowD (Ms.iter pr i m)
section
variable {P R M F : Nat} {pr : List Od}
theorem trace_loop (po : ∀ o ∈ pr, o.ok) (pl : pr.length ≤ 400) {most : Nat} (mb : most ≤ 100000) : ∀ (k fuel : Nat) {h : Hm} {m : Ms} {x0 x1 : Option D} {acc : List D}, k < fuel → StH h P R M pr m → m.good → m.ct ≤ acc.length → h[F]? = some (.lst acc) → F ∉ [P, R, M] → acc.length + k ≤ most → (∀ i, i < k → (Ms.iter pr i m).en = .go) → (acc.length + k = most ∨ (Ms.iter pr k m).en ≠ .go) →
    ∃ h', sWhile (mAnd (mBool (m2 (fIs false) (mFld cs_ended "ended" (mVar 3)) (mC .non))) (mBool (m2 fLt (mCall fLen (mCons (mVar 4) mNil)) (mVar 2)))) l_trace_0 fuel [x0, x1, some (.int (most : Int)), some (.ref P), some (.ref F)] h = .next [x0, x1, some (.int (most : Int)), some (.ref P), some (.ref F)] h' ∧ h'[F]? = some (.lst (acc ++ rowsD pr m 0 k)) ∧ KL [P, R, M, F] h h' := by
  intro k
  induction k with
  | zero =>
    intro fuel h m x0 x1 acc hk s g gc hF nF hl w e
    obtain ⟨fuel, rfl⟩ : ∃ f, fuel = f + 1 := ⟨fuel - 1, by omega⟩
    refine ⟨h, wh_end ?_, by simp [rowsD, hF], KL.refl⟩
    obtain ⟨mo, hmo⟩ : ∃ n : Int, n = (most : Int) := ⟨_, rfl⟩
    rw [← hmo]
    by_cases e0 : m.en = .go
    · have z : fIs false m.en.d .non h = .ok (.bl true) h := by
        rw [en_is, decide_eq_true e0]
        rfl
      have el : acc.length = most := by
        rcases e with e | e
        · omega
        · exact (e e0).elim
      have z2 : fLen [.ref F] h = .ok (.int mo) h := by rw [fLen_lst hF, hmo, el]
      repeat (first | (with_reducible first | exact s.hP | exact z | exact z2 | exact c_run | exact nil_run) | ((with_reducible apply var_run);exact rfl) | with_reducible apply IfR.t | ((with_reducible refine lt_f ?_);omega) | (with_reducible first | apply m2_run | apply cons_run | apply bool_run | apply rb_and | apply call_run) | ((with_reducible apply lkS);exact rfl) | ((with_reducible apply memP);decide) | with_reducible apply fld_run)
    · have z : fIs false m.en.d .non h = .ok (.bl false) h := by
        rw [en_is, decide_eq_false e0]
        rfl
      repeat (first | (with_reducible first | exact s.hP | exact z | exact c_run | exact okr) | ((with_reducible apply var_run);exact rfl) | (with_reducible first | apply IfR.f | apply m2_run | apply bool_run | apply rb_and) | ((with_reducible apply lkS);exact rfl) | ((with_reducible apply memP);decide) | with_reducible apply fld_run)
  | succ k ih =>
    intro fuel h m x0 x1 acc hk s g gc hF nF hl w e
    obtain ⟨fuel, rfl⟩ : ∃ f, fuel = f + 1 := ⟨fuel - 1, by omega⟩
    have e0 : m.en = .go := w 0 (by omega)
    have ns : F ≠ P ∧ F ≠ R ∧ F ≠ M := by simpa using nF
    have s0 : StH (h.set F (.lst (acc ++ [rowD m]))) P R M pr m := s.kl (S := [F]) (KL.set (by simp)) (by simp; exact Ne.symm ns.1) (by simp; exact Ne.symm ns.2.1) (by simp; exact Ne.symm ns.2.2)
    have hF1 := set_get (o' := .lst (acc ++ [rowD m])) hF
    obtain ⟨h1, r1, s1, k1⟩ := step_run s0 g.ok (by have := g.ou; omega) po
    have g1 := Ms.step_good g pl
    have hF2 := k1.get hF1 nF
    have e' : (acc ++ [rowD m]).length + k = most ∨ (Ms.iter pr k (m.step pr)).en ≠ .go := by
      rcases e with e | e
      · left
        simp
        omega
      · exact .inr e
    obtain ⟨h2, r2, f2, k2⟩ := ih fuel (x0 := x0) (x1 := x1) (by omega) s1 g1.1 (by simp; omega) hF2 nF (by simp; omega) (fun i hi => w (i + 1) (by omega)) e'
    have k0 : KL [P, R, M, F] h (h.set F (.lst (acc ++ [rowD m]))) := KL.set (by simp)
    refine ⟨h2, wh_next (h1 := h) (h2 := h1) (e1 := [x0, x1, some (.int (most : Int)), some (.ref P), some (.ref F)]) ?_ ?_ r2, ?_, (k0.trans (k1.sub (by simp))).trans k2⟩
    · obtain ⟨mo, hmo⟩ : ∃ n : Int, n = (most : Int) := ⟨_, rfl⟩
      obtain ⟨al, hal⟩ : ∃ n : Int, n = (acc.length : Int) := ⟨_, rfl⟩
      have lt : al < mo := by omega
      rw [← hmo]
      have z : fIs false m.en.d .non h = .ok (.bl true) h := by
        rw [en_is, decide_eq_true e0]
        rfl
      have z2 : fLen [.ref F] h = .ok (.int al) h := by rw [fLen_lst hF, hal]
      repeat (first | (with_reducible first | exact s.hP | exact z | exact z2 | exact c_run | exact nil_run) | ((with_reducible apply var_run);exact rfl) | with_reducible apply IfR.t | ((with_reducible refine lt_t ?_);omega) | (with_reducible first | apply m2_run | apply cons_run | apply bool_run | apply rb_and | apply call_run) | ((with_reducible apply lkS);exact rfl) | ((with_reducible apply memP);decide) | with_reducible apply fld_run)
    · have z := seen_run s
      have il := isL_ok hF
      have ap := fAppend_ok (y := rowD m) hF (by omega)
      have c0 : t_trace_0 [x0, x1, some (.int (most : Int)), some (.ref P), some (.ref F)] h = .next [x0, x1, some (.int (most : Int)), some (.ref P), some (.ref F)] (h.set F (.lst (acc ++ [rowD m]))) := by
        have a1 : mTup (mCons (mFld cs_place "place" (mVar 3)) (mCons (mMethF "State" "seen" 1 f_State_seen (mVar 3) mNil) mNil)) [x0, x1, some (.int (most : Int)), some (.ref P), some (.ref F)] h = .ok (rowD m) h := by
          unfold rowD
          repeat (first | (with_reducible first | exact s.hP | exact z | exact nil_run) | ((with_reducible apply var_run);exact rfl) | (with_reducible first | apply cons_run | apply tup_run) | ((with_reducible refine lenP1 ?_);exact rfl) | with_reducible apply rb_meth | ((with_reducible apply lkN);exact rfl) | ((with_reducible apply lkS);exact rfl) | ((with_reducible apply memP);decide) | with_reducible apply fld_run)
        exact drop_run (methL_run (var_run rfl) il (cons_run a1 nil_run) ap)
      have c1 : t_trace_1 [x0, x1, some (.int (most : Int)), some (.ref P), some (.ref F)] (h.set F (.lst (acc ++ [rowD m]))) = .next [x0, x1, some (.int (most : Int)), some (.ref P), some (.ref F)] h1 := by repeat (first | (with_reducible first | exact r1 | exact nil_run) | ((with_reducible apply var_run);exact rfl) | (with_reducible first | apply cons_run | apply rb_callF) | ((with_reducible refine lenP ?_);exact rfl) | with_reducible apply drop_run)
      unfold l_trace_0
      exact seq_next c0 c1
    · rw [f2, List.append_assoc]
      congr 3
      unfold rowsD
      rw [List.range'_succ, List.map_cons, List.singleton_append]
      congr 1
      rw [List.range'_eq_map_range, List.range'_eq_map_range, List.map_map, List.map_map]
      apply List.map_congr_left
      intro i _
      show rowD (Ms.iter pr (0 + i) (m.step pr)) = rowD (Ms.iter pr (0 + 1 + i) m)
      rw [show 0 + 1 + i = (0 + i) + 1 by omega]
      rfl
end
theorem trace_ok {pr : List Od} {h : Hm} {d : D} {inc : List Int} {most : Nat} (mb : most ≤ 100000) (po : ∀ o ∈ pr, o.ok) (l0 : pr ≠ []) (l1 : pr.length ≤ 400) (i : IncD d h inc) (iw : ∀ w ∈ inc, Wd w) (k : Nat) (hk : k ≤ most)
    (w : ∀ i, i < k → (Ms.iter pr i (Ms.new inc)).en = .go) (e : k = most ∨ (Ms.iter pr k (Ms.new inc)).en ≠ .go) :
    ∃ h', f_trace [prD pr, d, .int (most : Int)] h = .ok (.tup (rowsD pr (Ms.new inc) 0 k)) h' ∧ KL [] h h' := by
  obtain ⟨R, M, h1, r1, s1, k1, a1, a2⟩ := make_state po l0 l1 i iw
  have s2 := s1.app (g := [.lst []])
  have hP1 := get_lt s1.hP
  have hR1 := get_lt s1.hR
  have hM1 := get_lt s1.hM
  obtain ⟨h2, r2, f2, k2⟩ := trace_loop (F := h1.length) po l1 mb k 1000000 (x0 := some (prD pr)) (x1 := some d) (acc := []) (by omega) s2 (Ms.new_good iw) (by simp [Ms.new]) get_new (by simp; omega) (by simpa using hk) w (by simpa using e)
  refine ⟨h2, ?_, ⟨by have := k1.1; have := k2.1; simp at this; omega, fun j hj n => ?_⟩⟩
  · apply call_ret f_trace_eq rfl
    refine seq_next (e1 := [some (prD pr), some d, some (.int (most : Int)), some (.ref h.length), some (.ref h1.length)]) (h1 := h1 ++ [.lst []]) ?_ (seq_next r2 ?_)
    · exact rb_par (cons_run (r1 rfl rfl) (cons_run (lst_run nil_run) nil_run))
    · exact ret_run (call_run (cons_run (var_run rfl) nil_run) (by rw [fTuple_lst f2]; rfl))
  · rw [k2.2 j (by have := k1.1; simp; omega) (by have := k1.1; simp; omega), List.getElem?_append_left (by have := k1.1; omega)]
    exact k1.2 j hj n
end K03
end MM
namespace MM
namespace K03
open PySem L2
theorem number_run (a : Int) (h : Hm) : f__law_number [.int a] h = .ok (.int (sgn a)) h := by
  rw [← sgn_lt]
  apply call_ret f__law_number_eq rfl
  unfold b__law_number
  simp only [startE, List.map_cons, List.map_nil, List.length_cons, List.length_nil, List.cons_append, List.nil_append, Nat.zero_add, Nat.reduceAdd, Nat.reduceSub, List.replicate]
  by_cases c : a < 32768
  · rw [if_pos c]
    repeat (first | with_reducible exact c_run | ((with_reducible apply var_run);exact rfl) | with_reducible apply IfR.t | ((with_reducible refine lt_t ?_);omega) | (with_reducible first | apply m2_run | apply bool_run | apply rb_ifE | apply ret_run))
  · rw [if_neg c]
    repeat (first | with_reducible exact c_run | ((with_reducible apply var_run);exact rfl) | (with_reducible first | apply IfR.f | exact fSub_i) | ((with_reducible refine lt_f ?_);omega) | (with_reducible first | apply m2_run | apply bool_run | apply rb_ifE | apply ret_run))
theorem lr_add {a b : Int} (ha : Wd a) (hb : Wd b) (h : Hm) : ∃ h', f__law_reckon [.str "add", .int a, .int b] h = .ok (.int ((a + b) % 65536)) h' ∧ Ext h h' := by
  have s3 : ∀ h : Hm, fSl (.str "add") none (some 3) h = .ok (.str "add") h := fun _ => rfl
  (apply Exists.intro; apply And.intro)
  · apply call_ret f__law_reckon_eq rfl
    unfold b__law_reckon
    simp only [startE, List.map_cons, List.map_nil, List.length_cons, List.length_nil, List.cons_append, List.nil_append, Nat.zero_add, Nat.reduceAdd, Nat.reduceSub, List.replicate]
    repeat (first | (with_reducible first | exact s3 _ | exact c_run | exact nil_run | exact no_run) | ((with_reducible apply var_run);exact rfl) | (with_reducible first | apply IfR.t | exact ThR.rt | exact fAdd_i) | ((with_reducible refine eqs_t ?_);decide) | ((with_reducible apply inN (k := true));exact rfl;exact rfl;decide) | ((with_reducible refine mod_p ?_);omega) | (with_reducible first | apply m2_run | apply cons_run | apply lst_run | apply bool_run | apply rb_ifE | apply some_run | apply sl_run | apply rb_seq | apply rb_if | apply ret_run))
  · (repeat (first | with_reducible exact Ext.refl | with_reducible apply Ext.app))
theorem lr_addi {a b : Int} (ha : Wd a) (hb : Wd b) (h : Hm) : ∃ h', f__law_reckon [.str "addi", .int a, .int b] h = .ok (.int ((a + b) % 65536)) h' ∧ Ext h h' := by
  have s3 : ∀ h : Hm, fSl (.str "addi") none (some 3) h = .ok (.str "add") h := fun _ => rfl
  (apply Exists.intro; apply And.intro)
  · apply call_ret f__law_reckon_eq rfl
    unfold b__law_reckon
    simp only [startE, List.map_cons, List.map_nil, List.length_cons, List.length_nil, List.cons_append, List.nil_append, Nat.zero_add, Nat.reduceAdd, Nat.reduceSub, List.replicate]
    repeat (first | (with_reducible first | exact s3 _ | exact c_run | exact nil_run | exact no_run) | ((with_reducible apply var_run);exact rfl) | (with_reducible first | apply IfR.t | exact ThR.rt | exact fAdd_i) | ((with_reducible refine eqs_t ?_);decide) | ((with_reducible apply inN (k := true));exact rfl;exact rfl;decide) | ((with_reducible refine mod_p ?_);omega) | (with_reducible first | apply m2_run | apply cons_run | apply lst_run | apply bool_run | apply rb_ifE | apply some_run | apply sl_run | apply rb_seq | apply rb_if | apply ret_run))
  · (repeat (first | with_reducible exact Ext.refl | with_reducible apply Ext.app))
theorem lr_sub {a b : Int} (ha : Wd a) (hb : Wd b) (h : Hm) : ∃ h', f__law_reckon [.str "sub", .int a, .int b] h = .ok (.int ((a - b) % 65536)) h' ∧ Ext h h' := by
  have s3 : ∀ h : Hm, fSl (.str "sub") none (some 3) h = .ok (.str "sub") h := fun _ => rfl
  (apply Exists.intro; apply And.intro)
  · apply call_ret f__law_reckon_eq rfl
    unfold b__law_reckon
    simp only [startE, List.map_cons, List.map_nil, List.length_cons, List.length_nil, List.cons_append, List.nil_append, Nat.zero_add, Nat.reduceAdd, Nat.reduceSub, List.replicate]
    repeat (first | (with_reducible first | exact s3 _ | exact c_run | exact nil_run | exact no_run) | ((with_reducible apply var_run);exact rfl) | (with_reducible first | apply IfR.t | apply IfR.f | exact ThR.rt | exact fSub_i) | ((with_reducible refine eqs_t ?_);decide) | ((with_reducible refine eqs_f ?_);decide) | ((with_reducible apply inN (k := true));exact rfl;exact rfl;decide) | ((with_reducible refine mod_p ?_);omega) | (with_reducible first | apply m2_run | apply cons_run | apply lst_run | apply bool_run | apply rb_ifE | apply some_run | apply sl_run | apply rb_seq | apply rb_if | apply ret_run))
  · (repeat (first | with_reducible exact Ext.refl | with_reducible apply Ext.app))
theorem lr_mul {a b : Int} (ha : Wd a) (hb : Wd b) (h : Hm) : ∃ h', f__law_reckon [.str "mul", .int a, .int b] h = .ok (.int (a * b % 65536)) h' ∧ Ext h h' := by
  have s3 : ∀ h : Hm, fSl (.str "mul") none (some 3) h = .ok (.str "mul") h := fun _ => rfl
  have cm : ∀ h : Hm, fMul (.int a) (.int b) h = .ok (.int (a * b)) h := fun _ => mul_r ⟨by have := hb.1; omega, by have := hb.2; omega⟩
  (apply Exists.intro; apply And.intro)
  · apply call_ret f__law_reckon_eq rfl
    unfold b__law_reckon
    simp only [startE, List.map_cons, List.map_nil, List.length_cons, List.length_nil, List.cons_append, List.nil_append, Nat.zero_add, Nat.reduceAdd, Nat.reduceSub, List.replicate]
    repeat (first | (with_reducible first | exact s3 _ | exact cm _ | exact c_run | exact nil_run | exact no_run) | ((with_reducible apply var_run);exact rfl) | (with_reducible first | apply IfR.t | apply IfR.f | exact ThR.rt) | ((with_reducible refine eqs_f ?_);decide) | ((with_reducible apply inN (k := true));exact rfl;exact rfl;decide) | ((with_reducible refine mod_p ?_);omega) | (with_reducible first | apply m2_run | apply cons_run | apply lst_run | apply bool_run | apply rb_ifE | apply some_run | apply sl_run | apply rb_seq | apply rb_if | apply ret_run))
  · (repeat (first | with_reducible exact Ext.refl | with_reducible apply Ext.app))
theorem lr_slt {a b : Int} (ha : Wd a) (hb : Wd b) (h : Hm) : ∃ h', f__law_reckon [.str "slt", .int a, .int b] h = .ok (.int (if sgn a < sgn b then 1 else 0)) h' ∧ Ext h h' := by
  have n1 : ∀ h : Hm, f__law_number [.int a] h = .ok (.int (sgn a)) h := fun h => number_run a h
  have n2 : ∀ h : Hm, f__law_number [.int b] h = .ok (.int (sgn b)) h := fun h => number_run b h
  have lt : ∀ h : Hm, fLt (.int (sgn a)) (.int (sgn b)) h = .ok (.bl (decide (sgn a < sgn b))) h := fun _ => rfl
  have bi : ∀ h : Hm, fInt [.bl (decide (sgn a < sgn b))] h = .ok (.int (if sgn a < sgn b then 1 else 0)) h := fun h => by
    rw [fInt_b]
    by_cases c : sgn a < sgn b <;> simp [c]
  (apply Exists.intro; apply And.intro)
  · apply call_ret f__law_reckon_eq rfl
    unfold b__law_reckon
    simp only [startE, List.map_cons, List.map_nil, List.length_cons, List.length_nil, List.cons_append, List.nil_append, Nat.zero_add, Nat.reduceAdd, Nat.reduceSub, List.replicate]
    repeat (first | (with_reducible first | exact n1 _ | exact n2 _ | exact lt _ | exact bi _ | exact c_run | exact nil_run | exact nils_run) | ((with_reducible apply var_run);exact rfl) | (with_reducible first | apply IfR.t | apply IfR.f | exact ThR.rt) | ((with_reducible apply ThR.nx);(try simp only [List.set_cons_succ, List.set_cons_zero, setAll])) | ((with_reducible refine nes_t ?_);decide) | ((with_reducible apply inN (k := true));exact rfl;exact rfl;decide) | ((with_reducible apply inN (k := false));exact rfl;exact rfl;decide) | (with_reducible first | apply m2_run | apply cons_run | apply lst_run | apply bool_run | apply rb_ifE | apply call_run | apply rb_callF) | ((with_reducible refine lenP ?_);exact rfl) | (with_reducible first | apply rb_seq | apply rb_if | apply ret_run))
  · (repeat (first | with_reducible exact Ext.refl | with_reducible apply Ext.app))
theorem lr_slti {a b : Int} (ha : Wd a) (hb : Wd b) (h : Hm) : ∃ h', f__law_reckon [.str "slti", .int a, .int b] h = .ok (.int (if sgn a < sgn b then 1 else 0)) h' ∧ Ext h h' := by
  have n1 : ∀ h : Hm, f__law_number [.int a] h = .ok (.int (sgn a)) h := fun h => number_run a h
  have n2 : ∀ h : Hm, f__law_number [.int b] h = .ok (.int (sgn b)) h := fun h => number_run b h
  have lt : ∀ h : Hm, fLt (.int (sgn a)) (.int (sgn b)) h = .ok (.bl (decide (sgn a < sgn b))) h := fun _ => rfl
  have bi : ∀ h : Hm, fInt [.bl (decide (sgn a < sgn b))] h = .ok (.int (if sgn a < sgn b then 1 else 0)) h := fun h => by
    rw [fInt_b]
    by_cases c : sgn a < sgn b <;> simp [c]
  (apply Exists.intro; apply And.intro)
  · apply call_ret f__law_reckon_eq rfl
    unfold b__law_reckon
    simp only [startE, List.map_cons, List.map_nil, List.length_cons, List.length_nil, List.cons_append, List.nil_append, Nat.zero_add, Nat.reduceAdd, Nat.reduceSub, List.replicate]
    repeat (first | (with_reducible first | exact n1 _ | exact n2 _ | exact lt _ | exact bi _ | exact c_run | exact nil_run | exact nils_run) | ((with_reducible apply var_run);exact rfl) | (with_reducible first | apply IfR.t | apply IfR.f | exact ThR.rt) | ((with_reducible apply ThR.nx);(try simp only [List.set_cons_succ, List.set_cons_zero, setAll])) | ((with_reducible refine nes_t ?_);decide) | ((with_reducible apply inN (k := true));exact rfl;exact rfl;decide) | ((with_reducible apply inN (k := false));exact rfl;exact rfl;decide) | (with_reducible first | apply m2_run | apply cons_run | apply lst_run | apply bool_run | apply rb_ifE | apply call_run | apply rb_callF) | ((with_reducible refine lenP ?_);exact rfl) | (with_reducible first | apply rb_seq | apply rb_if | apply ret_run))
  · (repeat (first | with_reducible exact Ext.refl | with_reducible apply Ext.app))
theorem lr_sltu {a b : Int} (ha : Wd a) (hb : Wd b) (h : Hm) : ∃ h', f__law_reckon [.str "sltu", .int a, .int b] h = .ok (.int (if a < b then 1 else 0)) h' ∧ Ext h h' := by
  have lt : ∀ h : Hm, fLt (.int a) (.int b) h = .ok (.bl (decide (a < b))) h := fun _ => rfl
  have bi : ∀ h : Hm, fInt [.bl (decide (a < b))] h = .ok (.int (if a < b then 1 else 0)) h := fun h => by
    rw [fInt_b]
    by_cases c : a < b <;> simp [c]
  (apply Exists.intro; apply And.intro)
  · apply call_ret f__law_reckon_eq rfl
    unfold b__law_reckon
    simp only [startE, List.map_cons, List.map_nil, List.length_cons, List.length_nil, List.cons_append, List.nil_append, Nat.zero_add, Nat.reduceAdd, Nat.reduceSub, List.replicate]
    repeat (first | (with_reducible first | exact lt _ | exact bi _ | exact c_run | exact nil_run | exact nils_run) | ((with_reducible apply var_run);exact rfl) | (with_reducible first | apply IfR.t | apply IfR.f | exact ThR.rt) | ((with_reducible apply ThR.nx);(try simp only [List.set_cons_succ, List.set_cons_zero, setAll])) | ((with_reducible refine nes_f ?_);decide) | ((with_reducible apply inN (k := true));exact rfl;exact rfl;decide) | ((with_reducible apply inN (k := false));exact rfl;exact rfl;decide) | (with_reducible first | apply m2_run | apply cons_run | apply lst_run | apply bool_run | apply rb_ifE | apply call_run | apply rb_seq | apply rb_if | apply ret_run))
  · (repeat (first | with_reducible exact Ext.refl | with_reducible apply Ext.app))
theorem lr_loop {nm xa xb xf xw xy xz : Option D} {f : Int → Int} {Q : Int → Prop} {h : Hm} (keep : ∀ x, Q x → Q (f x)) (turn : ∀ x k, Q x → l__law_reckon_0 [nm, xa, xb, xf, xw, some (.int x), xy, k, xz] h = .next [nm, xa, xb, xf, xw, some (.int (f x)), xy, k, xz] h) : ∀ (ds : List D) (x : Int) (k : Option D), Q x → ∃ k', forL [] (gN 7) l__law_reckon_0 ds [nm, xa, xb, xf, xw, some (.int x), xy, k, xz] h = .next [nm, xa, xb, xf, xw, some (.int (itI f ds.length x)), xy, k', xz] h
  | [], x, k, _ => ⟨k, forL_nil gdOk_nil⟩
  | d :: ds, x, k, q => by
    obtain ⟨k', ih⟩ := lr_loop keep turn ds (f x) (some d) (keep x q)
    exact ⟨k', forL_next (e1 := [nm, xa, xb, xf, xw, some (.int x), xy, some d, xz]) (h1 := h) gdOk_nil rfl (turn x (some d) q) ih⟩
theorem lr_for {nm xf xw xy xz : Option D} {a b : Int} {f : Int → Int} {Q : Int → Prop} {h : Hm} (keep : ∀ x, Q x → Q (f x)) (turn : ∀ x k, Q x → l__law_reckon_0 [nm, some (.int a), some (.int b), xf, xw, some (.int x), xy, k, xz] h = .next [nm, some (.int a), some (.int b), xf, xw, some (.int (f x)), xy, k, xz] h) (q : Q a) : ∃ k', t__law_reckon_3 [nm, some (.int a), some (.int b), xf, xw, some (.int a), xy, none, xz] h = .next [nm, some (.int a), some (.int b), xf, xw, some (.int (itI f (b % 16).toNat a)), xy, k', xz] h := by
  obtain ⟨m, hm, hlt⟩ := many_nat b
  obtain ⟨k', L⟩ := lr_loop keep turn ((List.range m).map (fun k : Nat => D.int (0 + (k : Int)))) a none q
  rw [List.length_map, List.length_range] at L
  refine ⟨k', ?_⟩
  rw [hm]
  refine for_run (rg1_run (n := m) ?_ (by omega)) L
  have md : fMod (.int b) (.int 16) h = .ok (.int (m : Int)) h := by rw [mod_p (by decide), hm]
  repeat (first | (with_reducible first | exact md | exact c_run | exact nil_run) | ((with_reducible apply var_run);exact rfl) | (with_reducible first | apply m2_run | apply cons_run))
theorem lr_shl {a b : Int} (ha : Wd a) (hb : Wd b) (h : Hm) : ∃ h', f__law_reckon [.str "shl", .int a, .int b] h = .ok (.int (upN (b % 16).toNat a)) h' ∧ Ext h h' := by
  have s3 : ∀ h : Hm, fSl (.str "shl") none (some 3) h = .ok (.str "shl") h := fun _ => rfl
  have s2 : ∀ h : Hm, fSl (.str "shl") none (some 2) h = .ok (.str "sh") h := fun _ => rfl
  have F : ∀ h : Hm, ∃ k', t__law_reckon_3 [some (.str "shl"), some (.int a), some (.int b), some (.int 0), some (.int 1), some (.int a), some (.int b), none, none] h = .next [some (.str "shl"), some (.int a), some (.int b), some (.int 0), some (.int 1), some (.int (upN (b % 16).toNat a)), some (.int b), k', none] h := by
    intro h
    obtain ⟨k', L⟩ := lr_for (nm := some (.str "shl")) (xf := some (.int 0)) (xw := some (.int 1)) (xy := some (.int b)) (xz := none) (a := a) (b := b) (f := fun x => x * 2 % 65536) (Q := Wd) (h := h) (fun _ _ => mod_wd _) (fun x k q => by
      skip
      unfold l__law_reckon_0
      repeat (first | (with_reducible first | exact s3 _ | exact c_run | exact no_run) | ((with_reducible apply var_run);exact rfl) | with_reducible apply IfR.t | ((with_reducible refine eqs_t ?_);decide) | ((with_reducible refine mod_p ?_);omega) | ((with_reducible refine mul_r ?_);omega) | (with_reducible first | apply m2_run | apply bool_run | apply rb_ifE | apply some_run | apply sl_run | apply rb_asg) | ((with_reducible apply envP);exact rfl))) ha
    rw [it_shl] at L
    exact ⟨k', L⟩
  have e1 : ∀ {g : Hm}, (h ++ g).length = (h ++ g).length := rfl
  obtain ⟨k', L⟩ := F (h ++ [.lst [.str "add", .str "addi", .str "sub", .str "mul"]] ++ [.lst [.str "slt", .str "slti", .str "sltu"]] ++ [.lst [.str "sh", .str "sa"]])
  (apply Exists.intro; apply And.intro)
  · apply call_ret f__law_reckon_eq rfl
    unfold b__law_reckon
    simp only [startE, List.map_cons, List.map_nil, List.length_cons, List.length_nil, List.cons_append, List.nil_append, Nat.zero_add, Nat.reduceAdd, Nat.reduceSub, List.replicate]
    repeat (first | (with_reducible first | exact s2 _ | exact L | exact c_run | exact nil_run | exact nils_run | exact no_run) | ((with_reducible apply var_run);exact rfl) | (with_reducible first | apply IfR.t | apply IfR.f | exact ThR.rt) | ((with_reducible apply ThR.nx);(try simp only [List.set_cons_succ, List.set_cons_zero, setAll])) | ((with_reducible apply inN (k := true));exact rfl;exact rfl;decide) | ((with_reducible apply inN (k := false));exact rfl;exact rfl;decide) | (with_reducible first | apply m2_run | apply cons_run | apply tup_run | apply lst_run | apply bool_run | apply some_run | apply sl_run) | ((with_reducible refine lenP ?_);exact rfl) | (with_reducible first | apply rb_seq | apply rb_if | apply ret_run | exact UnpN.nil | apply UnpN.cons | apply rb_unp))
  · (repeat (first | with_reducible exact Ext.refl | with_reducible apply Ext.app))
theorem lr_shli {a b : Int} (ha : Wd a) (hb : Wd b) (h : Hm) : ∃ h', f__law_reckon [.str "shli", .int a, .int b] h = .ok (.int (upN (b % 16).toNat a)) h' ∧ Ext h h' := by
  have s3 : ∀ h : Hm, fSl (.str "shli") none (some 3) h = .ok (.str "shl") h := fun _ => rfl
  have s2 : ∀ h : Hm, fSl (.str "shli") none (some 2) h = .ok (.str "sh") h := fun _ => rfl
  have F : ∀ h : Hm, ∃ k', t__law_reckon_3 [some (.str "shli"), some (.int a), some (.int b), some (.int 0), some (.int 1), some (.int a), some (.int b), none, none] h = .next [some (.str "shli"), some (.int a), some (.int b), some (.int 0), some (.int 1), some (.int (upN (b % 16).toNat a)), some (.int b), k', none] h := by
    intro h
    obtain ⟨k', L⟩ := lr_for (nm := some (.str "shli")) (xf := some (.int 0)) (xw := some (.int 1)) (xy := some (.int b)) (xz := none) (a := a) (b := b) (f := fun x => x * 2 % 65536) (Q := Wd) (h := h) (fun _ _ => mod_wd _) (fun x k q => by
      skip
      unfold l__law_reckon_0
      repeat (first | (with_reducible first | exact s3 _ | exact c_run | exact no_run) | ((with_reducible apply var_run);exact rfl) | with_reducible apply IfR.t | ((with_reducible refine eqs_t ?_);decide) | ((with_reducible refine mod_p ?_);omega) | ((with_reducible refine mul_r ?_);omega) | (with_reducible first | apply m2_run | apply bool_run | apply rb_ifE | apply some_run | apply sl_run | apply rb_asg) | ((with_reducible apply envP);exact rfl))) ha
    rw [it_shl] at L
    exact ⟨k', L⟩
  have e1 : ∀ {g : Hm}, (h ++ g).length = (h ++ g).length := rfl
  obtain ⟨k', L⟩ := F (h ++ [.lst [.str "add", .str "addi", .str "sub", .str "mul"]] ++ [.lst [.str "slt", .str "slti", .str "sltu"]] ++ [.lst [.str "sh", .str "sa"]])
  (apply Exists.intro; apply And.intro)
  · apply call_ret f__law_reckon_eq rfl
    unfold b__law_reckon
    simp only [startE, List.map_cons, List.map_nil, List.length_cons, List.length_nil, List.cons_append, List.nil_append, Nat.zero_add, Nat.reduceAdd, Nat.reduceSub, List.replicate]
    repeat (first | (with_reducible first | exact s2 _ | exact L | exact c_run | exact nil_run | exact nils_run | exact no_run) | ((with_reducible apply var_run);exact rfl) | (with_reducible first | apply IfR.t | apply IfR.f | exact ThR.rt) | ((with_reducible apply ThR.nx);(try simp only [List.set_cons_succ, List.set_cons_zero, setAll])) | ((with_reducible apply inN (k := true));exact rfl;exact rfl;decide) | ((with_reducible apply inN (k := false));exact rfl;exact rfl;decide) | (with_reducible first | apply m2_run | apply cons_run | apply tup_run | apply lst_run | apply bool_run | apply some_run | apply sl_run) | ((with_reducible refine lenP ?_);exact rfl) | (with_reducible first | apply rb_seq | apply rb_if | apply ret_run | exact UnpN.nil | apply UnpN.cons | apply rb_unp))
  · (repeat (first | with_reducible exact Ext.refl | with_reducible apply Ext.app))
theorem lr_shr {a b : Int} (ha : Wd a) (hb : Wd b) (h : Hm) : ∃ h', f__law_reckon [.str "shr", .int a, .int b] h = .ok (.int (a / 2 ^ (b % 16).toNat)) h' ∧ Ext h h' := by
  have s3 : ∀ h : Hm, fSl (.str "shr") none (some 3) h = .ok (.str "shr") h := fun _ => rfl
  have s2 : ∀ h : Hm, fSl (.str "shr") none (some 2) h = .ok (.str "sh") h := fun _ => rfl
  have F : ∀ h : Hm, ∃ k', t__law_reckon_3 [some (.str "shr"), some (.int a), some (.int b), some (.int 0), some (.int 1), some (.int a), some (.int b), none, none] h = .next [some (.str "shr"), some (.int a), some (.int b), some (.int 0), some (.int 1), some (.int (a / 2 ^ (b % 16).toNat)), some (.int b), k', none] h := by
    intro h
    obtain ⟨k', L⟩ := lr_for (nm := some (.str "shr")) (xf := some (.int 0)) (xw := some (.int 1)) (xy := some (.int b)) (xz := none) (a := a) (b := b) (f := fun x => x / 2) (Q := Wd) (h := h) (fun x q => ⟨by have := q.1; omega, by have := q.1; have := q.2; omega⟩) (fun x k q => by
      skip
      unfold l__law_reckon_0
      repeat (first | (with_reducible first | exact s3 _ | exact c_run | exact no_run) | ((with_reducible apply var_run);exact rfl) | (with_reducible first | apply IfR.t | apply IfR.f) | ((with_reducible refine eqs_t ?_);decide) | ((with_reducible refine eqs_f ?_);decide) | ((with_reducible refine div_p ?_ ?_);omega;omega) | (with_reducible first | apply m2_run | apply bool_run | apply rb_ifE | apply some_run | apply sl_run | apply rb_asg) | ((with_reducible apply envP);exact rfl))) ha
    rw [it_shr] at L
    exact ⟨k', L⟩
  have e1 : ∀ {g : Hm}, (h ++ g).length = (h ++ g).length := rfl
  obtain ⟨k', L⟩ := F (h ++ [.lst [.str "add", .str "addi", .str "sub", .str "mul"]] ++ [.lst [.str "slt", .str "slti", .str "sltu"]] ++ [.lst [.str "sh", .str "sa"]])
  (apply Exists.intro; apply And.intro)
  · apply call_ret f__law_reckon_eq rfl
    unfold b__law_reckon
    simp only [startE, List.map_cons, List.map_nil, List.length_cons, List.length_nil, List.cons_append, List.nil_append, Nat.zero_add, Nat.reduceAdd, Nat.reduceSub, List.replicate]
    repeat (first | (with_reducible first | exact s2 _ | exact L | exact c_run | exact nil_run | exact nils_run | exact no_run) | ((with_reducible apply var_run);exact rfl) | (with_reducible first | apply IfR.t | apply IfR.f | exact ThR.rt) | ((with_reducible apply ThR.nx);(try simp only [List.set_cons_succ, List.set_cons_zero, setAll])) | ((with_reducible apply inN (k := true));exact rfl;exact rfl;decide) | ((with_reducible apply inN (k := false));exact rfl;exact rfl;decide) | (with_reducible first | apply m2_run | apply cons_run | apply tup_run | apply lst_run | apply bool_run | apply some_run | apply sl_run) | ((with_reducible refine lenP ?_);exact rfl) | (with_reducible first | apply rb_seq | apply rb_if | apply ret_run | exact UnpN.nil | apply UnpN.cons | apply rb_unp))
  · (repeat (first | with_reducible exact Ext.refl | with_reducible apply Ext.app))
theorem lr_sar {a b : Int} (ha : Wd a) (hb : Wd b) (h : Hm) : ∃ h', f__law_reckon [.str "sar", .int a, .int b] h = .ok (.int (sgn a / 2 ^ (b % 16).toNat % 65536)) h' ∧ Ext h h' := by
  have s3 : ∀ h : Hm, fSl (.str "sar") none (some 3) h = .ok (.str "sar") h := fun _ => rfl
  have s2 : ∀ h : Hm, fSl (.str "sar") none (some 2) h = .ok (.str "sa") h := fun _ => rfl
  have F : ∀ h : Hm, ∃ k', t__law_reckon_3 [some (.str "sar"), some (.int a), some (.int b), some (.int 0), some (.int 1), some (.int a), some (.int b), none, none] h = .next [some (.str "sar"), some (.int a), some (.int b), some (.int 0), some (.int 1), some (.int (sgn a / 2 ^ (b % 16).toNat % 65536)), some (.int b), k', none] h := by
    intro h
    obtain ⟨k', L⟩ := lr_for (nm := some (.str "sar")) (xf := some (.int 0)) (xw := some (.int 1)) (xy := some (.int b)) (xz := none) (a := a) (b := b) (f := fun x => sgn x / 2 % 65536) (Q := Wd) (h := h) (fun _ _ => mod_wd _) (fun x k q => by
      have n1 : ∀ h : Hm, f__law_number [.int x] h = .ok (.int (sgn x)) h := fun h => number_run x h
      unfold l__law_reckon_0
      repeat (first | (with_reducible first | exact s3 _ | exact n1 _ | exact c_run | exact nil_run | exact no_run) | ((with_reducible apply var_run);exact rfl) | with_reducible apply IfR.f | ((with_reducible refine eqs_f ?_);decide) | ((with_reducible refine mod_p ?_);omega) | ((with_reducible refine div_p ?_ ?_);omega;omega) | (with_reducible first | apply m2_run | apply cons_run | apply bool_run | apply rb_ifE | apply some_run | apply sl_run | apply rb_callF) | ((with_reducible refine lenP ?_);exact rfl) | with_reducible apply rb_asg | ((with_reducible apply envP);exact rfl))) ha
    rw [it_sar _ ha] at L
    exact ⟨k', L⟩
  have e1 : ∀ {g : Hm}, (h ++ g).length = (h ++ g).length := rfl
  obtain ⟨k', L⟩ := F (h ++ [.lst [.str "add", .str "addi", .str "sub", .str "mul"]] ++ [.lst [.str "slt", .str "slti", .str "sltu"]] ++ [.lst [.str "sh", .str "sa"]])
  (apply Exists.intro; apply And.intro)
  · apply call_ret f__law_reckon_eq rfl
    unfold b__law_reckon
    simp only [startE, List.map_cons, List.map_nil, List.length_cons, List.length_nil, List.cons_append, List.nil_append, Nat.zero_add, Nat.reduceAdd, Nat.reduceSub, List.replicate]
    repeat (first | (with_reducible first | exact s2 _ | exact L | exact c_run | exact nil_run | exact nils_run | exact no_run) | ((with_reducible apply var_run);exact rfl) | (with_reducible first | apply IfR.t | apply IfR.f | exact ThR.rt) | ((with_reducible apply ThR.nx);(try simp only [List.set_cons_succ, List.set_cons_zero, setAll])) | ((with_reducible apply inN (k := true));exact rfl;exact rfl;decide) | ((with_reducible apply inN (k := false));exact rfl;exact rfl;decide) | (with_reducible first | apply m2_run | apply cons_run | apply tup_run | apply lst_run | apply bool_run | apply some_run | apply sl_run) | ((with_reducible refine lenP ?_);exact rfl) | (with_reducible first | apply rb_seq | apply rb_if | apply ret_run | exact UnpN.nil | apply UnpN.cons | apply rb_unp))
  · (repeat (first | with_reducible exact Ext.refl | with_reducible apply Ext.app))
end K03
end MM
namespace MM
namespace K03
open PySem L2
theorem lb_loop {nm xa xb : Option D} {F : Int → Int → Int} (turn : ∀ (r w x y : Int) (k z : Option D) (h : Hm), ∃ z' h', l__law_reckon_1 [nm, xa, xb, some (.int r), some (.int w), some (.int x), some (.int y), k, z] h = .next [nm, xa, xb, some (.int (r + F (x % 2) (y % 2) * w)), some (.int (w * 2)), some (.int (x / 2)), some (.int (y / 2)), k, z'] h' ∧ Ext h h') : ∀ (ds : List D) (r w x y : Int) (k z : Option D) (h : Hm), ∃ w' x' y' k' z' h', forL [] (gN 7) l__law_reckon_1 ds [nm, xa, xb, some (.int r), some (.int w), some (.int x), some (.int y), k, z] h = .next [nm, xa, xb, some (.int (lpB F ds.length r w x y)), w', x', y', k', z'] h' ∧ Ext h h'
  | [], r, w, x, y, k, z, h => ⟨_, _, _, _, _, h, forL_nil gdOk_nil, Ext.refl⟩
  | d :: ds, r, w, x, y, k, z, h => by
    obtain ⟨z1, h1, t1, x1⟩ := turn r w x y (some d) z h
    obtain ⟨w', x', y', k', z', h', L, x2⟩ := lb_loop turn ds (r + F (x % 2) (y % 2) * w) (w * 2) (x / 2) (y / 2) (some d) z1 h1
    exact ⟨w', x', y', k', z', h', forL_next (e1 := [nm, xa, xb, some (.int r), some (.int w), some (.int x), some (.int y), some d, z]) (h1 := h) gdOk_nil rfl t1 L, x1.trans x2⟩
theorem lr_and {a b : Int} (ha : Wd a) (hb : Wd b) (h : Hm) : ∃ h', f__law_reckon [.str "and", .int a, .int b] h = .ok (.int (valL (shL a b))) h' ∧ Ext h h' := by
  have s2 : ∀ h : Hm, fSl (.str "and") none (some 2) h = .ok (.str "an") h := fun _ => rfl
  have T : ∀ (r w x y : Int) (k z : Option D) (h : Hm), ∃ z' h', l__law_reckon_1 [some (.str "and"), some (.int a), some (.int b), some (.int r), some (.int w), some (.int x), some (.int y), k, z] h = .next [some (.str "and"), some (.int a), some (.int b), some (.int (r + (fun u v => u * v) (x % 2) (y % 2) * w)), some (.int (w * 2)), some (.int (x / 2)), some (.int (y / 2)), k, z'] h' ∧ Ext h h' := by
    intro r w x y k z h
    simp only
    have mu : ∀ h : Hm, fMul (.int (x % 2)) (.int (y % 2)) h = .ok (.int (x % 2 * (y % 2))) h := fun _ => mul_l ⟨by omega, by omega⟩
    have bd : -1000000 < (x % 2 * (y % 2) : Int) ∧ (x % 2 * (y % 2) : Int) < 1000000 := by
      rcases (show x % 2 = 0 ∨ x % 2 = 1 by omega) with e | e <;> rcases (show y % 2 = 0 ∨ y % 2 = 1 by omega) with e' | e' <;> first | (rw [e, e']; decide) | omega
    have mw : ∀ h : Hm, fMul (.int (x % 2 * (y % 2))) (.int w) h = .ok (.int ((x % 2 * (y % 2)) * w)) h := fun _ => mul_l bd
    refine ⟨some (.int (x % 2 * (y % 2))), ?_⟩
    have c5 : ∀ h : Hm, t__law_reckon_5 [some (.str "and"), some (.int a), some (.int b), some (.int r), some (.int w), some (.int x), some (.int y), k, some (.int (x % 2 * (y % 2)))] h = .next [some (.str "and"), some (.int a), some (.int b), some (.int (r + (x % 2 * (y % 2)) * w)), some (.int (w * 2)), some (.int (x / 2)), some (.int (y / 2)), k, some (.int (x % 2 * (y % 2)))] h := fun h => by
      refine (rb_unp (is := [3, 4, 5, 6]) (ds := [.int (r + (x % 2 * (y % 2)) * w), .int (w * 2), .int (x / 2), .int (y / 2)]) ?_ rfl (.cons (.cons (.cons (.cons .nil)))) rfl).trans rfl
      repeat (first | (with_reducible first | exact mw _ | exact c_run | exact nil_run) | ((with_reducible apply var_run);exact rfl) | with_reducible exact fAdd_i | ((with_reducible refine div_p ?_ ?_);omega;omega) | ((with_reducible refine mul_r ?_);omega) | (with_reducible first | apply m2_run | apply cons_run | apply tup_run))
    (apply Exists.intro; apply And.intro)
    · unfold l__law_reckon_1
      repeat (first | (with_reducible first | exact c5 _ | exact mu _ | exact c_run | exact nil_run | exact rb_ps0) | ((with_reducible apply var_run);exact rfl) | with_reducible apply IfR.t | ((with_reducible apply ThR.nx);(try simp only [List.set_cons_succ, List.set_cons_zero, setAll])) | with_reducible exact fAdd_i | ((with_reducible apply fIx_dic);(first | exact get_new | exact keep_app get_new);exact rfl) | ((with_reducible apply keP);exact rfl) | ((with_reducible apply le15);exact rfl) | with_reducible exact fMax2_i | ((with_reducible apply inN (k := true));exact rfl;exact rfl;decide) | ((with_reducible refine mod_p ?_);omega) | (with_reducible first | apply m2_run | apply cons_run | apply lst_run | apply bool_run | apply rb_ifE | apply call_run | apply rb_seq | apply rb_asg) | ((with_reducible apply envP);exact rfl) | (with_reducible first | apply rb_disp | apply rb_ps))
    · (repeat (first | with_reducible exact Ext.refl | with_reducible apply Ext.app))
  obtain ⟨w', x', y', k', z', h', L, xt⟩ := lb_loop (F := fun u v => u * v) T ((List.range 16).map (fun k : Nat => D.int (0 + (k : Int)))) 0 1 a b none none (h ++ [.lst [.str "add", .str "addi", .str "sub", .str "mul"]] ++ [.lst [.str "slt", .str "slti", .str "sltu"]] ++ [.lst [.str "sh", .str "sa"]])
  rw [List.length_map, List.length_range, lp_and] at L
  have F : p__law_reckon_4 [some (.str "and"), some (.int a), some (.int b), some (.int 0), some (.int 1), some (.int a), some (.int b), none, none] (h ++ [.lst [.str "add", .str "addi", .str "sub", .str "mul"]] ++ [.lst [.str "slt", .str "slti", .str "sltu"]] ++ [.lst [.str "sh", .str "sa"]]) = .next [some (.str "and"), some (.int a), some (.int b), some (.int (valL (shL a b))), w', x', y', k', z'] h' := for_run (rgc_run (n := 16) (by decide)) L
  refine ⟨h', ?_, Ext.trans (by (repeat (first | with_reducible exact Ext.refl | with_reducible apply Ext.app))) xt⟩
  apply call_ret f__law_reckon_eq rfl
  unfold b__law_reckon
  simp only [startE, List.map_cons, List.map_nil, List.length_cons, List.length_nil, List.cons_append, List.nil_append, Nat.zero_add, Nat.reduceAdd, Nat.reduceSub, List.replicate]
  repeat (first | (with_reducible first | exact s2 _ | exact F | exact c_run | exact nil_run | exact nils_run | exact no_run) | ((with_reducible apply var_run);exact rfl) | with_reducible apply IfR.f | ((with_reducible apply ThR.nx);(try simp only [List.set_cons_succ, List.set_cons_zero, setAll])) | ((with_reducible apply inN (k := false));exact rfl;exact rfl;decide) | (with_reducible first | apply m2_run | apply cons_run | apply tup_run | apply lst_run | apply bool_run | apply some_run | apply sl_run) | ((with_reducible refine lenP ?_);exact rfl) | (with_reducible first | apply rb_seq | apply rb_if | apply ret_run | exact UnpN.nil | apply UnpN.cons | apply rb_unp))
theorem lr_or {a b : Int} (ha : Wd a) (hb : Wd b) (h : Hm) : ∃ h', f__law_reckon [.str "or", .int a, .int b] h = .ok (.int (a + b - valL (shL a b))) h' ∧ Ext h h' := by
  have s2 : ∀ h : Hm, fSl (.str "or") none (some 2) h = .ok (.str "or") h := fun _ => rfl
  have T : ∀ (r w x y : Int) (k z : Option D) (h : Hm), ∃ z' h', l__law_reckon_1 [some (.str "or"), some (.int a), some (.int b), some (.int r), some (.int w), some (.int x), some (.int y), k, z] h = .next [some (.str "or"), some (.int a), some (.int b), some (.int (r + (fun u v => if v > u then v else u) (x % 2) (y % 2) * w)), some (.int (w * 2)), some (.int (x / 2)), some (.int (y / 2)), k, z'] h' ∧ Ext h h' := by
    intro r w x y k z h
    simp only
    have mu : ∀ h : Hm, fMul (.int (x % 2)) (.int (y % 2)) h = .ok (.int (x % 2 * (y % 2))) h := fun _ => mul_l ⟨by omega, by omega⟩
    have bd : -1000000 < (if y % 2 > x % 2 then y % 2 else x % 2 : Int) ∧ (if y % 2 > x % 2 then y % 2 else x % 2 : Int) < 1000000 := by
      rcases (show x % 2 = 0 ∨ x % 2 = 1 by omega) with e | e <;> rcases (show y % 2 = 0 ∨ y % 2 = 1 by omega) with e' | e' <;> first | (rw [e, e']; decide) | omega
    have mw : ∀ h : Hm, fMul (.int (if y % 2 > x % 2 then y % 2 else x % 2)) (.int w) h = .ok (.int ((if y % 2 > x % 2 then y % 2 else x % 2) * w)) h := fun _ => mul_l bd
    refine ⟨some (.int (if y % 2 > x % 2 then y % 2 else x % 2)), ?_⟩
    have c5 : ∀ h : Hm, t__law_reckon_5 [some (.str "or"), some (.int a), some (.int b), some (.int r), some (.int w), some (.int x), some (.int y), k, some (.int (if y % 2 > x % 2 then y % 2 else x % 2))] h = .next [some (.str "or"), some (.int a), some (.int b), some (.int (r + (if y % 2 > x % 2 then y % 2 else x % 2) * w)), some (.int (w * 2)), some (.int (x / 2)), some (.int (y / 2)), k, some (.int (if y % 2 > x % 2 then y % 2 else x % 2))] h := fun h => by
      refine (rb_unp (is := [3, 4, 5, 6]) (ds := [.int (r + (if y % 2 > x % 2 then y % 2 else x % 2) * w), .int (w * 2), .int (x / 2), .int (y / 2)]) ?_ rfl (.cons (.cons (.cons (.cons .nil)))) rfl).trans rfl
      repeat (first | (with_reducible first | exact mw _ | exact c_run | exact nil_run) | ((with_reducible apply var_run);exact rfl) | with_reducible exact fAdd_i | ((with_reducible refine div_p ?_ ?_);omega;omega) | ((with_reducible refine mul_r ?_);omega) | (with_reducible first | apply m2_run | apply cons_run | apply tup_run))
    (apply Exists.intro; apply And.intro)
    · unfold l__law_reckon_1
      repeat (first | (with_reducible first | exact c5 _ | exact mu _ | exact c_run | exact nil_run | exact rb_ps0) | ((with_reducible apply var_run);exact rfl) | with_reducible apply IfR.t | ((with_reducible apply ThR.nx);(try simp only [List.set_cons_succ, List.set_cons_zero, setAll])) | with_reducible exact fAdd_i | ((with_reducible apply fIx_dic);(first | exact get_new | exact keep_app get_new);exact rfl) | ((with_reducible apply keP);exact rfl) | ((with_reducible apply le15);exact rfl) | with_reducible exact fMax2_i | ((with_reducible apply inN (k := true));exact rfl;exact rfl;decide) | ((with_reducible refine mod_p ?_);omega) | (with_reducible first | apply m2_run | apply cons_run | apply lst_run | apply bool_run | apply rb_ifE | apply call_run | apply rb_seq | apply rb_asg) | ((with_reducible apply envP);exact rfl) | (with_reducible first | apply rb_disp | apply rb_ps))
    · (repeat (first | with_reducible exact Ext.refl | with_reducible apply Ext.app))
  obtain ⟨w', x', y', k', z', h', L, xt⟩ := lb_loop (F := fun u v => if v > u then v else u) T ((List.range 16).map (fun k : Nat => D.int (0 + (k : Int)))) 0 1 a b none none (h ++ [.lst [.str "add", .str "addi", .str "sub", .str "mul"]] ++ [.lst [.str "slt", .str "slti", .str "sltu"]] ++ [.lst [.str "sh", .str "sa"]])
  rw [List.length_map, List.length_range, lp_or ha hb] at L
  have F : p__law_reckon_4 [some (.str "or"), some (.int a), some (.int b), some (.int 0), some (.int 1), some (.int a), some (.int b), none, none] (h ++ [.lst [.str "add", .str "addi", .str "sub", .str "mul"]] ++ [.lst [.str "slt", .str "slti", .str "sltu"]] ++ [.lst [.str "sh", .str "sa"]]) = .next [some (.str "or"), some (.int a), some (.int b), some (.int (a + b - valL (shL a b))), w', x', y', k', z'] h' := for_run (rgc_run (n := 16) (by decide)) L
  refine ⟨h', ?_, Ext.trans (by (repeat (first | with_reducible exact Ext.refl | with_reducible apply Ext.app))) xt⟩
  apply call_ret f__law_reckon_eq rfl
  unfold b__law_reckon
  simp only [startE, List.map_cons, List.map_nil, List.length_cons, List.length_nil, List.cons_append, List.nil_append, Nat.zero_add, Nat.reduceAdd, Nat.reduceSub, List.replicate]
  repeat (first | (with_reducible first | exact s2 _ | exact F | exact c_run | exact nil_run | exact nils_run | exact no_run) | ((with_reducible apply var_run);exact rfl) | with_reducible apply IfR.f | ((with_reducible apply ThR.nx);(try simp only [List.set_cons_succ, List.set_cons_zero, setAll])) | ((with_reducible apply inN (k := false));exact rfl;exact rfl;decide) | (with_reducible first | apply m2_run | apply cons_run | apply tup_run | apply lst_run | apply bool_run | apply some_run | apply sl_run) | ((with_reducible refine lenP ?_);exact rfl) | (with_reducible first | apply rb_seq | apply rb_if | apply ret_run | exact UnpN.nil | apply UnpN.cons | apply rb_unp))
theorem lr_xor {a b : Int} (ha : Wd a) (hb : Wd b) (h : Hm) : ∃ h', f__law_reckon [.str "xor", .int a, .int b] h = .ok (.int (a + b - 2 * valL (shL a b))) h' ∧ Ext h h' := by
  have s2 : ∀ h : Hm, fSl (.str "xor") none (some 2) h = .ok (.str "xo") h := fun _ => rfl
  have T : ∀ (r w x y : Int) (k z : Option D) (h : Hm), ∃ z' h', l__law_reckon_1 [some (.str "xor"), some (.int a), some (.int b), some (.int r), some (.int w), some (.int x), some (.int y), k, z] h = .next [some (.str "xor"), some (.int a), some (.int b), some (.int (r + (fun u v => (u + v) % 2) (x % 2) (y % 2) * w)), some (.int (w * 2)), some (.int (x / 2)), some (.int (y / 2)), k, z'] h' ∧ Ext h h' := by
    intro r w x y k z h
    simp only
    rw [show (x % 2 + y % 2) % 2 = (x + y) % 2 by omega]
    have mu : ∀ h : Hm, fMul (.int (x % 2)) (.int (y % 2)) h = .ok (.int (x % 2 * (y % 2))) h := fun _ => mul_l ⟨by omega, by omega⟩
    have bd : -1000000 < ((x + y) % 2 : Int) ∧ ((x + y) % 2 : Int) < 1000000 := by
      rcases (show x % 2 = 0 ∨ x % 2 = 1 by omega) with e | e <;> rcases (show y % 2 = 0 ∨ y % 2 = 1 by omega) with e' | e' <;> first | (rw [e, e']; decide) | omega
    have mw : ∀ h : Hm, fMul (.int ((x + y) % 2)) (.int w) h = .ok (.int (((x + y) % 2) * w)) h := fun _ => mul_l bd
    refine ⟨some (.int ((x + y) % 2)), ?_⟩
    have c5 : ∀ h : Hm, t__law_reckon_5 [some (.str "xor"), some (.int a), some (.int b), some (.int r), some (.int w), some (.int x), some (.int y), k, some (.int ((x + y) % 2))] h = .next [some (.str "xor"), some (.int a), some (.int b), some (.int (r + ((x + y) % 2) * w)), some (.int (w * 2)), some (.int (x / 2)), some (.int (y / 2)), k, some (.int ((x + y) % 2))] h := fun h => by
      refine (rb_unp (is := [3, 4, 5, 6]) (ds := [.int (r + ((x + y) % 2) * w), .int (w * 2), .int (x / 2), .int (y / 2)]) ?_ rfl (.cons (.cons (.cons (.cons .nil)))) rfl).trans rfl
      repeat (first | (with_reducible first | exact mw _ | exact c_run | exact nil_run) | ((with_reducible apply var_run);exact rfl) | with_reducible exact fAdd_i | ((with_reducible refine div_p ?_ ?_);omega;omega) | ((with_reducible refine mul_r ?_);omega) | (with_reducible first | apply m2_run | apply cons_run | apply tup_run))
    (apply Exists.intro; apply And.intro)
    · unfold l__law_reckon_1
      repeat (first | (with_reducible first | exact c5 _ | exact mu _ | exact c_run | exact nil_run | exact rb_ps0) | ((with_reducible apply var_run);exact rfl) | with_reducible apply IfR.t | ((with_reducible apply ThR.nx);(try simp only [List.set_cons_succ, List.set_cons_zero, setAll])) | with_reducible exact fAdd_i | ((with_reducible apply fIx_dic);(first | exact get_new | exact keep_app get_new);exact rfl) | ((with_reducible apply keP);exact rfl) | ((with_reducible apply le15);exact rfl) | with_reducible exact fMax2_i | ((with_reducible apply inN (k := true));exact rfl;exact rfl;decide) | ((with_reducible refine mod_p ?_);omega) | (with_reducible first | apply m2_run | apply cons_run | apply lst_run | apply bool_run | apply rb_ifE | apply call_run | apply rb_seq | apply rb_asg) | ((with_reducible apply envP);exact rfl) | (with_reducible first | apply rb_disp | apply rb_ps))
    · (repeat (first | with_reducible exact Ext.refl | with_reducible apply Ext.app))
  obtain ⟨w', x', y', k', z', h', L, xt⟩ := lb_loop (F := fun u v => (u + v) % 2) T ((List.range 16).map (fun k : Nat => D.int (0 + (k : Int)))) 0 1 a b none none (h ++ [.lst [.str "add", .str "addi", .str "sub", .str "mul"]] ++ [.lst [.str "slt", .str "slti", .str "sltu"]] ++ [.lst [.str "sh", .str "sa"]])
  rw [List.length_map, List.length_range, lp_xor ha hb] at L
  have F : p__law_reckon_4 [some (.str "xor"), some (.int a), some (.int b), some (.int 0), some (.int 1), some (.int a), some (.int b), none, none] (h ++ [.lst [.str "add", .str "addi", .str "sub", .str "mul"]] ++ [.lst [.str "slt", .str "slti", .str "sltu"]] ++ [.lst [.str "sh", .str "sa"]]) = .next [some (.str "xor"), some (.int a), some (.int b), some (.int (a + b - 2 * valL (shL a b))), w', x', y', k', z'] h' := for_run (rgc_run (n := 16) (by decide)) L
  refine ⟨h', ?_, Ext.trans (by (repeat (first | with_reducible exact Ext.refl | with_reducible apply Ext.app))) xt⟩
  apply call_ret f__law_reckon_eq rfl
  unfold b__law_reckon
  simp only [startE, List.map_cons, List.map_nil, List.length_cons, List.length_nil, List.cons_append, List.nil_append, Nat.zero_add, Nat.reduceAdd, Nat.reduceSub, List.replicate]
  repeat (first | (with_reducible first | exact s2 _ | exact F | exact c_run | exact nil_run | exact nils_run | exact no_run) | ((with_reducible apply var_run);exact rfl) | with_reducible apply IfR.f | ((with_reducible apply ThR.nx);(try simp only [List.set_cons_succ, List.set_cons_zero, setAll])) | ((with_reducible apply inN (k := false));exact rfl;exact rfl;decide) | (with_reducible first | apply m2_run | apply cons_run | apply tup_run | apply lst_run | apply bool_run | apply some_run | apply sl_run) | ((with_reducible refine lenP ?_);exact rfl) | (with_reducible first | apply rb_seq | apply rb_if | apply ret_run | exact UnpN.nil | apply UnpN.cons | apply rb_unp))
theorem lr_andi {a b : Int} (ha : Wd a) (hb : Wd b) (h : Hm) : ∃ h', f__law_reckon [.str "andi", .int a, .int b] h = .ok (.int (valL (shL a b))) h' ∧ Ext h h' := by
  have s2 : ∀ h : Hm, fSl (.str "andi") none (some 2) h = .ok (.str "an") h := fun _ => rfl
  have sl : ∀ h : Hm, fSl (.str "andi") none (some ((4 : Int) - 1)) h = .ok (.str "and") h := fun _ => rfl
  have ln : ∀ h : Hm, fLen [.str "andi"] h = .ok (.int 4) h := fun _ => rfl
  have T : ∀ (r w x y : Int) (k z : Option D) (h : Hm), ∃ z' h', l__law_reckon_1 [some (.str "andi"), some (.int a), some (.int b), some (.int r), some (.int w), some (.int x), some (.int y), k, z] h = .next [some (.str "andi"), some (.int a), some (.int b), some (.int (r + (fun u v => u * v) (x % 2) (y % 2) * w)), some (.int (w * 2)), some (.int (x / 2)), some (.int (y / 2)), k, z'] h' ∧ Ext h h' := by
    intro r w x y k z h
    simp only
    have mu : ∀ h : Hm, fMul (.int (x % 2)) (.int (y % 2)) h = .ok (.int (x % 2 * (y % 2))) h := fun _ => mul_l ⟨by omega, by omega⟩
    have bd : -1000000 < (x % 2 * (y % 2) : Int) ∧ (x % 2 * (y % 2) : Int) < 1000000 := by
      rcases (show x % 2 = 0 ∨ x % 2 = 1 by omega) with e | e <;> rcases (show y % 2 = 0 ∨ y % 2 = 1 by omega) with e' | e' <;> first | (rw [e, e']; decide) | omega
    have mw : ∀ h : Hm, fMul (.int (x % 2 * (y % 2))) (.int w) h = .ok (.int ((x % 2 * (y % 2)) * w)) h := fun _ => mul_l bd
    refine ⟨some (.int (x % 2 * (y % 2))), ?_⟩
    have c5 : ∀ h : Hm, t__law_reckon_5 [some (.str "andi"), some (.int a), some (.int b), some (.int r), some (.int w), some (.int x), some (.int y), k, some (.int (x % 2 * (y % 2)))] h = .next [some (.str "andi"), some (.int a), some (.int b), some (.int (r + (x % 2 * (y % 2)) * w)), some (.int (w * 2)), some (.int (x / 2)), some (.int (y / 2)), k, some (.int (x % 2 * (y % 2)))] h := fun h => by
      refine (rb_unp (is := [3, 4, 5, 6]) (ds := [.int (r + (x % 2 * (y % 2)) * w), .int (w * 2), .int (x / 2), .int (y / 2)]) ?_ rfl (.cons (.cons (.cons (.cons .nil)))) rfl).trans rfl
      repeat (first | (with_reducible first | exact mw _ | exact c_run | exact nil_run) | ((with_reducible apply var_run);exact rfl) | with_reducible exact fAdd_i | ((with_reducible refine div_p ?_ ?_);omega;omega) | ((with_reducible refine mul_r ?_);omega) | (with_reducible first | apply m2_run | apply cons_run | apply tup_run))
    (apply Exists.intro; apply And.intro)
    · unfold l__law_reckon_1
      repeat (first | (with_reducible first | exact c5 _ | exact mu _ | exact sl _ | exact ln _ | exact c_run | exact nil_run | exact no_run | exact rb_ps0) | ((with_reducible apply var_run);exact rfl) | with_reducible apply IfR.f | ((with_reducible apply ThR.nx);(try simp only [List.set_cons_succ, List.set_cons_zero, setAll])) | (with_reducible first | exact fAdd_i | exact fSub_i) | ((with_reducible apply fIx_dic);(first | exact get_new | exact keep_app get_new);exact rfl) | ((with_reducible apply keP);exact rfl) | ((with_reducible apply le15);exact rfl) | with_reducible exact fMax2_i | ((with_reducible apply inN (k := false));exact rfl;exact rfl;decide) | ((with_reducible refine mod_p ?_);omega) | (with_reducible first | apply m2_run | apply cons_run | apply lst_run | apply bool_run | apply rb_ifE | apply some_run | apply sl_run | apply call_run | apply rb_seq | apply rb_asg) | ((with_reducible apply envP);exact rfl) | (with_reducible first | apply rb_disp | apply rb_ps))
    · (repeat (first | with_reducible exact Ext.refl | with_reducible apply Ext.app))
  obtain ⟨w', x', y', k', z', h', L, xt⟩ := lb_loop (F := fun u v => u * v) T ((List.range 16).map (fun k : Nat => D.int (0 + (k : Int)))) 0 1 a b none none (h ++ [.lst [.str "add", .str "addi", .str "sub", .str "mul"]] ++ [.lst [.str "slt", .str "slti", .str "sltu"]] ++ [.lst [.str "sh", .str "sa"]])
  rw [List.length_map, List.length_range, lp_and] at L
  have F : p__law_reckon_4 [some (.str "andi"), some (.int a), some (.int b), some (.int 0), some (.int 1), some (.int a), some (.int b), none, none] (h ++ [.lst [.str "add", .str "addi", .str "sub", .str "mul"]] ++ [.lst [.str "slt", .str "slti", .str "sltu"]] ++ [.lst [.str "sh", .str "sa"]]) = .next [some (.str "andi"), some (.int a), some (.int b), some (.int (valL (shL a b))), w', x', y', k', z'] h' := for_run (rgc_run (n := 16) (by decide)) L
  refine ⟨h', ?_, Ext.trans (by (repeat (first | with_reducible exact Ext.refl | with_reducible apply Ext.app))) xt⟩
  apply call_ret f__law_reckon_eq rfl
  unfold b__law_reckon
  simp only [startE, List.map_cons, List.map_nil, List.length_cons, List.length_nil, List.cons_append, List.nil_append, Nat.zero_add, Nat.reduceAdd, Nat.reduceSub, List.replicate]
  repeat (first | (with_reducible first | exact s2 _ | exact F | exact c_run | exact nil_run | exact nils_run | exact no_run) | ((with_reducible apply var_run);exact rfl) | with_reducible apply IfR.f | ((with_reducible apply ThR.nx);(try simp only [List.set_cons_succ, List.set_cons_zero, setAll])) | ((with_reducible apply inN (k := false));exact rfl;exact rfl;decide) | (with_reducible first | apply m2_run | apply cons_run | apply tup_run | apply lst_run | apply bool_run | apply some_run | apply sl_run) | ((with_reducible refine lenP ?_);exact rfl) | (with_reducible first | apply rb_seq | apply rb_if | apply ret_run | exact UnpN.nil | apply UnpN.cons | apply rb_unp))
theorem lr_ori {a b : Int} (ha : Wd a) (hb : Wd b) (h : Hm) : ∃ h', f__law_reckon [.str "ori", .int a, .int b] h = .ok (.int (a + b - valL (shL a b))) h' ∧ Ext h h' := by
  have s2 : ∀ h : Hm, fSl (.str "ori") none (some 2) h = .ok (.str "or") h := fun _ => rfl
  have sl : ∀ h : Hm, fSl (.str "ori") none (some ((3 : Int) - 1)) h = .ok (.str "or") h := fun _ => rfl
  have ln : ∀ h : Hm, fLen [.str "ori"] h = .ok (.int 3) h := fun _ => rfl
  have T : ∀ (r w x y : Int) (k z : Option D) (h : Hm), ∃ z' h', l__law_reckon_1 [some (.str "ori"), some (.int a), some (.int b), some (.int r), some (.int w), some (.int x), some (.int y), k, z] h = .next [some (.str "ori"), some (.int a), some (.int b), some (.int (r + (fun u v => if v > u then v else u) (x % 2) (y % 2) * w)), some (.int (w * 2)), some (.int (x / 2)), some (.int (y / 2)), k, z'] h' ∧ Ext h h' := by
    intro r w x y k z h
    simp only
    have mu : ∀ h : Hm, fMul (.int (x % 2)) (.int (y % 2)) h = .ok (.int (x % 2 * (y % 2))) h := fun _ => mul_l ⟨by omega, by omega⟩
    have bd : -1000000 < (if y % 2 > x % 2 then y % 2 else x % 2 : Int) ∧ (if y % 2 > x % 2 then y % 2 else x % 2 : Int) < 1000000 := by
      rcases (show x % 2 = 0 ∨ x % 2 = 1 by omega) with e | e <;> rcases (show y % 2 = 0 ∨ y % 2 = 1 by omega) with e' | e' <;> first | (rw [e, e']; decide) | omega
    have mw : ∀ h : Hm, fMul (.int (if y % 2 > x % 2 then y % 2 else x % 2)) (.int w) h = .ok (.int ((if y % 2 > x % 2 then y % 2 else x % 2) * w)) h := fun _ => mul_l bd
    refine ⟨some (.int (if y % 2 > x % 2 then y % 2 else x % 2)), ?_⟩
    have c5 : ∀ h : Hm, t__law_reckon_5 [some (.str "ori"), some (.int a), some (.int b), some (.int r), some (.int w), some (.int x), some (.int y), k, some (.int (if y % 2 > x % 2 then y % 2 else x % 2))] h = .next [some (.str "ori"), some (.int a), some (.int b), some (.int (r + (if y % 2 > x % 2 then y % 2 else x % 2) * w)), some (.int (w * 2)), some (.int (x / 2)), some (.int (y / 2)), k, some (.int (if y % 2 > x % 2 then y % 2 else x % 2))] h := fun h => by
      refine (rb_unp (is := [3, 4, 5, 6]) (ds := [.int (r + (if y % 2 > x % 2 then y % 2 else x % 2) * w), .int (w * 2), .int (x / 2), .int (y / 2)]) ?_ rfl (.cons (.cons (.cons (.cons .nil)))) rfl).trans rfl
      repeat (first | (with_reducible first | exact mw _ | exact c_run | exact nil_run) | ((with_reducible apply var_run);exact rfl) | with_reducible exact fAdd_i | ((with_reducible refine div_p ?_ ?_);omega;omega) | ((with_reducible refine mul_r ?_);omega) | (with_reducible first | apply m2_run | apply cons_run | apply tup_run))
    (apply Exists.intro; apply And.intro)
    · unfold l__law_reckon_1
      repeat (first | (with_reducible first | exact c5 _ | exact mu _ | exact sl _ | exact ln _ | exact c_run | exact nil_run | exact no_run | exact rb_ps0) | ((with_reducible apply var_run);exact rfl) | with_reducible apply IfR.f | ((with_reducible apply ThR.nx);(try simp only [List.set_cons_succ, List.set_cons_zero, setAll])) | (with_reducible first | exact fAdd_i | exact fSub_i) | ((with_reducible apply fIx_dic);(first | exact get_new | exact keep_app get_new);exact rfl) | ((with_reducible apply keP);exact rfl) | ((with_reducible apply le15);exact rfl) | with_reducible exact fMax2_i | ((with_reducible apply inN (k := false));exact rfl;exact rfl;decide) | ((with_reducible refine mod_p ?_);omega) | (with_reducible first | apply m2_run | apply cons_run | apply lst_run | apply bool_run | apply rb_ifE | apply some_run | apply sl_run | apply call_run | apply rb_seq | apply rb_asg) | ((with_reducible apply envP);exact rfl) | (with_reducible first | apply rb_disp | apply rb_ps))
    · (repeat (first | with_reducible exact Ext.refl | with_reducible apply Ext.app))
  obtain ⟨w', x', y', k', z', h', L, xt⟩ := lb_loop (F := fun u v => if v > u then v else u) T ((List.range 16).map (fun k : Nat => D.int (0 + (k : Int)))) 0 1 a b none none (h ++ [.lst [.str "add", .str "addi", .str "sub", .str "mul"]] ++ [.lst [.str "slt", .str "slti", .str "sltu"]] ++ [.lst [.str "sh", .str "sa"]])
  rw [List.length_map, List.length_range, lp_or ha hb] at L
  have F : p__law_reckon_4 [some (.str "ori"), some (.int a), some (.int b), some (.int 0), some (.int 1), some (.int a), some (.int b), none, none] (h ++ [.lst [.str "add", .str "addi", .str "sub", .str "mul"]] ++ [.lst [.str "slt", .str "slti", .str "sltu"]] ++ [.lst [.str "sh", .str "sa"]]) = .next [some (.str "ori"), some (.int a), some (.int b), some (.int (a + b - valL (shL a b))), w', x', y', k', z'] h' := for_run (rgc_run (n := 16) (by decide)) L
  refine ⟨h', ?_, Ext.trans (by (repeat (first | with_reducible exact Ext.refl | with_reducible apply Ext.app))) xt⟩
  apply call_ret f__law_reckon_eq rfl
  unfold b__law_reckon
  simp only [startE, List.map_cons, List.map_nil, List.length_cons, List.length_nil, List.cons_append, List.nil_append, Nat.zero_add, Nat.reduceAdd, Nat.reduceSub, List.replicate]
  repeat (first | (with_reducible first | exact s2 _ | exact F | exact c_run | exact nil_run | exact nils_run | exact no_run) | ((with_reducible apply var_run);exact rfl) | with_reducible apply IfR.f | ((with_reducible apply ThR.nx);(try simp only [List.set_cons_succ, List.set_cons_zero, setAll])) | ((with_reducible apply inN (k := false));exact rfl;exact rfl;decide) | (with_reducible first | apply m2_run | apply cons_run | apply tup_run | apply lst_run | apply bool_run | apply some_run | apply sl_run) | ((with_reducible refine lenP ?_);exact rfl) | (with_reducible first | apply rb_seq | apply rb_if | apply ret_run | exact UnpN.nil | apply UnpN.cons | apply rb_unp))
theorem lr_xori {a b : Int} (ha : Wd a) (hb : Wd b) (h : Hm) : ∃ h', f__law_reckon [.str "xori", .int a, .int b] h = .ok (.int (a + b - 2 * valL (shL a b))) h' ∧ Ext h h' := by
  have s2 : ∀ h : Hm, fSl (.str "xori") none (some 2) h = .ok (.str "xo") h := fun _ => rfl
  have sl : ∀ h : Hm, fSl (.str "xori") none (some ((4 : Int) - 1)) h = .ok (.str "xor") h := fun _ => rfl
  have ln : ∀ h : Hm, fLen [.str "xori"] h = .ok (.int 4) h := fun _ => rfl
  have T : ∀ (r w x y : Int) (k z : Option D) (h : Hm), ∃ z' h', l__law_reckon_1 [some (.str "xori"), some (.int a), some (.int b), some (.int r), some (.int w), some (.int x), some (.int y), k, z] h = .next [some (.str "xori"), some (.int a), some (.int b), some (.int (r + (fun u v => (u + v) % 2) (x % 2) (y % 2) * w)), some (.int (w * 2)), some (.int (x / 2)), some (.int (y / 2)), k, z'] h' ∧ Ext h h' := by
    intro r w x y k z h
    simp only
    rw [show (x % 2 + y % 2) % 2 = (x + y) % 2 by omega]
    have mu : ∀ h : Hm, fMul (.int (x % 2)) (.int (y % 2)) h = .ok (.int (x % 2 * (y % 2))) h := fun _ => mul_l ⟨by omega, by omega⟩
    have bd : -1000000 < ((x + y) % 2 : Int) ∧ ((x + y) % 2 : Int) < 1000000 := by
      rcases (show x % 2 = 0 ∨ x % 2 = 1 by omega) with e | e <;> rcases (show y % 2 = 0 ∨ y % 2 = 1 by omega) with e' | e' <;> first | (rw [e, e']; decide) | omega
    have mw : ∀ h : Hm, fMul (.int ((x + y) % 2)) (.int w) h = .ok (.int (((x + y) % 2) * w)) h := fun _ => mul_l bd
    refine ⟨some (.int ((x + y) % 2)), ?_⟩
    have c5 : ∀ h : Hm, t__law_reckon_5 [some (.str "xori"), some (.int a), some (.int b), some (.int r), some (.int w), some (.int x), some (.int y), k, some (.int ((x + y) % 2))] h = .next [some (.str "xori"), some (.int a), some (.int b), some (.int (r + ((x + y) % 2) * w)), some (.int (w * 2)), some (.int (x / 2)), some (.int (y / 2)), k, some (.int ((x + y) % 2))] h := fun h => by
      refine (rb_unp (is := [3, 4, 5, 6]) (ds := [.int (r + ((x + y) % 2) * w), .int (w * 2), .int (x / 2), .int (y / 2)]) ?_ rfl (.cons (.cons (.cons (.cons .nil)))) rfl).trans rfl
      repeat (first | (with_reducible first | exact mw _ | exact c_run | exact nil_run) | ((with_reducible apply var_run);exact rfl) | with_reducible exact fAdd_i | ((with_reducible refine div_p ?_ ?_);omega;omega) | ((with_reducible refine mul_r ?_);omega) | (with_reducible first | apply m2_run | apply cons_run | apply tup_run))
    (apply Exists.intro; apply And.intro)
    · unfold l__law_reckon_1
      repeat (first | (with_reducible first | exact c5 _ | exact mu _ | exact sl _ | exact ln _ | exact c_run | exact nil_run | exact no_run | exact rb_ps0) | ((with_reducible apply var_run);exact rfl) | with_reducible apply IfR.f | ((with_reducible apply ThR.nx);(try simp only [List.set_cons_succ, List.set_cons_zero, setAll])) | (with_reducible first | exact fAdd_i | exact fSub_i) | ((with_reducible apply fIx_dic);(first | exact get_new | exact keep_app get_new);exact rfl) | ((with_reducible apply keP);exact rfl) | ((with_reducible apply le15);exact rfl) | with_reducible exact fMax2_i | ((with_reducible apply inN (k := false));exact rfl;exact rfl;decide) | ((with_reducible refine mod_p ?_);omega) | (with_reducible first | apply m2_run | apply cons_run | apply lst_run | apply bool_run | apply rb_ifE | apply some_run | apply sl_run | apply call_run | apply rb_seq | apply rb_asg) | ((with_reducible apply envP);exact rfl) | (with_reducible first | apply rb_disp | apply rb_ps))
    · (repeat (first | with_reducible exact Ext.refl | with_reducible apply Ext.app))
  obtain ⟨w', x', y', k', z', h', L, xt⟩ := lb_loop (F := fun u v => (u + v) % 2) T ((List.range 16).map (fun k : Nat => D.int (0 + (k : Int)))) 0 1 a b none none (h ++ [.lst [.str "add", .str "addi", .str "sub", .str "mul"]] ++ [.lst [.str "slt", .str "slti", .str "sltu"]] ++ [.lst [.str "sh", .str "sa"]])
  rw [List.length_map, List.length_range, lp_xor ha hb] at L
  have F : p__law_reckon_4 [some (.str "xori"), some (.int a), some (.int b), some (.int 0), some (.int 1), some (.int a), some (.int b), none, none] (h ++ [.lst [.str "add", .str "addi", .str "sub", .str "mul"]] ++ [.lst [.str "slt", .str "slti", .str "sltu"]] ++ [.lst [.str "sh", .str "sa"]]) = .next [some (.str "xori"), some (.int a), some (.int b), some (.int (a + b - 2 * valL (shL a b))), w', x', y', k', z'] h' := for_run (rgc_run (n := 16) (by decide)) L
  refine ⟨h', ?_, Ext.trans (by (repeat (first | with_reducible exact Ext.refl | with_reducible apply Ext.app))) xt⟩
  apply call_ret f__law_reckon_eq rfl
  unfold b__law_reckon
  simp only [startE, List.map_cons, List.map_nil, List.length_cons, List.length_nil, List.cons_append, List.nil_append, Nat.zero_add, Nat.reduceAdd, Nat.reduceSub, List.replicate]
  repeat (first | (with_reducible first | exact s2 _ | exact F | exact c_run | exact nil_run | exact nils_run | exact no_run) | ((with_reducible apply var_run);exact rfl) | with_reducible apply IfR.f | ((with_reducible apply ThR.nx);(try simp only [List.set_cons_succ, List.set_cons_zero, setAll])) | ((with_reducible apply inN (k := false));exact rfl;exact rfl;decide) | (with_reducible first | apply m2_run | apply cons_run | apply tup_run | apply lst_run | apply bool_run | apply some_run | apply sl_run) | ((with_reducible refine lenP ?_);exact rfl) | (with_reducible first | apply rb_seq | apply rb_if | apply ret_run | exact UnpN.nil | apply UnpN.cons | apply rb_unp))
theorem lreck_run {n : Str} (hn : n ∈ N3 ∨ n ∈ N2) {a b : Int} (ha : Wd a) (hb : Wd b) (h : Hm) : ∃ h', f__law_reckon [.str n, .int a, .int b] h = .ok (.int (rck n a b)) h' ∧ Ext h h' := by
  rcases hn with hn | hn
  · exact n3_ind (P := fun n => ∃ h', f__law_reckon [.str n, .int a, .int b] h = .ok (.int (rck n a b)) h' ∧ Ext h h') (lr_add ha hb h) (lr_sub ha hb h) (lr_mul ha hb h) (lr_and ha hb h) (lr_or ha hb h) (lr_xor ha hb h) (lr_shl ha hb h) (lr_shr ha hb h) (lr_sar ha hb h) (lr_slt ha hb h) (lr_sltu ha hb h) hn
  · exact n2_ind (P := fun n => ∃ h', f__law_reckon [.str n, .int a, .int b] h = .ok (.int (rck n a b)) h' ∧ Ext h h') (lr_addi ha hb h) (lr_andi ha hb h) (lr_ori ha hb h) (lr_xori ha hb h) (lr_shli ha hb h) (lr_slti ha hb h) hn
end K03
end MM
namespace MM
namespace K03
open PySem L2
/-- the law's own state -/
def lwL (R M Q I : Nat) (m : Ms) : List D := [.int m.pl, .ref R, .ref M, .ref Q, .ref I, .int m.ca, .int m.bk, oi m.hd, m.en.d]
structure LwH (h : Hm) (L R M Q I : Nat) (m : Ms) : Prop where
  hL : h[L]? = some (.lst (lwL R M Q I m))
  hR : h[R]? = some (.lst (m.rg.map D.int))
  hM : h[M]? = some (.lst (m.me.map D.int))
  hQ : h[Q]? = some (.lst (m.ou.map D.int))
  hI : h[I]? = some (.lst (m.ic.map D.int))
  nR : R ≠ L
  nM : M ≠ L
  nRM : M ≠ R
  nQ : Q ≠ L ∧ Q ≠ R ∧ Q ≠ M
  nI : I ≠ L ∧ I ≠ R ∧ I ≠ M
section
variable {h h' : Hm} {L R M Q I : Nat} {m m' : Ms}
theorem LwH.setL (s : LwH h L R M Q I m) (e1 : m'.rg = m.rg) (e2 : m'.me = m.me) (e3 : m'.ou = m.ou) (e4 : m'.ic = m.ic) : LwH (h.set L (.lst (lwL R M Q I m'))) L R M Q I m' :=
  ⟨set_get s.hL, by rw [set_ne s.nR, e1]; exact s.hR, by rw [set_ne s.nM, e2]; exact s.hM, by rw [set_ne s.nQ.1, e3]; exact s.hQ, by rw [set_ne s.nI.1, e4]; exact s.hI, s.nR, s.nM, s.nRM, s.nQ, s.nI⟩
theorem LwH.setR (s : LwH h L R M Q I m) {l : List Int} : LwH (h.set R (.lst (l.map D.int))) L R M Q I { m with rg := l } :=
  ⟨by rw [set_ne (Ne.symm s.nR)]; exact s.hL, set_get s.hR, by rw [set_ne s.nRM]; exact s.hM, by rw [set_ne s.nQ.2.1]; exact s.hQ, by rw [set_ne s.nI.2.1]; exact s.hI, s.nR, s.nM, s.nRM, s.nQ, s.nI⟩
theorem LwH.setM (s : LwH h L R M Q I m) {l : List Int} : LwH (h.set M (.lst (l.map D.int))) L R M Q I { m with me := l } :=
  ⟨by rw [set_ne (Ne.symm s.nM)]; exact s.hL, by rw [set_ne (Ne.symm s.nRM)]; exact s.hR, set_get s.hM, by rw [set_ne s.nQ.2.2]; exact s.hQ, by rw [set_ne s.nI.2.2]; exact s.hI, s.nR, s.nM, s.nRM, s.nQ, s.nI⟩
theorem LwH.kl (s : LwH h L R M Q I m) {S : List Nat} (k : KL S h h') (n : ∀ x ∈ [L, R, M, Q, I], x ∉ S) : LwH h' L R M Q I m :=
  ⟨k.get s.hL (n _ (by simp)), k.get s.hR (n _ (by simp)), k.get s.hM (n _ (by simp)), k.get s.hQ (n _ (by simp)), k.get s.hI (n _ (by simp)), s.nR, s.nM, s.nRM, s.nQ, s.nI⟩
theorem LwH.app (s : LwH h L R M Q I m) {g : Hm} : LwH (h ++ g) L R M Q I m := s.kl (S := []) KL.app (fun _ _ z => by cases z)
theorem LwH.ext (s : LwH h L R M Q I m) (e : Ext h h') : LwH h' L R M Q I m := s.kl (S := []) e.kl (fun _ _ z => by cases z)
theorem LwH.lt (s : LwH h L R M Q I m) : ∀ x ∈ [L, R, M, Q, I], x < h.length := fun x hx => by
  simp only [List.mem_cons, List.not_mem_nil, or_false] at hx
  rcases hx with rfl | rfl | rfl | rfl | rfl
  · exact get_lt s.hL
  · exact get_lt s.hR
  · exact get_lt s.hM
  · exact get_lt s.hQ
  · exact get_lt s.hI
/-- a new list of what went out, of what is to come in -/
theorem LwH.newQ (s : LwH h L R M Q I m) {Q' : Nat} {l : List Int} (e : h[Q']? = some (.lst (l.map D.int))) (n : Q' ≠ L ∧ Q' ≠ R ∧ Q' ≠ M) : LwH (h.set L (.lst (lwL R M Q' I { m with ou := l }))) L R M Q' I { m with ou := l } :=
  ⟨set_get s.hL, by rw [set_ne s.nR]; exact s.hR, by rw [set_ne s.nM]; exact s.hM, by rw [set_ne n.1]; exact e, by rw [set_ne s.nI.1]; exact s.hI, s.nR, s.nM, s.nRM, n, s.nI⟩
theorem LwH.newI (s : LwH h L R M Q I m) {I' : Nat} {l : List Int} (e : h[I']? = some (.lst (l.map D.int))) (n : I' ≠ L ∧ I' ≠ R ∧ I' ≠ M) : LwH (h.set L (.lst (lwL R M Q I' { m with ic := l }))) L R M Q I' { m with ic := l } :=
  ⟨set_get s.hL, by rw [set_ne s.nR]; exact s.hR, by rw [set_ne s.nM]; exact s.hM, by rw [set_ne s.nQ.1]; exact s.hQ, by rw [set_ne n.1]; exact e, s.nR, s.nM, s.nRM, s.nQ, n⟩
/-- cells of the state -/
theorem lw_ix {j : Nat} {d : D} (hL : h[L]? = some (.lst (lwL R M Q I m))) (e : (lwL R M Q I m)[j]? = some d) : fIx (.ref L) (.int (j : Int)) h = .ok d h := fIx_lst hL e
theorem lw_set {j : Nat} {d : D} (hL : h[L]? = some (.lst (lwL R M Q I m))) (hj : j < 9) : fSet (.ref L) (.int (j : Int)) d h = some (h.set L (.lst ((lwL R M Q I m).set j d))) := fSet_lst hL (by simpa [lwL] using hj)
/-- state[0], .. -/
theorem l0 (s : LwH h L R M Q I m) : fIx (.ref L) (.int 0) h = .ok (.int m.pl) h := lw_ix (j := 0) s.hL rfl
theorem l1 (s : LwH h L R M Q I m) : fIx (.ref L) (.int 1) h = .ok (.ref R) h := lw_ix (j := 1) s.hL rfl
theorem l2 (s : LwH h L R M Q I m) : fIx (.ref L) (.int 2) h = .ok (.ref M) h := lw_ix (j := 2) s.hL rfl
theorem l3 (s : LwH h L R M Q I m) : fIx (.ref L) (.int 3) h = .ok (.ref Q) h := lw_ix (j := 3) s.hL rfl
theorem l4 (s : LwH h L R M Q I m) : fIx (.ref L) (.int 4) h = .ok (.ref I) h := lw_ix (j := 4) s.hL rfl
theorem l5 (s : LwH h L R M Q I m) : fIx (.ref L) (.int 5) h = .ok (.int m.ca) h := lw_ix (j := 5) s.hL rfl
theorem l6 (s : LwH h L R M Q I m) : fIx (.ref L) (.int 6) h = .ok (.int m.bk) h := lw_ix (j := 6) s.hL rfl
theorem l7 (s : LwH h L R M Q I m) : fIx (.ref L) (.int 7) h = .ok (oi m.hd) h := lw_ix (j := 7) s.hL rfl
theorem l8 (s : LwH h L R M Q I m) : fIx (.ref L) (.int 8) h = .ok m.en.d h := lw_ix (j := 8) s.hL rfl
theorem p0 (s : LwH h L R M Q I m) (z : Int) : fSet (.ref L) (.int 0) (.int z) h = some (h.set L (.lst (lwL R M Q I { m with pl := z }))) := (lw_set (m := m) (j := 0) s.hL (by decide)).trans rfl
theorem p5 (s : LwH h L R M Q I m) (z : Int) : fSet (.ref L) (.int 5) (.int z) h = some (h.set L (.lst (lwL R M Q I { m with ca := z }))) := (lw_set (m := m) (j := 5) s.hL (by decide)).trans rfl
theorem p6 (s : LwH h L R M Q I m) (z : Int) : fSet (.ref L) (.int 6) (.int z) h = some (h.set L (.lst (lwL R M Q I { m with bk := z }))) := (lw_set (m := m) (j := 6) s.hL (by decide)).trans rfl
theorem p7 (s : LwH h L R M Q I m) (z : Int) : fSet (.ref L) (.int 7) (.int z) h = some (h.set L (.lst (lwL R M Q I { m with hd := some z }))) := (lw_set (m := m) (j := 7) s.hL (by decide)).trans rfl
theorem p8 (s : LwH h L R M Q I m) (z : En) : fSet (.ref L) (.int 8) z.d h = some (h.set L (.lst (lwL R M Q I { m with en := z }))) := (lw_set (m := m) (j := 8) s.hL (by decide)).trans rfl
theorem p3 (s : LwH h L R M Q I m) (Q' : Nat) (l : List Int) : fSet (.ref L) (.int 3) (.ref Q') h = some (h.set L (.lst (lwL R M Q' I { m with ou := l }))) := (lw_set (m := m) (j := 3) s.hL (by decide)).trans rfl
theorem p4 (s : LwH h L R M Q I m) (I' : Nat) (l : List Int) : fSet (.ref L) (.int 4) (.ref I') h = some (h.set L (.lst (lwL R M Q I' { m with ic := l }))) := (lw_set (m := m) (j := 4) s.hL (by decide)).trans rfl
/-- targets of an unpacked pair -/
theorem un2 {a b : Gt} {ma : Ev → Hm → MM.R D} {x y : D} {env e1 e2 : Ev} {g g1 g2 : Hm} (e : ma env h = .ok (.tup [x, y]) g) (ea : a x env g = .next e1 g1) (eb : b y e1 g1 = .next e2 g2) : sAsg (gU 2 (gsCons a (gsCons b gsNil))) ma env h = .next e2 g2 := by
  rw [run_asg, e, bindS_ok]
  have : gU 2 (gsCons a (gsCons b gsNil)) (.tup [x, y]) env g = .next e2 g2 := by
    show (a x env g).then (fun e h => (b y e h).then (gsNil [])) = _
    rw [ea, then_next]
    show (b y e1 g1).then (gsNil []) = _
    rw [eb, then_next]
    rfl
  rw [this]
  rfl
theorem gsub {mo mi : Ev → Hm → MM.R D} {d x y : D} {env : Ev} {g g1 g2 g3 : Hm} (eo : mo env g = .ok x g1) (ei : mi env g1 = .ok y g2) (es : fSet x y d g2 = some g3) : gSubM mo mi d env g = .next env g3 := by
  rw [run_subM, eo, bindS_ok, ei, bindS_ok]
  simp only [es]
theorem lfault_run (s : LwH h L R M Q I m) (c : Int) : ∃ h', f__law_fault [.ref L, .int c] h = .ok .non h' ∧ LwH h' L R M Q I (m.fault c) ∧ KL [L] h h' := by
  have s1 : LwH _ L R M Q I { m with ca := c } := s.setL rfl rfl rfl rfl
  have s2 : LwH _ L R M Q I { m with ca := c, bk := m.pl } := s1.setL rfl rfl rfl rfl
  have u : sAsg (gU 2 (gsCons (gSubM (mVar 0) (mC (.int 5))) (gsCons (gSubM (mVar 0) (mC (.int 6))) gsNil))) (mTup (mCons (mVar 1) (mCons (m2 fIx (mVar 0) (mC (.int 0))) mNil))) [some (.ref L), some (.int c)] h = .next [some (.ref L), some (.int c)] ((h.set L (.lst (lwL R M Q I { m with ca := c }))).set L (.lst (lwL R M Q I { m with ca := c, bk := m.pl }))) :=
    un2 (by repeat (first | (with_reducible first | exact l0 s | exact c_run | exact nil_run) | ((with_reducible apply var_run);exact rfl) | (with_reducible first | apply m2_run | apply cons_run | apply tup_run))) (gsub rfl rfl (p5 s c)) (gsub rfl rfl (p6 s1 m.pl))
  cases e : m.hd with
  | none =>
    rw [Ms.fault_none e]
    have s3 : LwH _ L R M Q I { m with ca := c, bk := m.pl, en := .fault c m.pl } := s2.setL rfl rfl rfl rfl
    refine ⟨_, ?_, s3, ((KL.set (by simp)).trans (KL.set (by simp))).trans (KL.set (by simp))⟩
    have z : fIs false (oi m.hd) .non ((h.set L (.lst (lwL R M Q I { m with ca := c }))).set L (.lst (lwL R M Q I { m with ca := c, bk := m.pl }))) = .ok (.bl true) ((h.set L (.lst (lwL R M Q I { m with ca := c }))).set L (.lst (lwL R M Q I { m with ca := c, bk := m.pl }))) := by rw [e, fIs_n]; rfl
    apply call_next f__law_fault_eq rfl
    unfold b__law_fault
    simp only [startE, List.map_cons, List.map_nil, List.length_cons, List.length_nil, List.cons_append, List.nil_append, Nat.zero_add, Nat.reduceAdd, Nat.reduceSub, List.replicate]
    have w := p8 s2 (.fault c m.pl)
    have w' : fSet (.ref L) (.int 8) (.tup [.str "fault", .int c, .int m.pl]) ((h.set L (.lst (lwL R M Q I { m with ca := c }))).set L (.lst (lwL R M Q I { m with ca := c, bk := m.pl }))) = some _ := w
    have i7 := l7 s2
    have i0 := l0 s2
    repeat (first | (with_reducible first | exact u | exact i7 | exact z | exact i0 | exact w' | exact c_run | exact nil_run) | ((with_reducible apply var_run);exact rfl) | with_reducible apply IfR.t | ((with_reducible apply ThR.nx);(try simp only [List.set_cons_succ, List.set_cons_zero, setAll])) | (with_reducible first | apply m2_run | apply cons_run | apply tup_run | apply bool_run | apply rb_seq | apply rb_if | apply sub_run))
  | some t =>
    rw [Ms.fault_some e]
    have s3 : LwH _ L R M Q I { m with ca := c, bk := m.pl, pl := t } := s2.setL rfl rfl rfl rfl
    refine ⟨_, ?_, s3, ((KL.set (by simp)).trans (KL.set (by simp))).trans (KL.set (by simp))⟩
    have z : fIs false (oi m.hd) .non ((h.set L (.lst (lwL R M Q I { m with ca := c }))).set L (.lst (lwL R M Q I { m with ca := c, bk := m.pl }))) = .ok (.bl false) ((h.set L (.lst (lwL R M Q I { m with ca := c }))).set L (.lst (lwL R M Q I { m with ca := c, bk := m.pl }))) := by rw [e, fIs_n]; rfl
    apply call_next f__law_fault_eq rfl
    unfold b__law_fault
    simp only [startE, List.map_cons, List.map_nil, List.length_cons, List.length_nil, List.cons_append, List.nil_append, Nat.zero_add, Nat.reduceAdd, Nat.reduceSub, List.replicate]
    have w' := p0 s2 t
    have ot : D.int t = oi m.hd := by rw [e]; rfl
    rw [ot] at w'
    have i7 := l7 s2
    repeat (first | (with_reducible first | exact u | exact i7 | exact z | exact w' | exact c_run) | ((with_reducible apply var_run);exact rfl) | with_reducible apply IfR.f | ((with_reducible apply ThR.nx);(try simp only [List.set_cons_succ, List.set_cons_zero, setAll])) | (with_reducible first | apply m2_run | apply bool_run | apply rb_seq | apply rb_if | apply sub_run))
/-- a load, a store of the law's -/
theorem lmem_out (s : LwH h L R M Q I m) (o : D) (a : Int) (ha : 256 ≤ a) : ∃ h', f__law_memory [.ref L, o, .int a] h = .ok .non h' ∧ LwH h' L R M Q I (m.fault 1) ∧ KL [L] h h' := by
  obtain ⟨h1, r1, s1, k1⟩ := lfault_run s 1
  refine ⟨h1, ?_, s1, k1⟩
  apply call_next f__law_memory_eq rfl
  unfold b__law_memory
  simp only [startE, List.map_cons, List.map_nil, List.length_cons, List.length_nil, List.cons_append, List.nil_append, Nat.zero_add, Nat.reduceAdd, Nat.reduceSub, List.replicate]
  repeat (first | (with_reducible first | exact r1 | exact c_run | exact nil_run) | ((with_reducible apply var_run);exact rfl) | with_reducible apply IfR.t | ((with_reducible refine gt_t ?_);omega) | (with_reducible first | apply m2_run | apply cons_run | apply bool_run | apply rb_callF) | ((with_reducible refine lenP ?_);exact rfl) | (with_reducible first | apply rb_if | apply drop_run))
theorem rset (e : h[R]? = some (.lst (m.rg.map D.int))) (k8 : m.rg.length = 8) {c : Int} (w : Int) (c0 : 0 ≤ c) (c1 : c < 8) : fSet (.ref R) (.int c) (.int w) h = some (h.set R (.lst ((m.rg.set c.toNat w).map D.int))) := by
  rw [List.map_set]
  exact fSet_int e c0 (by rw [List.length_map]; omega)
/-- a word for a register, the next place -/
theorem lput (s : LwH h L R M Q I m) (k8 : m.rg.length = 8) {d : Int} (kd : Od.Rg d) (w t : Int) {env : Ev} {od : D} (e1 : fIx od (.int 1) h = .ok (.int d) h) (g1 : ∀ h : Hm, mVar 1 env h = .ok od h) (e3 : ∀ h : Hm, mVar 3 env h = .ok (.int w) h) (e0 : ∀ h : Hm, mVar 0 env h = .ok (.ref L) h) (ht : t = m.pl + 1) : ∃ h', (sSeq (sIf (mBool (m2 fNe (m2 fIx (mVar 1) (mC (.int 1))) (mC (.int 0))))
  (sAsg (gSubM (m2 fIx (mVar 0) (mC (.int 1))) (m2 fIx (mVar 1) (mC (.int 1)))) (mVar 3))
  sNil)
  (sAsg (gSubM (mVar 0) (mC (.int 0))) (m2 fAdd (m2 fIx (mVar 0) (mC (.int 0))) (mC (.int 1))))) env h = .next env h' ∧ LwH h' L R M Q I { m with rg := putR m.rg d w, pl := t } ∧ KL [L, R] h h' := by
  subst ht
  obtain ⟨c0, c1⟩ := kd
  unfold putR
  by_cases z : d = 0
  · rw [if_pos z]
    have s1 : LwH _ L R M Q I { m with pl := m.pl + 1 } := s.setL rfl rfl rfl rfl
    refine ⟨_, ?_, s1, KL.set (by simp)⟩
    have x0 := l0 s
    have y0 := p0 s (m.pl + 1)
    repeat (first | (with_reducible first | exact g1 _ | exact e0 _ | exact e1 | exact x0 | exact y0 | exact c_run | exact nils_run | apply IfR.f) | ((with_reducible apply ThR.nx);(try simp only [List.set_cons_succ, List.set_cons_zero, setAll])) | with_reducible exact fAdd_i | ((with_reducible refine ne_f ?_);omega) | (with_reducible first | apply m2_run | apply bool_run | apply rb_seq | apply rb_if | apply sub_run))
  · rw [if_neg z]
    have s1 := s.setR (l := m.rg.set d.toNat w)
    have s2 : LwH _ L R M Q I { m with rg := m.rg.set d.toNat w, pl := m.pl + 1 } := s1.setL rfl rfl rfl rfl
    refine ⟨_, ?_, s2, (KL.set (by simp)).trans (KL.set (by simp))⟩
    have x1 := l1 s
    have x0 := l0 s1
    have y0 := p0 s1 (m.pl + 1)
    have y1 := rset s.hR k8 w c0 c1
    repeat (first | (with_reducible first | exact g1 _ | exact e3 _ | exact e0 _ | exact e1 | exact x0 | exact x1 | exact y0 | exact y1 | exact c_run | apply IfR.t) | ((with_reducible apply ThR.nx);(try simp only [List.set_cons_succ, List.set_cons_zero, setAll])) | with_reducible exact fAdd_i | ((with_reducible refine ne_t ?_);omega) | (with_reducible first | apply m2_run | apply bool_run | apply rb_seq | apply rb_if | apply sub_run))
theorem lmem_load (s : LwH h L R M Q I m) (mo : m.ok) (ki : m.ic.length ≤ 1000) {d x y a : Int} (kd : Od.Rg d) (a0 : 0 ≤ a) (a1 : a < 256) : ∃ I' h', f__law_memory [.ref L, (Od.lw d x y).d, .int a] h = .ok .non h' ∧ LwH h' L R M Q I' (m.dd (.lw d x y) (m.pl + 1) 0 (.load a)) ∧ KL [L, R] h h' ∧ (I' = I ∨ h.length ≤ I') := by
  have q0 : ∀ h : Hm, fIx (Od.lw d x y).d (.int 0) h = .ok (.str "lw") h := fun _ => rfl
  have q1 : ∀ h : Hm, fIx (Od.lw d x y).d (.int 1) h = .ok (.int d) h := fun _ => rfl
  have x2 := l2 s
  have rm := rg_ix s.hM a0 (by rw [mo.m256]; exact a1)
  have nge : ¬ 256 ≤ a := by omega
  simp only [Ms.dd]
  by_cases c : a = 254
  · rw [if_pos c]
    -- the lists of what is to come in
    have s1 := s.app (g := [.lst [.int 0]])
    have g1 := get_new (h := h) (o := O.lst [D.int 0])
    have ad : fAdd (.ref I) (.ref h.length) (h ++ [.lst [.int 0]]) = .ok (.ref (h ++ [O.lst [D.int 0]]).length) (h ++ [.lst [.int 0]] ++ [.lst (m.ic.map D.int ++ [.int 0])]) := add_l s1.hI g1 (by simp; omega)
    have s2 := s1.app (g := [.lst (m.ic.map D.int ++ [.int 0])])
    have g2 := get_new (h := h ++ [.lst [.int 0]]) (o := O.lst (m.ic.map D.int ++ [.int 0]))
    have hd : fIx (.ref (h ++ [O.lst [D.int 0]]).length) (.int 0) (h ++ [.lst [.int 0]] ++ [.lst (m.ic.map D.int ++ [.int 0])]) = .ok (.int (m.ic.headD 0)) (h ++ [.lst [.int 0]] ++ [.lst (m.ic.map D.int ++ [.int 0])]) := by
      refine fIx_lst (j := 0) g2 ?_
      cases m.ic <;> rfl
    obtain ⟨h3, q3⟩ : ∃ h3 : Hm, h3 = h ++ [.lst [.int 0]] ++ [.lst (m.ic.map D.int ++ [.int 0])] := ⟨_, rfl⟩
    rw [← q3] at ad hd s2
    have sl : fSl (.ref I) (some 1) none h3 = .ok (.ref h3.length) (h3 ++ [.lst (m.ic.tail.map D.int)]) := by rw [fSl_lst s2.hI, cut1]
    have s3 := s2.app (g := [.lst (m.ic.tail.map D.int)])
    have g3 := get_new (h := h3) (o := O.lst (m.ic.tail.map D.int))
    have lt3 := s2.lt
    have s4 := s3.newI (l := m.ic.tail) g3 ⟨by have := lt3 L (by simp); omega, by have := lt3 R (by simp); omega, by have := lt3 M (by simp); omega⟩
    obtain ⟨h5, r5, s5, k5⟩ := lput s4 mo.r8 kd (m.ic.headD 0) (m.pl + 1) (env := [some (.ref L), some (Od.lw d x y).d, some (.int a), some (.int (m.ic.headD 0))]) (q1 _) (fun _ => rfl) (fun _ => rfl) (fun _ => rfl) rfl
    have k3 : KL [L, R] h h3 := by rw [q3]; exact KL.app.trans KL.app
    refine ⟨h3.length, h5, ?_, s5, ((k3.trans KL.app).trans (KL.set (by simp))).trans k5, .inr k3.1⟩
    have x4 := l4 s
    have x4' := l4 s2
    have y4 := p4 s3 h3.length m.ic.tail
    have e1 : mTup (mCons (m2 fIx (m2 fAdd (m2 fIx (mVar 0) (mC (.int 4))) (mLst (mCons (mC (.int 0)) mNil))) (mC (.int 0))) (mCons (mSl (m2 fIx (mVar 0) (mC (.int 4))) (mSome (mC (.int 1))) mNo) mNil)) [some (.ref L), some (Od.lw d x y).d, some (.int a), some (.int (rgA m.me a))] h = .ok (.tup [.int (m.ic.headD 0), .ref h3.length]) (h3 ++ [.lst (m.ic.tail.map D.int)]) := by
      repeat (first | (with_reducible first | exact x4 | exact ad | exact hd | exact x4' | exact sl | exact c_run | exact nil_run | exact no_run) | ((with_reducible apply var_run);exact rfl) | (with_reducible first | apply m2_run | apply cons_run | apply tup_run | apply lst_run | apply some_run | apply sl_run))
    have e2 := un2 (a := gN 3) (b := gSubM (mVar 0) (mC (.int 4))) (e1 := [some (.ref L), some (Od.lw d x y).d, some (.int a), some (.int (m.ic.headD 0))]) e1 rfl (gsub rfl rfl y4)
    apply call_next f__law_memory_eq rfl
    unfold b__law_memory
    simp only [startE, List.map_cons, List.map_nil, List.length_cons, List.length_nil, List.cons_append, List.nil_append, Nat.zero_add, Nat.reduceAdd, Nat.reduceSub, List.replicate]
    repeat (first | (with_reducible first | exact q0 _ | exact x2 | exact rm | exact e2 | exact r5 | exact c_run) | ((with_reducible apply var_run);exact rfl) | (with_reducible first | apply IfR.t | apply IfR.f) | ((with_reducible apply ThR.nx);(try simp only [List.set_cons_succ, List.set_cons_zero, setAll])) | ((with_reducible refine gt_f ?_);omega) | ((with_reducible refine eq_t ?_);omega) | ((with_reducible refine eqs_t ?_);decide) | (with_reducible first | apply m2_run | apply bool_run | apply rb_seq | apply rb_if | apply rb_asg) | ((with_reducible apply envP);exact rfl))
  · rw [if_neg c, if_neg nge]
    obtain ⟨h1, r1, s1, k1⟩ := lput s mo.r8 kd (rgA m.me a) (m.pl + 1) (env := [some (.ref L), some (Od.lw d x y).d, some (.int a), some (.int (rgA m.me a))]) (q1 h) (fun _ => rfl) (fun _ => rfl) (fun _ => rfl) rfl
    refine ⟨I, h1, ?_, s1, k1, .inl rfl⟩
    apply call_next f__law_memory_eq rfl
    unfold b__law_memory
    simp only [startE, List.map_cons, List.map_nil, List.length_cons, List.length_nil, List.cons_append, List.nil_append, Nat.zero_add, Nat.reduceAdd, Nat.reduceSub, List.replicate]
    repeat (first | (with_reducible first | exact q0 _ | exact x2 | exact rm | exact r1 | exact c_run | exact nils_run) | ((with_reducible apply var_run);exact rfl) | (with_reducible first | apply IfR.t | apply IfR.f) | ((with_reducible apply ThR.nx);(try simp only [List.set_cons_succ, List.set_cons_zero, setAll])) | ((with_reducible refine gt_f ?_);omega) | ((with_reducible refine eq_f ?_);omega) | ((with_reducible refine eqs_t ?_);decide) | (with_reducible first | apply m2_run | apply bool_run | apply rb_seq | apply rb_if | apply rb_asg) | ((with_reducible apply envP);exact rfl))
theorem lmem_store (s : LwH h L R M Q I m) (mo : m.ok) (ko : m.ou.length ≤ 1000) {d x y a : Int} (kd : Od.Rg d) (a0 : 0 ≤ a) (a1 : a < 256) : ∃ Q' h', f__law_memory [.ref L, (Od.sw d x y).d, .int a] h = .ok .non h' ∧ LwH h' L R M Q' I (m.dd (.sw d x y) (m.pl + 1) 0 (.store a (rgA m.rg d))) ∧ KL [L, M] h h' ∧ (Q' = Q ∨ h.length ≤ Q') := by
  have q0 : ∀ h : Hm, fIx (Od.sw d x y).d (.int 0) h = .ok (.str "sw") h := fun _ => rfl
  have q1 : ∀ h : Hm, fIx (Od.sw d x y).d (.int 1) h = .ok (.int d) h := fun _ => rfl
  have x1 := l1 s
  have rr := rg_ix s.hR kd.1 (by rw [mo.r8]; exact kd.2)
  have nge : ¬ 256 ≤ a := by omega
  simp only [Ms.dd]
  rw [if_neg nge]
  by_cases c : a = 255
  · rw [if_pos c]
    have s1 := s.app (g := [.lst [.int (rgA m.rg d)]])
    have g1 := get_new (h := h) (o := O.lst [D.int (rgA m.rg d)])
    have ad : fAdd (.ref Q) (.ref h.length) (h ++ [.lst [.int (rgA m.rg d)]]) = .ok (.ref (h ++ [O.lst [D.int (rgA m.rg d)]]).length) (h ++ [.lst [.int (rgA m.rg d)]] ++ [.lst ((m.ou ++ [rgA m.rg d]).map D.int)]) := by
      rw [List.map_append]
      exact add_l s1.hQ g1 (by simp; omega)
    have s2 := s1.app (g := [.lst ((m.ou ++ [rgA m.rg d]).map D.int)])
    have g2 := get_new (h := h ++ [.lst [.int (rgA m.rg d)]]) (o := O.lst ((m.ou ++ [rgA m.rg d]).map D.int))
    have lt2 := s1.lt
    obtain ⟨Q', q⟩ : ∃ Q', Q' = (h ++ [O.lst [D.int (rgA m.rg d)]]).length := ⟨_, rfl⟩
    rw [← q] at ad g2
    have s3 := s2.newQ (l := m.ou ++ [rgA m.rg d]) g2 ⟨by have := lt2 L (by simp); omega, by have := lt2 R (by simp); omega, by have := lt2 M (by simp); omega⟩
    have s4 : LwH _ L R M Q' I { m with ou := m.ou ++ [rgA m.rg d], pl := m.pl + 1 } := s3.setL rfl rfl rfl rfl
    refine ⟨Q', _, ?_, s4, ((KL.app.trans KL.app).trans (KL.set (by simp))).trans (KL.set (by simp)), .inr (by rw [q, List.length_append]; omega)⟩
    have x3 := l3 s
    have y3 := p3 s2 Q' (m.ou ++ [rgA m.rg d])
    have x0 := l0 s3
    have y0 := p0 s3 (m.pl + 1)
    apply call_next f__law_memory_eq rfl
    unfold b__law_memory
    simp only [startE, List.map_cons, List.map_nil, List.length_cons, List.length_nil, List.cons_append, List.nil_append, Nat.zero_add, Nat.reduceAdd, Nat.reduceSub, List.replicate]
    repeat (first | (with_reducible first | exact q0 _ | exact q1 _ | exact x1 | exact rr | exact x3 | exact ad | exact y3 | exact x0 | exact y0 | exact c_run | exact nil_run) | ((with_reducible apply var_run);exact rfl) | (with_reducible first | apply IfR.t | apply IfR.f) | ((with_reducible apply ThR.nx);(try simp only [List.set_cons_succ, List.set_cons_zero, setAll])) | with_reducible exact fAdd_i | ((with_reducible refine gt_f ?_);omega) | ((with_reducible refine eq_t ?_);omega) | ((with_reducible refine eqs_f ?_);decide) | (with_reducible first | apply m2_run | apply cons_run | apply lst_run | apply bool_run | apply rb_seq | apply rb_if | apply sub_run))
  · rw [if_neg c]
    by_cases c2 : a = 254
    · rw [if_pos c2]
      have s4 : LwH _ L R M Q I { m with pl := m.pl + 1 } := s.setL rfl rfl rfl rfl
      refine ⟨Q, _, ?_, s4, KL.set (by simp), .inl rfl⟩
      have x0 := l0 s
      have y0 := p0 s (m.pl + 1)
      apply call_next f__law_memory_eq rfl
      unfold b__law_memory
      simp only [startE, List.map_cons, List.map_nil, List.length_cons, List.length_nil, List.cons_append, List.nil_append, Nat.zero_add, Nat.reduceAdd, Nat.reduceSub, List.replicate]
      repeat (first | (with_reducible first | exact q0 _ | exact x0 | exact y0 | exact c_run | exact nils_run) | ((with_reducible apply var_run);exact rfl) | with_reducible apply IfR.f | ((with_reducible apply ThR.nx);(try simp only [List.set_cons_succ, List.set_cons_zero, setAll])) | with_reducible exact fAdd_i | ((with_reducible refine gt_f ?_);omega) | ((with_reducible refine eq_f ?_);omega) | ((with_reducible refine ne_f ?_);omega) | ((with_reducible refine eqs_f ?_);decide) | (with_reducible first | apply m2_run | apply bool_run | apply rb_seq | apply rb_if | apply sub_run))
    · rw [if_neg c2]
      have s1 := s.setM (l := m.me.set a.toNat (rgA m.rg d))
      have s4 : LwH _ L R M Q I { m with me := m.me.set a.toNat (rgA m.rg d), pl := m.pl + 1 } := s1.setL rfl rfl rfl rfl
      refine ⟨Q, _, ?_, s4, (KL.set (by simp)).trans (KL.set (by simp)), .inl rfl⟩
      have x2 := l2 s
      have x0 := l0 s1
      have y0 := p0 s1 (m.pl + 1)
      have ym : fSet (.ref M) (.int a) (.int (rgA m.rg d)) h = some (h.set M (.lst ((m.me.set a.toNat (rgA m.rg d)).map D.int))) := by
        rw [List.map_set]
        exact fSet_int s.hM a0 (by rw [List.length_map, mo.m256]; omega)
      apply call_next f__law_memory_eq rfl
      unfold b__law_memory
      simp only [startE, List.map_cons, List.map_nil, List.length_cons, List.length_nil, List.cons_append, List.nil_append, Nat.zero_add, Nat.reduceAdd, Nat.reduceSub, List.replicate]
      repeat (first | (with_reducible first | exact q0 _ | exact q1 _ | exact x1 | exact rr | exact x2 | exact ym | exact x0 | exact y0 | exact c_run) | ((with_reducible apply var_run);exact rfl) | (with_reducible first | apply IfR.t | apply IfR.f) | ((with_reducible apply ThR.nx);(try simp only [List.set_cons_succ, List.set_cons_zero, setAll])) | with_reducible exact fAdd_i | ((with_reducible refine gt_f ?_);omega) | ((with_reducible refine eq_f ?_);omega) | ((with_reducible refine ne_t ?_);omega) | ((with_reducible refine eqs_f ?_);decide) | (with_reducible first | apply m2_run | apply bool_run | apply rb_seq | apply rb_if | apply sub_run))
end
end K03
end MM
namespace MM
namespace K03
open PySem L2
structure QN (n : Str) (b : Bool) : Prop where
  h1 : n ≠ "halt"
  h2 : n ≠ "back"
  h3 : n ≠ "call"
  h4 : inF (.str n) [.str "lw", .str "sw"] = false
  h5 : inF (.str n) [.str "beq", .str "bne", .str "blt", .str "bge"] = b
  h6 : n ≠ "jal"
  h7 : n ≠ "jalr"
  h8 : inF (.str n) [.str "jal", .str "jalr"] = false
  h9 : n ≠ "lui"
theorem n3_q {n : Str} (hn : n ∈ N3) : QN n false := n3_ind (P := fun n => QN n false) ⟨by decide, by decide, by decide, by decide, by decide, by decide, by decide, by decide, by decide⟩ ⟨by decide, by decide, by decide, by decide, by decide, by decide, by decide, by decide, by decide⟩ ⟨by decide, by decide, by decide, by decide, by decide, by decide, by decide, by decide, by decide⟩ ⟨by decide, by decide, by decide, by decide, by decide, by decide, by decide, by decide, by decide⟩ ⟨by decide, by decide, by decide, by decide, by decide, by decide, by decide, by decide, by decide⟩ ⟨by decide, by decide, by decide, by decide, by decide, by decide, by decide, by decide, by decide⟩ ⟨by decide, by decide, by decide, by decide, by decide, by decide, by decide, by decide, by decide⟩ ⟨by decide, by decide, by decide, by decide, by decide, by decide, by decide, by decide, by decide⟩ ⟨by decide, by decide, by decide, by decide, by decide, by decide, by decide, by decide, by decide⟩ ⟨by decide, by decide, by decide, by decide, by decide, by decide, by decide, by decide, by decide⟩ ⟨by decide, by decide, by decide, by decide, by decide, by decide, by decide, by decide, by decide⟩ hn
theorem n2_q {n : Str} (hn : n ∈ N2) : QN n false := n2_ind (P := fun n => QN n false) ⟨by decide, by decide, by decide, by decide, by decide, by decide, by decide, by decide, by decide⟩ ⟨by decide, by decide, by decide, by decide, by decide, by decide, by decide, by decide, by decide⟩ ⟨by decide, by decide, by decide, by decide, by decide, by decide, by decide, by decide, by decide⟩ ⟨by decide, by decide, by decide, by decide, by decide, by decide, by decide, by decide, by decide⟩ ⟨by decide, by decide, by decide, by decide, by decide, by decide, by decide, by decide, by decide⟩ ⟨by decide, by decide, by decide, by decide, by decide, by decide, by decide, by decide, by decide⟩ hn
theorem nb_q {n : Str} (hn : n ∈ NB) : QN n true := nb_ind (P := fun n => QN n true) ⟨by decide, by decide, by decide, by decide, by decide, by decide, by decide, by decide, by decide⟩ ⟨by decide, by decide, by decide, by decide, by decide, by decide, by decide, by decide, by decide⟩ ⟨by decide, by decide, by decide, by decide, by decide, by decide, by decide, by decide, by decide⟩ ⟨by decide, by decide, by decide, by decide, by decide, by decide, by decide, by decide, by decide⟩ hn
section
variable {h h' : Hm} {L R M Q I : Nat} {m m' : Ms}
theorem LwH.ct (s : LwH h L R M Q I m) (z : Int) : LwH h L R M Q I { m with ct := z } := ⟨s.hL, s.hR, s.hM, s.hQ, s.hI, s.nR, s.nM, s.nRM, s.nQ, s.nI⟩
theorem lword_run {o : Od} (k : o.ok) (hR : h[R]? = some (.lst (m.rg.map D.int))) (mo : m.ok) {p w : Int} (e : o.effW p (wdA m.rg o) (wdB m.rg o) = some w) : ∃ h', f__law_word [o.d, .int p, .ref R] h = .ok (.int w) h' ∧ Ext h h' := by
  have J : ∀ (n : Str) (h : Hm), inF (.str n) [.str "jal", .str "jalr"] = false → fIn false (.str n) (.ref h.length) (h ++ [.lst [.str "jal", .str "jalr"]]) = .ok (.bl false) (h ++ [.lst [.str "jal", .str "jalr"]]) := fun n h z => inN rfl rfl (by rw [z]; rfl)
  cases o with
  | r3 n x y z =>
    obtain rfl := Option.some.inj e
    have q := n3_q k.1
    have iy := rg_ix (h := h ++ [.lst [.str "jal", .str "jalr"]]) (keep_app hR) k.2.2.1.1 (by rw [mo.r8]; exact k.2.2.1.2)
    have iz := rg_ix (h := h ++ [.lst [.str "jal", .str "jalr"]]) (keep_app hR) k.2.2.2.1 (by rw [mo.r8]; exact k.2.2.2.2)
    obtain ⟨h1, r1, x1⟩ := lreck_run (.inl k.1) (rgA_wd mo.rw y) (rgA_wd mo.rw z) (h ++ [.lst [.str "jal", .str "jalr"]])
    have sh : f_shape [.str n] (h ++ [.lst [.str "jal", .str "jalr"]]) = .ok (.str "rrr") (h ++ [.lst [.str "jal", .str "jalr"]]) := shape_run k _
    have r1' : f__law_reckon [.str n, .int (rgA m.rg y), .int (rgA m.rg z)] (h ++ [.lst [.str "jal", .str "jalr"]]) = .ok (.int (rck n (wdA m.rg (Od.r3 n x y z)) (wdB m.rg (Od.r3 n x y z)))) h1 := r1
    have j := J n h q.h8
    have lu : ∀ h : Hm, fEq (.str n) (.str "lui") h = .ok (.bl false) h := fun h => eqs_f q.h9
    refine ⟨h1, ?_, Ext.trans (by (repeat (first | with_reducible exact Ext.refl | with_reducible apply Ext.app))) x1⟩
    apply call_ret f__law_word_eq rfl
    unfold b__law_word Od.d
    simp only [startE, List.map_cons, List.map_nil, List.length_cons, List.length_nil, List.cons_append, List.nil_append, Nat.zero_add, Nat.reduceAdd, Nat.reduceSub, List.replicate]
    repeat (first | (with_reducible first | exact fx0 | exact j | exact lu _ | exact sh | exact iy | exact iz | exact r1' | exact c_run | exact nil_run | exact nils_run) | ((with_reducible apply var_run);exact rfl) | (with_reducible first | apply IfR.t | apply IfR.f) | ((with_reducible apply ThR.nx);(try simp only [List.set_cons_succ, List.set_cons_zero, setAll])) | ((with_reducible refine eqs_t ?_);decide) | ((with_reducible apply rb_ixT);exact rfl) | (with_reducible first | apply m2_run | apply cons_run | apply lst_run | apply bool_run | apply rb_ifE | apply rb_callF) | ((with_reducible refine lenP ?_);exact rfl) | (with_reducible first | apply rb_seq | apply rb_if | apply ret_run | apply rb_asg) | ((with_reducible apply envP);exact rfl))
  | r2 n x y z =>
    obtain rfl := Option.some.inj e
    have q := n2_q k.1
    have iy := rg_ix (h := h ++ [.lst [.str "jal", .str "jalr"]]) (keep_app hR) k.2.2.1.1 (by rw [mo.r8]; exact k.2.2.1.2)
    obtain ⟨h1, r1, x1⟩ := lreck_run (.inr k.1) (rgA_wd mo.rw y) (mod_wd z) (h ++ [.lst [.str "jal", .str "jalr"]])
    have sh : f_shape [.str n] (h ++ [.lst [.str "jal", .str "jalr"]]) = .ok (.str "rrn") (h ++ [.lst [.str "jal", .str "jalr"]]) := shape_run k _
    have r1' : f__law_reckon [.str n, .int (rgA m.rg y), .int (z % 65536)] (h ++ [.lst [.str "jal", .str "jalr"]]) = .ok (.int (rck n (wdA m.rg (Od.r2 n x y z)) (z % 65536))) h1 := r1
    have j := J n h q.h8
    have lu : ∀ h : Hm, fEq (.str n) (.str "lui") h = .ok (.bl false) h := fun h => eqs_f q.h9
    refine ⟨h1, ?_, Ext.trans (by (repeat (first | with_reducible exact Ext.refl | with_reducible apply Ext.app))) x1⟩
    apply call_ret f__law_word_eq rfl
    unfold b__law_word Od.d
    simp only [startE, List.map_cons, List.map_nil, List.length_cons, List.length_nil, List.cons_append, List.nil_append, Nat.zero_add, Nat.reduceAdd, Nat.reduceSub, List.replicate]
    repeat (first | (with_reducible first | exact fx0 | exact j | exact lu _ | exact sh | exact iy | exact r1' | exact c_run | exact nil_run | exact nils_run) | ((with_reducible apply var_run);exact rfl) | with_reducible apply IfR.f | ((with_reducible apply ThR.nx);(try simp only [List.set_cons_succ, List.set_cons_zero, setAll])) | ((with_reducible refine eqs_f ?_);decide) | ((with_reducible apply rb_ixT);exact rfl) | ((with_reducible refine mod_p ?_);omega) | (with_reducible first | apply m2_run | apply cons_run | apply lst_run | apply bool_run | apply rb_ifE | apply rb_callF) | ((with_reducible refine lenP ?_);exact rfl) | (with_reducible first | apply rb_seq | apply rb_if | apply ret_run | apply rb_asg) | ((with_reducible apply envP);exact rfl))
  | lui x y =>
    obtain rfl := Option.some.inj e
    have mu : ∀ h : Hm, fMul (.int (y % 256)) (.int 256) h = .ok (.int (y % 256 * 256)) h := fun _ => mul_r ⟨by decide, by decide⟩
    (apply Exists.intro; apply And.intro)
    · apply call_ret f__law_word_eq rfl
      unfold b__law_word Od.d
      simp only [startE, List.map_cons, List.map_nil, List.length_cons, List.length_nil, List.cons_append, List.nil_append, Nat.zero_add, Nat.reduceAdd, Nat.reduceSub, List.replicate]
      repeat (first | (with_reducible first | exact mu _ | exact c_run | exact nil_run | exact nils_run) | ((with_reducible apply var_run);exact rfl) | (with_reducible first | apply IfR.t | apply IfR.f | exact ThR.rt) | ((with_reducible apply ThR.nx);(try simp only [List.set_cons_succ, List.set_cons_zero, setAll])) | ((with_reducible refine eqs_t ?_);decide) | ((with_reducible apply inN (k := false));exact rfl;exact rfl;decide) | ((with_reducible apply rb_ixT);exact rfl) | ((with_reducible refine mod_p ?_);omega) | (with_reducible first | apply m2_run | apply cons_run | apply lst_run | apply bool_run | apply rb_seq | apply rb_if | apply ret_run))
    · (repeat (first | with_reducible exact Ext.refl | with_reducible apply Ext.app))
  | jal x y =>
    obtain rfl := Option.some.inj e
    (apply Exists.intro; apply And.intro)
    · apply call_ret f__law_word_eq rfl
      unfold b__law_word Od.d
      simp only [startE, List.map_cons, List.map_nil, List.length_cons, List.length_nil, List.cons_append, List.nil_append, Nat.zero_add, Nat.reduceAdd, Nat.reduceSub, List.replicate]
      repeat (first | (with_reducible first | exact c_run | exact nil_run) | ((with_reducible apply var_run);exact rfl) | (with_reducible first | apply IfR.t | exact ThR.rt | exact fAdd_i) | ((with_reducible apply inN (k := true));exact rfl;exact rfl;decide) | ((with_reducible apply rb_ixT);exact rfl) | (with_reducible first | apply m2_run | apply cons_run | apply lst_run | apply bool_run | apply rb_seq | apply rb_if | apply ret_run))
    · (repeat (first | with_reducible exact Ext.refl | with_reducible apply Ext.app))
  | jalr x y z =>
    obtain rfl := Option.some.inj e
    (apply Exists.intro; apply And.intro)
    · apply call_ret f__law_word_eq rfl
      unfold b__law_word Od.d
      simp only [startE, List.map_cons, List.map_nil, List.length_cons, List.length_nil, List.cons_append, List.nil_append, Nat.zero_add, Nat.reduceAdd, Nat.reduceSub, List.replicate]
      repeat (first | (with_reducible first | exact c_run | exact nil_run) | ((with_reducible apply var_run);exact rfl) | (with_reducible first | apply IfR.t | exact ThR.rt | exact fAdd_i) | ((with_reducible apply inN (k := true));exact rfl;exact rfl;decide) | ((with_reducible apply rb_ixT);exact rfl) | (with_reducible first | apply m2_run | apply cons_run | apply lst_run | apply bool_run | apply rb_seq | apply rb_if | apply ret_run))
    · (repeat (first | with_reducible exact Ext.refl | with_reducible apply Ext.app))
  | _ => cases e
/-- the register's cell set or not -/
theorem lcell (s : LwH h L R M Q I m) (mo : m.ok) {o : Od} {d w t : Int} {x5 x6 x7 x8 x9 x10 : Option D} (kd : Od.Rg d) (e1 : ∀ h : Hm, fIx o.d (.int 1) h = .ok (.int d) h) : ∃ h', (sSeq t__law_do_18 t__law_do_19) [some (.ref L), some o.d, x5, x6, some (.ref R), x7, x8, x9, x10, x10, x10, some (.int w), some (.int t)] h = .next [some (.ref L), some o.d, x5, x6, some (.ref R), x7, x8, x9, x10, x10, x10, some (.int w), some (.int t)] h' ∧ LwH h' L R M Q I { m with rg := putR m.rg d w, pl := t } ∧ KL [L, R] h h' := by
  obtain ⟨c0, c1⟩ := kd
  unfold putR
  by_cases z : d = 0
  · rw [if_pos z]
    have s1 : LwH _ L R M Q I { m with pl := t } := s.setL rfl rfl rfl rfl
    refine ⟨_, ?_, s1, KL.set (by simp)⟩
    have y0 := p0 s t
    repeat (first | (with_reducible first | exact e1 _ | exact y0 | exact c_run | exact nils_run) | ((with_reducible apply var_run);exact rfl) | with_reducible apply IfR.f | ((with_reducible apply ThR.nx);(try simp only [List.set_cons_succ, List.set_cons_zero, setAll])) | ((with_reducible refine ne_f ?_);omega) | (with_reducible first | apply m2_run | apply bool_run | apply rb_seq | apply rb_if | apply sub_run))
  · rw [if_neg z]
    have s1 := s.setR (l := m.rg.set d.toNat w)
    have s2 : LwH _ L R M Q I { m with rg := m.rg.set d.toNat w, pl := t } := s1.setL rfl rfl rfl rfl
    refine ⟨_, ?_, s2, (KL.set (by simp)).trans (KL.set (by simp))⟩
    have y0 := p0 s1 t
    have y1 := rset s.hR mo.r8 w c0 c1
    repeat (first | (with_reducible first | exact e1 _ | exact y0 | exact y1 | exact c_run) | ((with_reducible apply var_run);exact rfl) | with_reducible apply IfR.t | ((with_reducible apply ThR.nx);(try simp only [List.set_cons_succ, List.set_cons_zero, setAll])) | ((with_reducible refine ne_t ?_);omega) | (with_reducible first | apply m2_run | apply bool_run | apply rb_seq | apply rb_if | apply sub_run))
abbrev envW (L R : Nat) (od pd : D) (p : Int) (n : Str) (w t : Option D) : Ev := [some (.ref L), some od, some pd, some (.int p), some (.ref R), some (.str n), none, none, none, none, none, w, t]
/-- an order that gives a word -/
theorem ldo_word (s : LwH h L R M Q I m) (mo : m.ok) {o : Od} (k : o.ok) (pd : D) {n : Str} {w : Int} (en : o.nm = n) (q1 : n ≠ "halt") (q2 : n ≠ "back") (q3 : n ≠ "call") (q4 : inF (.str n) [.str "lw", .str "sw"] = false) (q5 : inF (.str n) [.str "beq", .str "bne", .str "blt", .str "bge"] = false)
    (ew : o.effW m.pl (wdA m.rg o) (wdB m.rg o) = some w) (ed : o.effD (wdA m.rg o) (wdB m.rg o) = .no) (kd : Od.Rg o.wr) (e1 : ∀ h : Hm, fIx o.d (.int 1) h = .ok (.int o.wr) h)
    (et : ∀ g : Hm, LwH g L R M Q I m → ∀ r : SR, (sSeq t__law_do_18 t__law_do_19) (envW L R o.d pd m.pl n (some (.int w)) (some (.int (o.effP m.pl (wdA m.rg o) (wdB m.rg o))))) g = r → (sSeq t__law_do_14 (sSeq t__law_do_16 (sSeq t__law_do_18 t__law_do_19))) (envW L R o.d pd m.pl n (some (.int w)) (some (.int (m.pl + 1)))) g = r) :
    ∃ h', f__law_do [.ref L, o.d, pd] h = .ok .non h' ∧ LwH h' L R M Q I (m.exec o) ∧ KL [L, R] h h' := by
  obtain ⟨g, hg⟩ : ∃ g : Hm, g = h ++ [.lst [.str "lw", .str "sw"]] ++ [.lst [.str "beq", .str "bne", .str "blt", .str "bge"]] := ⟨_, rfl⟩
  have sg : LwH g L R M Q I m := by rw [hg]; exact (s.app).app
  obtain ⟨h1, r1, x1⟩ := lword_run k sg.hR mo ew
  have s1 := sg.ext x1
  obtain ⟨h2, r2, s2, k2⟩ := lcell s1 mo (o := o) (d := o.wr) (w := w) (t := o.effP m.pl (wdA m.rg o) (wdB m.rg o)) (x5 := some pd) (x6 := some (.int m.pl)) (x7 := some (.str n)) (x8 := none) (x9 := none) (x10 := none) kd e1
  have T := et h1 s1 _ r2
  have ex : m.exec o = { m with rg := putR m.rg o.wr w, pl := o.effP m.pl (wdA m.rg o) (wdB m.rg o) } := by
    unfold Ms.exec
    rw [ed, ew]
    rfl
  rw [ex]
  have kg : KL [L, R] h g := by rw [hg]; exact KL.app.trans KL.app
  refine ⟨h2, ?_, s2, (kg.trans x1.kl).trans k2⟩
  have x0 := l0 s
  have xr := l1 s
  have d0 : ∀ h : Hm, fIx o.d (.int 0) h = .ok (.str n) h := fun h => by rw [Od.d_ix0, en]
  have a1 : ∀ h : Hm, fEq (.str n) (.str "halt") h = .ok (.bl false) h := fun h => eqs_f q1
  have a2 : ∀ h : Hm, fEq (.str n) (.str "back") h = .ok (.bl false) h := fun h => eqs_f q2
  have a3 : ∀ h : Hm, fEq (.str n) (.str "call") h = .ok (.bl false) h := fun h => eqs_f q3
  have a4 : ∀ h : Hm, fIn false (.str n) (.ref h.length) (h ++ [.lst [.str "lw", .str "sw"]]) = .ok (.bl false) (h ++ [.lst [.str "lw", .str "sw"]]) := fun h => inN rfl rfl (by rw [q4]; rfl)
  have a5 : ∀ h : Hm, fIn false (.str n) (.ref h.length) (h ++ [.lst [.str "beq", .str "bne", .str "blt", .str "bge"]]) = .ok (.bl false) (h ++ [.lst [.str "beq", .str "bne", .str "blt", .str "bge"]]) := fun h => inN rfl rfl (by rw [q5]; rfl)
  rw [hg] at r1
  apply call_next f__law_do_eq rfl
  unfold b__law_do
  simp only [startE, List.map_cons, List.map_nil, List.length_cons, List.length_nil, List.cons_append, List.nil_append, Nat.zero_add, Nat.reduceAdd, Nat.reduceSub, List.replicate]
  repeat (first | (with_reducible first | exact x0 | exact xr | exact d0 _ | exact a1 _ | exact a2 _ | exact a3 _ | exact a4 _ | exact a5 _ | exact r1 | exact T | exact c_run | exact okr | exact nil_run) | ((with_reducible apply var_run);exact rfl) | with_reducible apply IfR.f | ((with_reducible apply ThR.nx);(try simp only [List.set_cons_succ, List.set_cons_zero, setAll])) | (with_reducible first | exact fAdd_i | apply m2_run | apply cons_run | apply lst_run | apply bool_run | apply rb_and | apply rb_callF) | ((with_reducible refine lenP ?_);exact rfl) | (with_reducible first | apply rb_seq | apply rb_if | apply rb_asg) | ((with_reducible apply envP);exact rfl) | with_reducible apply rb_par)
theorem ldo_br (s : LwH h L R M Q I m) (mo : m.ok) {n : Str} {x y z : Int} (k : (Od.br n x y z).ok) (pd : D) : ∃ h', f__law_do [.ref L, (Od.br n x y z).d, pd] h = .ok .non h' ∧ LwH h' L R M Q I (m.exec (.br n x y z)) ∧ KL [L, R] h h' := by
  have qn := nb_q k.1
  have ex : m.exec (.br n x y z) = { m with pl := if tkn n (rgA m.rg x) (rgA m.rg y) = true then m.pl + z else m.pl + 1 } := rfl
  rw [ex]
  obtain ⟨g, hg⟩ : ∃ g : Hm, g = h ++ [.lst [.str "lw", .str "sw"]] ++ [.lst [.str "beq", .str "bne", .str "blt", .str "bge"]] := ⟨_, rfl⟩
  have sg : LwH g L R M Q I m := by rw [hg]; exact (s.app).app
  have ia := rg_ix sg.hR k.2.1.1 (by rw [mo.r8]; exact k.2.1.2)
  have ib := rg_ix sg.hR k.2.2.1.1 (by rw [mo.r8]; exact k.2.2.1.2)
  have na : ∀ h : Hm, f__law_number [.int (rgA m.rg x)] h = .ok (.int (sgn (rgA m.rg x))) h := fun h => number_run _ h
  have nb : ∀ h : Hm, f__law_number [.int (rgA m.rg y)] h = .ok (.int (sgn (rgA m.rg y))) h := fun h => number_run _ h
  generalize rgA m.rg x = a at ia na ⊢
  generalize rgA m.rg y = b at ib nb ⊢
  have lt : ∀ h : Hm, fLt (.int (sgn a)) (.int (sgn b)) h = .ok (.bl (decide (sgn a < sgn b))) h := fun _ => rfl
  have e1 : ∀ h : Hm, fEq (.int a) (.int b) h = .ok (.bl (decide (a = b))) h := fun _ => fEq_i
  have e2 : ∀ h : Hm, fNe (.int a) (.int b) h = .ok (.bl (!decide (a = b))) h := fun _ => fNe_i
  have nt : ∀ h : Hm, mNotV (mVar 9) [some (.ref L), some (Od.br n x y z).d, some pd, some (.int m.pl), some (.ref R), some (.str n), none, some (.int a), some (.int b), some (.bl (decide (sgn a < sgn b))), none, none, none] h = .ok (.bl (!decide (sgn a < sgn b))) h := fun _ => rfl
  obtain ⟨kv, hkv⟩ : ∃ kv : List (Key × D), kv = mergeD [(.inr "beq", .bl (decide (a = b))), (.inr "bne", .bl (!decide (a = b))), (.inr "blt", .bl (decide (sgn a < sgn b))), (.inr "bge", .bl (!decide (sgn a < sgn b)))] := ⟨_, rfl⟩
  have gk : getK kv (.inr n) = some (.bl (tkn n a b)) := by
    rw [hkv]
    exact nb_ind (P := fun n => getK (mergeD [(.inr "beq", .bl (decide (a = b))), (.inr "bne", .bl (!decide (a = b))), (.inr "blt", .bl (decide (sgn a < sgn b))), (.inr "bge", .bl (!decide (sgn a < sgn b)))]) (.inr n) = some (.bl (tkn n a b))) rfl rfl rfl rfl k.1
  have ix : fIx (.ref g.length) (.str n) (g ++ [.dic kv]) = .ok (.bl (tkn n a b)) (g ++ [.dic kv]) := fIx_dic get_new gk
  have s2 := sg.app (g := [.dic kv])
  have x0 := l0 s
  have xr := l1 s
  have qx : ∀ h : Hm, fIx (Od.br n x y z).d (.int 0) h = .ok (.str n) h := fun _ => rfl
  have q1 : ∀ h : Hm, fIx (Od.br n x y z).d (.int 1) h = .ok (.int x) h := fun _ => rfl
  have q2 : ∀ h : Hm, fIx (Od.br n x y z).d (.int 2) h = .ok (.int y) h := fun _ => rfl
  have q3 : ∀ h : Hm, fIx (Od.br n x y z).d (.int 3) h = .ok (.int z) h := fun _ => rfl
  have a1 : ∀ h : Hm, fEq (.str n) (.str "halt") h = .ok (.bl false) h := fun h => eqs_f qn.h1
  have a2 : ∀ h : Hm, fEq (.str n) (.str "back") h = .ok (.bl false) h := fun h => eqs_f qn.h2
  have a3 : ∀ h : Hm, fEq (.str n) (.str "call") h = .ok (.bl false) h := fun h => eqs_f qn.h3
  have a4 : ∀ h : Hm, fIn false (.str n) (.ref h.length) (h ++ [.lst [.str "lw", .str "sw"]]) = .ok (.bl false) (h ++ [.lst [.str "lw", .str "sw"]]) := fun h => inN rfl rfl (by rw [qn.h4]; rfl)
  have a5 : ∀ h : Hm, fIn false (.str n) (.ref h.length) (h ++ [.lst [.str "beq", .str "bne", .str "blt", .str "bge"]]) = .ok (.bl true) (h ++ [.lst [.str "beq", .str "bne", .str "blt", .str "bge"]]) := fun h => inN rfl rfl (by rw [qn.h5]; rfl)
  have dk : t__law_do_10 [some (.ref L), some (Od.br n x y z).d, some pd, some (.int m.pl), some (.ref R), some (.str n), none, some (.int a), some (.int b), some (.bl (decide (sgn a < sgn b))), none, none, none] g = .next [some (.ref L), some (Od.br n x y z).d, some pd, some (.int m.pl), some (.ref R), some (.str n), none, some (.int a), some (.int b), some (.bl (decide (sgn a < sgn b))), some (.bl (tkn n a b)), none, none] (g ++ [.dic kv]) := by
    have D1 : mDisp [((mC (.str "beq")), (m2 fEq (mVar 7) (mVar 8))), ((mC (.str "bne")), (m2 fNe (mVar 7) (mVar 8))), ((mC (.str "blt")), (mVar 9)), ((mC (.str "bge")), (mNotV (mVar 9)))] [some (.ref L), some (Od.br n x y z).d, some pd, some (.int m.pl), some (.ref R), some (.str n), none, some (.int a), some (.int b), some (.bl (decide (sgn a < sgn b))), none, none, none] g = .ok (.ref g.length) (g ++ [.dic kv]) := by
      rw [hkv]
      repeat (first | (with_reducible first | exact e1 _ | exact e2 _ | exact nt _ | exact c_run | exact rb_ps0) | ((with_reducible apply var_run);exact rfl) | ((with_reducible apply keP);exact rfl) | ((with_reducible apply le15);exact rfl) | (with_reducible first | apply m2_run | apply rb_disp | apply rb_ps))
    repeat (first | (with_reducible first | exact D1 | exact ix) | ((with_reducible apply var_run);exact rfl) | (with_reducible first | apply m2_run | apply rb_asg) | ((with_reducible apply envP);exact rfl))
  have kg : KL [L, R] h (g ++ [.dic kv]) := by rw [hg]; exact (KL.app.trans KL.app).trans KL.app
  rw [hg] at ia ib dk
  by_cases c : tkn n a b = true
  · rw [if_pos c]
    have s3 : LwH _ L R M Q I { m with pl := m.pl + z } := s2.setL rfl rfl rfl rfl
    have y0 := p0 s2 (m.pl + z)
    rw [c] at dk
    rw [hg] at y0 kg s3
    refine ⟨_, ?_, s3, kg.trans (KL.set (by simp))⟩
    apply call_next f__law_do_eq rfl
    unfold b__law_do
    simp only [startE, List.map_cons, List.map_nil, List.length_cons, List.length_nil, List.cons_append, List.nil_append, Nat.zero_add, Nat.reduceAdd, Nat.reduceSub, List.replicate]
    repeat (first | (with_reducible first | exact x0 | exact xr | exact qx _ | exact q1 _ | exact q2 _ | exact q3 _ | exact a1 _ | exact a2 _ | exact a3 _ | exact a4 _ | exact a5 _ | exact ia | exact ib | exact na _ | exact nb _ | exact lt _ | exact dk | exact y0 | exact c_run | exact okr | exact nil_run) | ((with_reducible apply var_run);exact rfl) | (with_reducible first | apply IfR.t | apply IfR.f) | ((with_reducible apply ThR.nx);(try simp only [List.set_cons_succ, List.set_cons_zero, setAll])) | (with_reducible first | exact fAdd_i | apply m2_run | apply cons_run | apply lst_run | apply bool_run | apply tru_any | apply rb_and | apply rb_ifE | apply rb_callF) | ((with_reducible refine lenP ?_);exact rfl) | (with_reducible first | apply rb_seq | apply rb_if | apply rb_asg) | ((with_reducible apply envP);exact rfl) | (with_reducible first | apply sub_run | apply rb_par))
  · rw [if_neg c]
    have s3 : LwH _ L R M Q I { m with pl := m.pl + 1 } := s2.setL rfl rfl rfl rfl
    have y0 := p0 s2 (m.pl + 1)
    rw [Bool.not_eq_true] at c
    rw [c] at dk
    rw [hg] at y0 kg s3
    refine ⟨_, ?_, s3, kg.trans (KL.set (by simp))⟩
    apply call_next f__law_do_eq rfl
    unfold b__law_do
    simp only [startE, List.map_cons, List.map_nil, List.length_cons, List.length_nil, List.cons_append, List.nil_append, Nat.zero_add, Nat.reduceAdd, Nat.reduceSub, List.replicate]
    repeat (first | (with_reducible first | exact x0 | exact xr | exact qx _ | exact q1 _ | exact q2 _ | exact a1 _ | exact a2 _ | exact a3 _ | exact a4 _ | exact a5 _ | exact ia | exact ib | exact na _ | exact nb _ | exact lt _ | exact dk | exact y0 | exact c_run | exact okr | exact nil_run) | ((with_reducible apply var_run);exact rfl) | (with_reducible first | apply IfR.t | apply IfR.f) | ((with_reducible apply ThR.nx);(try simp only [List.set_cons_succ, List.set_cons_zero, setAll])) | (with_reducible first | exact fAdd_i | apply m2_run | apply cons_run | apply lst_run | apply bool_run | apply tru_any | apply rb_and | apply rb_ifE | apply rb_callF) | ((with_reducible refine lenP ?_);exact rfl) | (with_reducible first | apply rb_seq | apply rb_if | apply rb_asg) | ((with_reducible apply envP);exact rfl) | (with_reducible first | apply sub_run | apply rb_par))
end
end K03
end MM
namespace MM
namespace K03
open PySem L2
section
variable {h h' : Hm} {L R M Q I : Nat} {m m' : Ms}
theorem add_mod (a k : Int) : (a + k % 65536) % 65536 = (a + k) % 65536 := by omega
theorem ldo_lw (s : LwH h L R M Q I m) (mo : m.ok) (ki : m.ic.length ≤ 1000) {x y z : Int} (k : (Od.lw x y z).ok) (pd : D) : ∃ I' h', f__law_do [.ref L, (Od.lw x y z).d, pd] h = .ok .non h' ∧ LwH h' L R M Q I' (m.exec (.lw x y z)) ∧ KL [L, R] h h' ∧ (I' = I ∨ h.length ≤ I') := by
  obtain ⟨g, hg⟩ : ∃ g : Hm, g = h ++ [.lst [.str "lw", .str "sw"]] := ⟨_, rfl⟩
  have sg : LwH g L R M Q I m := by rw [hg]; exact s.app
  have ib := rg_ix sg.hR k.2.1.1 (by rw [mo.r8]; exact k.2.1.2)
  obtain ⟨ad, had⟩ : ∃ ad, ad = (rgA m.rg y + z) % 65536 := ⟨_, rfl⟩
  have wa : Wd ad := by rw [had]; exact mod_wd _
  have ex : m.exec (.lw x y z) = m.dd (.lw x y z) (m.pl + 1) 0 (.load ad) := by
    have e : (rgA m.rg y + z % 65536) % 65536 = ad := by rw [had, add_mod]
    show m.dd (.lw x y z) (m.pl + 1) 0 (.load ((rgA m.rg y + z % 65536) % 65536)) = _
    rw [e]
  rw [ex]
  have kg : KL [L, R] h g := by rw [hg]; exact KL.app
  have main : ∀ h2 : Hm, f__law_memory [.ref L, (Od.lw x y z).d, .int ad] g = .ok .non h2 → f__law_do [.ref L, (Od.lw x y z).d, pd] h = .ok .non h2 := by
    intro h2 r2
    have x0 := l0 s
    have xr := l1 s
    have q0 : ∀ h : Hm, fIx (Od.lw x y z).d (.int 0) h = .ok (.str "lw") h := fun _ => rfl
    have q2 : ∀ h : Hm, fIx (Od.lw x y z).d (.int 2) h = .ok (.int y) h := fun _ => rfl
    have q3 : ∀ h : Hm, fIx (Od.lw x y z).d (.int 3) h = .ok (.int z) h := fun _ => rfl
    have md : fMod (.int (rgA m.rg y + z)) (.int 65536) g = .ok (.int ad) g := by rw [mod_p (by decide), had]
    rw [hg] at ib md r2
    apply call_next f__law_do_eq rfl
    unfold b__law_do
    simp only [startE, List.map_cons, List.map_nil, List.length_cons, List.length_nil, List.cons_append, List.nil_append, Nat.zero_add, Nat.reduceAdd, Nat.reduceSub, List.replicate]
    repeat (first | (with_reducible first | exact x0 | exact xr | exact q0 _ | exact q2 _ | exact q3 _ | exact ib | exact md | exact r2 | exact c_run | exact okr | exact nil_run) | ((with_reducible apply var_run);exact rfl) | (with_reducible first | apply IfR.t | apply IfR.f) | ((with_reducible apply ThR.nx);(try simp only [List.set_cons_succ, List.set_cons_zero, setAll])) | with_reducible exact fAdd_i | ((with_reducible refine eqs_f ?_);decide) | ((with_reducible apply inN (k := true));exact rfl;exact rfl;decide) | (with_reducible first | apply m2_run | apply cons_run | apply lst_run | apply bool_run | apply rb_and | apply rb_callF) | ((with_reducible refine lenP ?_);exact rfl) | (with_reducible first | apply rb_seq | apply rb_if | apply drop_run | apply rb_asg) | ((with_reducible apply envP);exact rfl) | with_reducible apply rb_par)
  by_cases c : 256 ≤ ad
  · obtain ⟨h2, r2, s2, k2⟩ := lmem_out sg (Od.lw x y z).d ad c
    refine ⟨I, h2, main h2 r2, ?_, kg.trans (k2.sub (by simp)), .inl rfl⟩
    simp only [Ms.dd]
    rw [if_neg (by omega), if_pos c]
    exact s2
  · obtain ⟨I', h2, r2, s2, k2, j2⟩ := lmem_load sg mo ki (x := y) (y := z) k.1 wa.1 (by omega)
    exact ⟨I', h2, main h2 r2, s2, kg.trans k2, j2.imp id fun z => Nat.le_trans kg.1 z⟩
theorem ldo_sw (s : LwH h L R M Q I m) (mo : m.ok) (ko : m.ou.length ≤ 1000) {x y z : Int} (k : (Od.sw x y z).ok) (pd : D) : ∃ Q' h', f__law_do [.ref L, (Od.sw x y z).d, pd] h = .ok .non h' ∧ LwH h' L R M Q' I (m.exec (.sw x y z)) ∧ KL [L, R, M] h h' ∧ (Q' = Q ∨ h.length ≤ Q') := by
  obtain ⟨g, hg⟩ : ∃ g : Hm, g = h ++ [.lst [.str "lw", .str "sw"]] := ⟨_, rfl⟩
  have sg : LwH g L R M Q I m := by rw [hg]; exact s.app
  have ib := rg_ix sg.hR k.2.1.1 (by rw [mo.r8]; exact k.2.1.2)
  obtain ⟨ad, had⟩ : ∃ ad, ad = (rgA m.rg y + z) % 65536 := ⟨_, rfl⟩
  have wa : Wd ad := by rw [had]; exact mod_wd _
  have ex : m.exec (.sw x y z) = m.dd (.sw x y z) (m.pl + 1) 0 (.store ad (rgA m.rg x)) := by
    have e : (rgA m.rg y + z % 65536) % 65536 = ad := by rw [had, add_mod]
    show m.dd (.sw x y z) (m.pl + 1) 0 (.store ((rgA m.rg y + z % 65536) % 65536) (rgA m.rg x)) = _
    rw [e]
  rw [ex]
  have kg : KL [L, R, M] h g := by rw [hg]; exact KL.app
  have main : ∀ h2 : Hm, f__law_memory [.ref L, (Od.sw x y z).d, .int ad] g = .ok .non h2 → f__law_do [.ref L, (Od.sw x y z).d, pd] h = .ok .non h2 := by
    intro h2 r2
    have x0 := l0 s
    have xr := l1 s
    have q0 : ∀ h : Hm, fIx (Od.sw x y z).d (.int 0) h = .ok (.str "sw") h := fun _ => rfl
    have q2 : ∀ h : Hm, fIx (Od.sw x y z).d (.int 2) h = .ok (.int y) h := fun _ => rfl
    have q3 : ∀ h : Hm, fIx (Od.sw x y z).d (.int 3) h = .ok (.int z) h := fun _ => rfl
    have md : fMod (.int (rgA m.rg y + z)) (.int 65536) g = .ok (.int ad) g := by rw [mod_p (by decide), had]
    rw [hg] at ib md r2
    apply call_next f__law_do_eq rfl
    unfold b__law_do
    simp only [startE, List.map_cons, List.map_nil, List.length_cons, List.length_nil, List.cons_append, List.nil_append, Nat.zero_add, Nat.reduceAdd, Nat.reduceSub, List.replicate]
    repeat (first | (with_reducible first | exact x0 | exact xr | exact q0 _ | exact q2 _ | exact q3 _ | exact ib | exact md | exact r2 | exact c_run | exact okr | exact nil_run) | ((with_reducible apply var_run);exact rfl) | (with_reducible first | apply IfR.t | apply IfR.f) | ((with_reducible apply ThR.nx);(try simp only [List.set_cons_succ, List.set_cons_zero, setAll])) | with_reducible exact fAdd_i | ((with_reducible refine eqs_f ?_);decide) | ((with_reducible apply inN (k := true));exact rfl;exact rfl;decide) | (with_reducible first | apply m2_run | apply cons_run | apply lst_run | apply bool_run | apply rb_and | apply rb_callF) | ((with_reducible refine lenP ?_);exact rfl) | (with_reducible first | apply rb_seq | apply rb_if | apply drop_run | apply rb_asg) | ((with_reducible apply envP);exact rfl) | with_reducible apply rb_par)
  by_cases c : 256 ≤ ad
  · obtain ⟨h2, r2, s2, k2⟩ := lmem_out sg (Od.sw x y z).d ad c
    refine ⟨Q, h2, main h2 r2, ?_, kg.trans (k2.sub (by simp)), .inl rfl⟩
    simp only [Ms.dd]
    rw [if_pos c]
    exact s2
  · obtain ⟨Q', h2, r2, s2, k2, j2⟩ := lmem_store sg mo ko (x := y) (y := z) k.1 wa.1 (by omega)
    exact ⟨Q', h2, main h2 r2, s2, kg.trans (k2.sub (by simp)), j2.imp id fun z => Nat.le_trans kg.1 z⟩
theorem ldo_halt (s : LwH h L R M Q I m) (pd : D) : ∃ h', f__law_do [.ref L, Od.halt.d, pd] h = .ok .non h' ∧ LwH h' L R M Q I { m with en := .halt } ∧ KL [L, R, M] h h' := by
  have s1 : LwH _ L R M Q I { m with en := .halt } := s.setL rfl rfl rfl rfl
  refine ⟨_, ?_, s1, KL.set (by simp)⟩
  have x0 := l0 s
  have xr := l1 s
  have q0 : ∀ h : Hm, fIx Od.halt.d (.int 0) h = .ok (.str "halt") h := fun _ => rfl
  have y8 : fSet (.ref L) (.int 8) (.tup [.str "halt"]) h = some (h.set L (.lst (lwL R M Q I { m with en := .halt }))) := p8 s .halt
  apply call_next f__law_do_eq rfl
  unfold b__law_do
  simp only [startE, List.map_cons, List.map_nil, List.length_cons, List.length_nil, List.cons_append, List.nil_append, Nat.zero_add, Nat.reduceAdd, Nat.reduceSub, List.replicate]
  repeat (first | (with_reducible first | exact x0 | exact xr | exact q0 _ | exact y8 | exact c_run | exact nil_run) | ((with_reducible apply var_run);exact rfl) | with_reducible apply IfR.t | ((with_reducible apply ThR.nx);(try simp only [List.set_cons_succ, List.set_cons_zero, setAll])) | ((with_reducible refine eqs_t ?_);decide) | (with_reducible first | apply m2_run | apply cons_run | apply tup_run | apply bool_run | apply rb_seq | apply rb_if | apply rb_asg) | ((with_reducible apply envP);exact rfl) | (with_reducible first | apply sub_run | apply rb_par))
theorem ldo_back (s : LwH h L R M Q I m) (pd : D) : ∃ h', f__law_do [.ref L, Od.back.d, pd] h = .ok .non h' ∧ LwH h' L R M Q I { m with pl := m.bk } ∧ KL [L, R, M] h h' := by
  have s1 : LwH _ L R M Q I { m with pl := m.bk } := s.setL rfl rfl rfl rfl
  refine ⟨_, ?_, s1, KL.set (by simp)⟩
  have x0 := l0 s
  have xr := l1 s
  have x6 := l6 s
  have q0 : ∀ h : Hm, fIx Od.back.d (.int 0) h = .ok (.str "back") h := fun _ => rfl
  have y0 := p0 s m.bk
  apply call_next f__law_do_eq rfl
  unfold b__law_do
  simp only [startE, List.map_cons, List.map_nil, List.length_cons, List.length_nil, List.cons_append, List.nil_append, Nat.zero_add, Nat.reduceAdd, Nat.reduceSub, List.replicate]
  repeat (first | (with_reducible first | exact x0 | exact xr | exact x6 | exact q0 _ | exact y0 | exact c_run | exact nil_run) | ((with_reducible apply var_run);exact rfl) | (with_reducible first | apply IfR.t | apply IfR.f) | ((with_reducible apply ThR.nx);(try simp only [List.set_cons_succ, List.set_cons_zero, setAll])) | ((with_reducible refine eqs_t ?_);decide) | ((with_reducible refine eqs_f ?_);decide) | (with_reducible first | apply m2_run | apply cons_run | apply bool_run | apply rb_seq | apply rb_if | apply rb_asg) | ((with_reducible apply envP);exact rfl) | (with_reducible first | apply sub_run | apply rb_par))
theorem ldo_call (s : LwH h L R M Q I m) (mo : m.ok) (c : Int) (pd : D) : ∃ h', f__law_do [.ref L, (Od.call c).d, pd] h = .ok .non h' ∧ LwH h' L R M Q I (m.call c) ∧ KL [L, R, M] h h' := by
  have x0 := l0 s
  have xr := l1 s
  have q0 : ∀ h : Hm, fIx (Od.call c).d (.int 0) h = .ok (.str "call") h := fun _ => rfl
  have q1 : ∀ h : Hm, fIx (Od.call c).d (.int 1) h = .ok (.int c) h := fun _ => rfl
  unfold Ms.call
  by_cases z : c = 0
  · rw [if_pos z]
    have s1 : LwH _ L R M Q I { m with hd := some (rgA m.rg 1) } := s.setL rfl rfl rfl rfl
    have s2 : LwH _ L R M Q I { m with hd := some (rgA m.rg 1), pl := m.pl + 1 } := s1.setL rfl rfl rfl rfl
    refine ⟨_, ?_, s2, (KL.set (by simp)).trans (KL.set (by simp))⟩
    have i1 := rg_ix s.hR (r := 1) (by decide) (by rw [mo.r8]; decide)
    have u : t__law_do_2 [some (.ref L), some (Od.call c).d, some pd, some (.int m.pl), some (.ref R), some (.str "call"), none, none, none, none, none, none, none] h = .next [some (.ref L), some (Od.call c).d, some pd, some (.int m.pl), some (.ref R), some (.str "call"), none, none, none, none, none, none, none] ((h.set L (.lst (lwL R M Q I { m with hd := some (rgA m.rg 1) }))).set L (.lst (lwL R M Q I { m with hd := some (rgA m.rg 1), pl := m.pl + 1 }))) :=
      un2 (by repeat (first | (with_reducible first | exact i1 | exact c_run | exact nil_run) | ((with_reducible apply var_run);exact rfl) | (with_reducible first | exact fAdd_i | apply m2_run | apply cons_run | apply tup_run))) (gsub rfl rfl (p7 s _)) (gsub rfl rfl (p0 s1 _))
    apply call_next f__law_do_eq rfl
    unfold b__law_do
    simp only [startE, List.map_cons, List.map_nil, List.length_cons, List.length_nil, List.cons_append, List.nil_append, Nat.zero_add, Nat.reduceAdd, Nat.reduceSub, List.replicate]
    repeat (first | (with_reducible first | exact x0 | exact xr | exact q0 _ | exact q1 _ | exact u | exact c_run | exact nil_run) | ((with_reducible apply var_run);exact rfl) | (with_reducible first | apply IfR.t | apply IfR.f) | ((with_reducible apply ThR.nx);(try simp only [List.set_cons_succ, List.set_cons_zero, setAll])) | ((with_reducible refine eq_t ?_);omega) | ((with_reducible refine eqs_t ?_);decide) | ((with_reducible refine eqs_f ?_);decide) | (with_reducible first | apply m2_run | apply cons_run | apply bool_run | apply rb_and | apply rb_seq | apply rb_if | apply rb_asg) | ((with_reducible apply envP);exact rfl) | with_reducible apply rb_par)
  · rw [if_neg z]
    have s1 := s.setR (l := m.rg.set (7 : Int).toNat (c % 65536))
    have s2 : LwH _ L R M Q I { m with rg := m.rg.set (7 : Int).toNat (c % 65536), pl := m.pl + 1 } := s1.setL rfl rfl rfl rfl
    obtain ⟨h3, r3, s3, k3⟩ := lfault_run s2 2
    refine ⟨h3, ?_, s3, ((KL.set (by simp)).trans (KL.set (by simp))).trans (k3.sub (by simp))⟩
    have y7 := rset s.hR mo.r8 (c % 65536) (c := 7) (by decide) (by decide)
    have y0 := p0 s1 (m.pl + 1)
    apply call_next f__law_do_eq rfl
    unfold b__law_do
    simp only [startE, List.map_cons, List.map_nil, List.length_cons, List.length_nil, List.cons_append, List.nil_append, Nat.zero_add, Nat.reduceAdd, Nat.reduceSub, List.replicate]
    repeat (first | (with_reducible first | exact x0 | exact xr | exact q0 _ | exact q1 _ | exact y7 | exact y0 | exact r3 | exact c_run | exact nil_run) | ((with_reducible apply var_run);exact rfl) | (with_reducible first | apply IfR.t | apply IfR.f) | ((with_reducible apply ThR.nx);(try simp only [List.set_cons_succ, List.set_cons_zero, setAll])) | with_reducible exact fAdd_i | ((with_reducible refine eq_f ?_);omega) | ((with_reducible refine eqs_t ?_);decide) | ((with_reducible refine eqs_f ?_);decide) | ((with_reducible refine mod_p ?_);omega) | (with_reducible first | apply m2_run | apply cons_run | apply bool_run | apply rb_and | apply rb_callF) | ((with_reducible refine lenP ?_);exact rfl) | (with_reducible first | apply rb_seq | apply rb_if | apply drop_run | apply rb_asg) | ((with_reducible apply envP);exact rfl) | (with_reducible first | apply sub_run | apply rb_par))
theorem ldo_run (s : LwH h L R M Q I m) (mo : m.ok) (ko : m.ou.length ≤ 1000) (ki : m.ic.length ≤ 1000) {o : Od} (k : o.ok) (pd : D) : ∃ Q' I' h', f__law_do [.ref L, o.d, pd] h = .ok .non h' ∧ LwH h' L R M Q' I' (m.doO o) ∧ KL [L, R, M] h h' ∧ (Q' = Q ∨ h.length ≤ Q') ∧ (I' = I ∨ h.length ≤ I') := by
  have sc := s.ct (m.ct + 1)
  have mc : Ms.ok { m with ct := m.ct + 1 } := ⟨mo.r8, mo.rw, mo.m256, mo.mw, mo.iw⟩
  cases o with
  | r3 n x y z =>
    have q := n3_q k.1
    obtain ⟨h1, r1, s1, k1⟩ := ldo_word sc mc k pd rfl q.h1 q.h2 q.h3 q.h4 q.h5 rfl rfl k.2.1 (fun _ => rfl) fun g _ r e => by
      have a6 : ∀ h : Hm, fEq (.str n) (.str "jal") h = .ok (.bl false) h := fun h => eqs_f q.h6
      have a7 : ∀ h : Hm, fEq (.str n) (.str "jalr") h = .ok (.bl false) h := fun h => eqs_f q.h7
      rw [← e]
      have c1 : ∀ e : Ev, e[5]? = some (some (.str n)) → t__law_do_14 e g = .next e g := fun e q => by repeat (first | (with_reducible first | exact var_run q | exact a6 _ | exact c_run | exact nils_run | apply IfR.f | apply m2_run | apply bool_run | apply rb_if))
      have c2 : ∀ e : Ev, e[5]? = some (some (.str n)) → t__law_do_16 e g = .next e g := fun e q => by repeat (first | (with_reducible first | exact var_run q | exact a7 _ | exact c_run | exact nils_run | apply IfR.f | apply m2_run | apply bool_run | apply rb_if))
      exact seq_next (c1 _ rfl) (seq_next (c2 _ rfl) rfl)
    exact ⟨Q, I, h1, r1, s1, k1.sub (by simp), .inl rfl, .inl rfl⟩
  | r2 n x y z =>
    have q := n2_q k.1
    obtain ⟨h1, r1, s1, k1⟩ := ldo_word sc mc k pd rfl q.h1 q.h2 q.h3 q.h4 q.h5 rfl rfl k.2.1 (fun _ => rfl) fun g _ r e => by
      have a6 : ∀ h : Hm, fEq (.str n) (.str "jal") h = .ok (.bl false) h := fun h => eqs_f q.h6
      have a7 : ∀ h : Hm, fEq (.str n) (.str "jalr") h = .ok (.bl false) h := fun h => eqs_f q.h7
      rw [← e]
      have c1 : ∀ e : Ev, e[5]? = some (some (.str n)) → t__law_do_14 e g = .next e g := fun e q => by repeat (first | (with_reducible first | exact var_run q | exact a6 _ | exact c_run | exact nils_run | apply IfR.f | apply m2_run | apply bool_run | apply rb_if))
      have c2 : ∀ e : Ev, e[5]? = some (some (.str n)) → t__law_do_16 e g = .next e g := fun e q => by repeat (first | (with_reducible first | exact var_run q | exact a7 _ | exact c_run | exact nils_run | apply IfR.f | apply m2_run | apply bool_run | apply rb_if))
      exact seq_next (c1 _ rfl) (seq_next (c2 _ rfl) rfl)
    exact ⟨Q, I, h1, r1, s1, k1.sub (by simp), .inl rfl, .inl rfl⟩
  | br n x y z =>
    obtain ⟨h1, r1, s1, k1⟩ := ldo_br sc mc k pd
    exact ⟨Q, I, h1, r1, s1, k1.sub (by simp), .inl rfl, .inl rfl⟩
  | lui x y =>
    obtain ⟨h1, r1, s1, k1⟩ := ldo_word (n := "lui") sc mc k pd rfl (by decide) (by decide) (by decide) (by decide) (by decide) rfl rfl k.1 (fun _ => rfl) fun g _ r e => by
      rw [← e]
      have c1 : ∀ e : Ev, e[5]? = some (some (.str "lui")) → t__law_do_14 e g = .next e g := fun e q => by repeat (first | (with_reducible first | exact var_run q | exact c_run | exact nils_run | apply IfR.f) | ((with_reducible refine eqs_f ?_);decide) | (with_reducible first | apply m2_run | apply bool_run | apply rb_if))
      have c2 : ∀ e : Ev, e[5]? = some (some (.str "lui")) → t__law_do_16 e g = .next e g := fun e q => by repeat (first | (with_reducible first | exact var_run q | exact c_run | exact nils_run | apply IfR.f) | ((with_reducible refine eqs_f ?_);decide) | (with_reducible first | apply m2_run | apply bool_run | apply rb_if))
      exact seq_next (c1 _ rfl) (seq_next (c2 _ rfl) rfl)
    exact ⟨Q, I, h1, r1, s1, k1.sub (by simp), .inl rfl, .inl rfl⟩
  | jal x y =>
    obtain ⟨h1, r1, s1, k1⟩ := ldo_word (n := "jal") sc mc k pd rfl (by decide) (by decide) (by decide) (by decide) (by decide) rfl rfl k.1 (fun _ => rfl) fun g _ r e => by
      rw [← e]
      have q2 : ∀ h : Hm, fIx (Od.jal x y).d (.int 2) h = .ok (.int y) h := fun _ => rfl
      have c1 : t__law_do_14 (envW L R (Od.jal x y).d pd m.pl "jal" (some (.int (m.pl + 1))) (some (.int (m.pl + 1)))) g = .next (envW L R (Od.jal x y).d pd m.pl "jal" (some (.int (m.pl + 1))) (some (.int (m.pl + y)))) g := by repeat (first | (with_reducible first | exact q2 _ | exact c_run) | ((with_reducible apply var_run);exact rfl) | (with_reducible first | apply IfR.t | exact fAdd_i) | ((with_reducible refine eqs_t ?_);decide) | (with_reducible first | apply m2_run | apply bool_run | apply rb_if | apply rb_asg) | ((with_reducible apply envP);exact rfl))
      have c2 : ∀ e : Ev, e[5]? = some (some (.str "jal")) → t__law_do_16 e g = .next e g := fun e q => by repeat (first | (with_reducible first | exact var_run q | exact c_run | exact nils_run | apply IfR.f) | ((with_reducible refine eqs_f ?_);decide) | (with_reducible first | apply m2_run | apply bool_run | apply rb_if))
      exact seq_next c1 (seq_next (c2 _ rfl) rfl)
    exact ⟨Q, I, h1, r1, s1, k1.sub (by simp), .inl rfl, .inl rfl⟩
  | jalr x y z =>
    obtain ⟨h1, r1, s1, k1⟩ := ldo_word (n := "jalr") sc mc k pd rfl (by decide) (by decide) (by decide) (by decide) (by decide) rfl rfl k.1 (fun _ => rfl) fun g sg r e => by
      rw [← e]
      have q2 : ∀ h : Hm, fIx (Od.jalr x y z).d (.int 2) h = .ok (.int y) h := fun _ => rfl
      have q3 : ∀ h : Hm, fIx (Od.jalr x y z).d (.int 3) h = .ok (.int z) h := fun _ => rfl
      have ib := rg_ix sg.hR k.2.1.1 (by rw [show Ms.rg { m with ct := m.ct + 1 } = m.rg from rfl, mo.r8]; exact k.2.1.2)
      have md : fMod (.int (rgA m.rg y + z)) (.int 65536) g = .ok (.int ((rgA m.rg y + z % 65536) % 65536)) g := by rw [mod_p (by decide), add_mod]
      have c1 : ∀ e : Ev, e[5]? = some (some (.str "jalr")) → t__law_do_14 e g = .next e g := fun e q => by repeat (first | (with_reducible first | exact var_run q | exact c_run | exact nils_run | apply IfR.f) | ((with_reducible refine eqs_f ?_);decide) | (with_reducible first | apply m2_run | apply bool_run | apply rb_if))
      have c2 : t__law_do_16 (envW L R (Od.jalr x y z).d pd m.pl "jalr" (some (.int (m.pl + 1))) (some (.int (m.pl + 1)))) g = .next (envW L R (Od.jalr x y z).d pd m.pl "jalr" (some (.int (m.pl + 1))) (some (.int ((rgA m.rg y + z % 65536) % 65536)))) g := by repeat (first | (with_reducible first | exact q2 _ | exact q3 _ | exact ib | exact md | exact c_run) | ((with_reducible apply var_run);exact rfl) | (with_reducible first | apply IfR.t | exact fAdd_i) | ((with_reducible refine eqs_t ?_);decide) | (with_reducible first | apply m2_run | apply bool_run | apply rb_if | apply rb_asg) | ((with_reducible apply envP);exact rfl))
      exact seq_next (c1 _ rfl) (seq_next c2 rfl)
    exact ⟨Q, I, h1, r1, s1, k1.sub (by simp), .inl rfl, .inl rfl⟩
  | lw x y z =>
    obtain ⟨I', h1, r1, s1, k1, j1⟩ := ldo_lw sc mc ki k pd
    exact ⟨Q, I', h1, r1, s1, k1.sub (by simp), .inl rfl, j1⟩
  | sw x y z =>
    obtain ⟨Q', h1, r1, s1, k1, j1⟩ := ldo_sw sc mc ko k pd
    exact ⟨Q', I, h1, r1, s1, k1, j1, .inl rfl⟩
  | call c =>
    obtain ⟨h1, r1, s1, k1⟩ := ldo_call sc mc c pd
    exact ⟨Q, I, h1, r1, s1, k1, .inl rfl, .inl rfl⟩
  | back =>
    obtain ⟨h1, r1, s1, k1⟩ := ldo_back sc pd
    exact ⟨Q, I, h1, r1, s1, k1, .inl rfl, .inl rfl⟩
  | halt =>
    obtain ⟨h1, r1, s1, k1⟩ := ldo_halt sc pd
    exact ⟨Q, I, h1, r1, s1, k1, .inl rfl, .inl rfl⟩
end
end K03
end MM
namespace MM
namespace K03
open PySem L2
theorem roll_run {i : Nat} {h : Hm} (di : IsDice h i) {many : Int} (h1 : 0 < many) (h2 : many < 1073741824) : ∃ (v : Int) (h' : Hm), 0 ≤ v ∧ v < many ∧ f__law_roll [.ref i, .int many] h = .ok (.int v) h' ∧ IsDice h' i ∧ KL [i] h h' := by
  obtain ⟨v, h', a, b, r, d, _, f⟩ := roll_fr di h1 h2
  exact ⟨v, h', a, b, r, d, f.kl⟩
theorem app_turn {i F : Nat} {E : Ev} {g g1 : Hm} {e : Ev → Hm → R D} {v : Int} {acc : List Int} (x4 : E[4]? = some (some (.ref F))) (hF : g[F]? = some (.lst (acc.map D.int))) (nF : F ≠ i) (la : acc.length ≤ 1000) (ev : e E g = .ok (.int v) g1) (d1 : IsDice g1 i) (k1 : KL [i] g g1) : ∃ h', sDrop (mMeth isL fAppend (mVar 4) (mCons e mNil)) E g = .next E h' ∧ h'[F]? = some (.lst ((acc ++ [v]).map D.int)) ∧ IsDice h' i ∧ KL [i, F] g h' := by
  have hF1 := k1.get hF (by simpa using nF)
  refine ⟨g1.set F (.lst (acc.map D.int ++ [.int v])), ?_, ?_, IsDice.set d1 nF, (k1.sub (by simp)).trans (KL.set (by simp))⟩
  · exact drop_run (methL_run (var_run x4) (isL_ok hF) (cons_run ev nil_run) (fAppend_ok hF1 (by rw [List.length_map]; omega)))
  · rw [set_get hF1, List.map_append]
    rfl
theorem atI_at {ds : List D} {v : Int} (v0 : 0 ≤ v) (v1 : v < ds.length) : ∃ d, d ∈ ds ∧ L2.atI ds v = some d := by
  have lt : v.toNat < ds.length := by omega
  refine ⟨ds[v.toNat], List.getElem_mem lt, ?_⟩
  unfold L2.atI ixN
  rw [if_pos v0, if_pos v1]
  exact List.getElem?_eq_getElem lt
abbrev odds : List D := [.int 0, .int 1, .int 2, .int 5, .int 254, .int 255, .int 300, .int (0 - 1)]
theorem odds_nu {d : D} (m : d ∈ odds) : ∃ v, d = .int v ∧ Od.Nu v := by
  simp only [odds, List.mem_cons, List.not_mem_nil, or_false] at m
  rcases m with rfl | rfl | rfl | rfl | rfl | rfl | rfl | rfl <;> exact ⟨_, rfl, by unfold Od.Nu; omega⟩
section
variable {i F N : Nat} {h : Hm} {n : Str} {wild : D}
/-- a kind's turn -/
theorem ord_turn {b : Bool} {acc : List Int} {x5 : Option D} (di : IsDice h i) (hF : h[F]? = some (.lst (acc.map D.int))) (nF : F ≠ i) (la : acc.length ≤ 1000) : ∃ (v : Int) (h' : Hm), (if b then Od.Rg v else Od.Nu v) ∧ l__law_order_0 [some (.ref i), some wild, some (.ref N), some (.str n), some (.ref F), some (.str (kS b))] h = .next [some (.ref i), some wild, some (.ref N), some (.str n), some (.ref F), some (.str (kS b))] h' ∧ h'[F]? = some (.lst ((acc ++ [v]).map D.int)) ∧ IsDice h' i ∧ KL [i, F] h h' := by
  unfold l__law_order_0
  cases b with
  | true =>
    obtain ⟨v, h1, v0, v1, r1, d1, k1⟩ := roll_run di (many := 8) (by decide) (by decide)
    obtain ⟨h2, r2, f2, d2, k2⟩ := app_turn (E := [some (.ref i), some wild, some (.ref N), some (.str n), some (.ref F), some (.str (kS true))]) (e := mCallF 2 f__law_roll (mCons (mVar 0) (mCons (mC (.int 8)) mNil))) rfl hF nF la (by repeat (first | (with_reducible first | exact r1 | exact c_run | exact nil_run) | ((with_reducible apply var_run);exact rfl) | (with_reducible first | apply cons_run | apply rb_callF) | ((with_reducible refine lenP ?_);exact rfl))) d1 k1
    have c : mBool (m2 fEq (mVar 5) (mC (.str "r"))) [some (.ref i), some wild, some (.ref N), some (.str n), some (.ref F), some (.str (kS true))] h = .ok true h := bool_run (m2_run (var_run rfl) c_run (eqs_t rfl))
    exact ⟨v, h2, ⟨v0, v1⟩, if_t c r2, f2, d2, k2⟩
  | false =>
    have c : mBool (m2 fEq (mVar 5) (mC (.str "r"))) [some (.ref i), some wild, some (.ref N), some (.str n), some (.ref F), some (.str (kS false))] h = .ok false h := bool_run (m2_run (var_run rfl) c_run (eqs_f (by decide)))
    suffices q : ∃ (v : Int) (h' : Hm), Od.Nu v ∧ t__law_order_5 [some (.ref i), some wild, some (.ref N), some (.str n), some (.ref F), some (.str (kS false))] h = .next [some (.ref i), some wild, some (.ref N), some (.str n), some (.ref F), some (.str (kS false))] h' ∧ h'[F]? = some (.lst ((acc ++ [v]).map D.int)) ∧ IsDice h' i ∧ KL [i, F] h h' by
      obtain ⟨v, h', a1, a2, a3, a4, a5⟩ := q
      exact ⟨v, h', a1, if_f c a2, a3, a4, a5⟩
    have c1 : ∀ k, inF (.str n) [.str "beq", .str "bne", .str "blt", .str "bge", .str "jal"] = k → mBool (m2 (fIn false) (mVar 3) (mLst (mCons (mC (.str "beq")) (mCons (mC (.str "bne")) (mCons (mC (.str "blt")) (mCons (mC (.str "bge")) (mCons (mC (.str "jal")) mNil))))))) [some (.ref i), some wild, some (.ref N), some (.str n), some (.ref F), some (.str (kS false))] h = .ok k (h ++ [.lst [.str "beq", .str "bne", .str "blt", .str "bge", .str "jal"]]) := fun k e => by
      have q : ∀ h : Hm, fIn false (.str n) (.ref h.length) (h ++ [.lst [.str "beq", .str "bne", .str "blt", .str "bge", .str "jal"]]) = .ok (.bl k) (h ++ [.lst [.str "beq", .str "bne", .str "blt", .str "bge", .str "jal"]]) := fun h => inN rfl rfl e
      repeat (first | (with_reducible first | exact q _ | exact c_run | exact nil_run) | ((with_reducible apply var_run);exact rfl) | (with_reducible first | apply m2_run | apply cons_run | apply lst_run | apply bool_run))
    have hFa := fun g : Hm => keep_app (g := g) hF
    cases b1 : inF (.str n) [.str "beq", .str "bne", .str "blt", .str "bge", .str "jal"] with
    | true =>
      obtain ⟨v, h1, v0, v1, r1, d1, k1⟩ := roll_run (di.app (g := [.lst [.str "beq", .str "bne", .str "blt", .str "bge", .str "jal"]])) (many := 6) (by decide) (by decide)
      obtain ⟨h2, r2, f2, d2, k2⟩ := app_turn (E := [some (.ref i), some wild, some (.ref N), some (.str n), some (.ref F), some (.str (kS false))]) (e := m2 fSub (mCallF 2 f__law_roll (mCons (mVar 0) (mCons (mC (.int 6)) mNil))) (mC (.int 1))) rfl (hFa _) nF la (by repeat (first | (with_reducible first | exact r1 | exact c_run | exact nil_run) | ((with_reducible apply var_run);exact rfl) | (with_reducible first | exact fSub_i | apply m2_run | apply cons_run | apply rb_callF) | ((with_reducible refine lenP ?_);exact rfl))) d1 k1
      exact ⟨_, h2, by unfold Od.Nu; omega, if_t (c1 _ b1) r2, f2, d2, KL.app.trans k2⟩
    | false =>
      generalize eg : h ++ [.lst [.str "beq", .str "bne", .str "blt", .str "bge", .str "jal"]] = g at c1
      have dg : IsDice g i := by rw [← eg]; exact di.app
      have fg : g[F]? = some (.lst (acc.map D.int)) := by rw [← eg]; exact hFa _
      have kg : KL [i, F] h g := by rw [← eg]; exact KL.app
      suffices q : ∃ (v : Int) (h' : Hm), Od.Nu v ∧ t__law_order_4 [some (.ref i), some wild, some (.ref N), some (.str n), some (.ref F), some (.str (kS false))] g = .next [some (.ref i), some wild, some (.ref N), some (.str n), some (.ref F), some (.str (kS false))] h' ∧ h'[F]? = some (.lst ((acc ++ [v]).map D.int)) ∧ IsDice h' i ∧ KL [i, F] g h' by
        obtain ⟨v, h', a1, a2, a3, a4, a5⟩ := q
        exact ⟨v, h', a1, if_f (c1 _ b1) a2, a3, a4, kg.trans a5⟩
      have c2 : ∀ k, inF (.str n) [.str "lw", .str "sw"] = k → mBool (m2 (fIn false) (mVar 3) (mLst (mCons (mC (.str "lw")) (mCons (mC (.str "sw")) mNil)))) [some (.ref i), some wild, some (.ref N), some (.str n), some (.ref F), some (.str (kS false))] g = .ok k (g ++ [.lst [.str "lw", .str "sw"]]) := fun k e => by
        have q : ∀ h : Hm, fIn false (.str n) (.ref h.length) (h ++ [.lst [.str "lw", .str "sw"]]) = .ok (.bl k) (h ++ [.lst [.str "lw", .str "sw"]]) := fun h => inN rfl rfl e
        repeat (first | (with_reducible first | exact q _ | exact c_run | exact nil_run) | ((with_reducible apply var_run);exact rfl) | (with_reducible first | apply m2_run | apply cons_run | apply lst_run | apply bool_run))
      have fga := fun g' : Hm => keep_app (g := g') fg
      cases b2 : inF (.str n) [.str "lw", .str "sw"] with
      | true =>
        obtain ⟨v, h1, v0, v1, r1, d1, k1⟩ := roll_run ((dg.app (g := [.lst [.str "lw", .str "sw"]])).app (g := [.lst odds])) (many := 8) (by decide) (by decide)
        obtain ⟨d, md, ed⟩ := atI_at (ds := odds) v0 v1
        obtain ⟨w, rfl, nw⟩ := odds_nu md
        have gl : h1[(g ++ [O.lst [.str "lw", .str "sw"]]).length]? = some (.lst odds) := k1.get get_new (by
          have := (List.getElem?_eq_some_iff.mp dg.choose_spec.choose_spec.choose_spec).1
          simp only [List.length_append, List.mem_singleton]
          omega)
        have ix : fIx (.ref (g ++ [O.lst [.str "lw", .str "sw"]]).length) (.int v) h1 = .ok (.int w) h1 := rb_ixL gl ed
        obtain ⟨h2, r2, f2, d2, k2⟩ := app_turn (E := [some (.ref i), some wild, some (.ref N), some (.str n), some (.ref F), some (.str (kS false))]) (e := m2 fIx (mLst (mCons (mC (.int 0)) (mCons (mC (.int 1)) (mCons (mC (.int 2)) (mCons (mC (.int 5)) (mCons (mC (.int 254)) (mCons (mC (.int 255)) (mCons (mC (.int 300)) (mCons (m2 fSub (mC (.int 0)) (mC (.int 1))) mNil))))))))) (mCallF 2 f__law_roll (mCons (mVar 0) (mCons (mC (.int 8)) mNil)))) rfl (fga _) nF la (by repeat (first | (with_reducible first | exact r1 | exact ix | exact c_run | exact nil_run) | ((with_reducible apply var_run);exact rfl) | (with_reducible first | exact fSub_i | apply m2_run | apply cons_run | apply lst_run | apply rb_callF) | ((with_reducible refine lenP ?_);exact rfl))) d1 (KL.app.trans k1)
        exact ⟨w, h2, nw, if_t (c2 _ b2) r2, f2, d2, KL.app.trans k2⟩
      | false =>
        have dg2 := dg.app (g := [.lst [.str "lw", .str "sw"]])
        by_cases b3 : n = "call"
        · obtain ⟨v, h1, v0, v1, r1, d1, k1⟩ := roll_run dg2 (many := 3) (by decide) (by decide)
          have e3 : ∀ h : Hm, fEq (.str n) (.str "call") h = .ok (.bl true) h := fun h => eqs_t b3
          obtain ⟨h2, r2, f2, d2, k2⟩ := app_turn (E := [some (.ref i), some wild, some (.ref N), some (.str n), some (.ref F), some (.str (kS false))]) (e := mIf (mBool (m2 fEq (mVar 3) (mC (.str "call")))) (mCallF 2 f__law_roll (mCons (mVar 0) (mCons (mC (.int 3)) mNil))) (m2 fSub (mCallF 2 f__law_roll (mCons (mVar 0) (mCons (mC (.int 15)) mNil))) (mC (.int 5)))) rfl (fga _) nF la (by repeat (first | (with_reducible first | exact e3 _ | exact r1 | exact c_run | exact nil_run) | ((with_reducible apply var_run);exact rfl) | (with_reducible first | apply IfR.t | apply m2_run | apply cons_run | apply bool_run | apply rb_ifE | apply rb_callF) | ((with_reducible refine lenP ?_);exact rfl))) d1 k1
          exact ⟨_, h2, by unfold Od.Nu; omega, if_f (c2 _ b2) r2, f2, d2, KL.app.trans k2⟩
        · obtain ⟨v, h1, v0, v1, r1, d1, k1⟩ := roll_run dg2 (many := 15) (by decide) (by decide)
          have e3 : ∀ h : Hm, fEq (.str n) (.str "call") h = .ok (.bl false) h := fun h => eqs_f b3
          obtain ⟨h2, r2, f2, d2, k2⟩ := app_turn (E := [some (.ref i), some wild, some (.ref N), some (.str n), some (.ref F), some (.str (kS false))]) (e := mIf (mBool (m2 fEq (mVar 3) (mC (.str "call")))) (mCallF 2 f__law_roll (mCons (mVar 0) (mCons (mC (.int 3)) mNil))) (m2 fSub (mCallF 2 f__law_roll (mCons (mVar 0) (mCons (mC (.int 15)) mNil))) (mC (.int 5)))) rfl (fga _) nF la (by repeat (first | (with_reducible first | exact e3 _ | exact r1 | exact c_run | exact nil_run) | ((with_reducible apply var_run);exact rfl) | (with_reducible first | apply IfR.f | exact fSub_i | apply m2_run | apply cons_run | apply bool_run | apply rb_ifE | apply rb_callF) | ((with_reducible refine lenP ?_);exact rfl))) d1 k1
          exact ⟨_, h2, by unfold Od.Nu; omega, if_f (c2 _ b2) r2, f2, d2, KL.app.trans k2⟩
/-- all kinds -/
theorem ord_turns : ∀ (ks : List Bool) {x5 : Option D} {acc : List Int} {h : Hm}, IsDice h i → h[F]? = some (.lst (acc.map D.int)) → F ≠ i → acc.length + ks.length ≤ 1000 → ∃ (vs : List Int) (x5' : Option D) (h' : Hm), Typ ks vs ∧ forL [] (gN 5) l__law_order_0 (ks.map fun b => D.str (kS b)) [some (.ref i), some wild, some (.ref N), some (.str n), some (.ref F), x5] h = .next [some (.ref i), some wild, some (.ref N), some (.str n), some (.ref F), x5'] h' ∧ h'[F]? = some (.lst ((acc ++ vs).map D.int)) ∧ IsDice h' i ∧ KL [i, F] h h'
  | [], x5, acc, h, di, hF, nF, la => ⟨[], x5, h, .nil, forL_nil rfl, by rw [List.append_nil]; exact hF, di, KL.refl⟩
  | b :: ks, x5, acc, h, di, hF, nF, la => by
    rw [List.length_cons] at la
    obtain ⟨v, h1, tv, r1, f1, d1, k1⟩ := ord_turn (b := b) (N := N) (n := n) (wild := wild) (x5 := x5) di hF nF (by omega)
    obtain ⟨vs, x', h2, t2, r2, f2, d2, k2⟩ := ord_turns ks (x5 := some (.str (kS b))) d1 f1 nF (by rw [List.length_append, List.length_singleton]; omega)
    refine ⟨v :: vs, x', h2, ?_, ?_, ?_, d2, k1.trans k2⟩
    · cases b with
      | true => exact .r tv t2
      | false => exact .n tv t2
    · rw [List.map_cons]
      exact forL_next rfl rfl r1 r2
    · rw [List.append_assoc] at f2
      exact f2
end
end K03
end MM
namespace MM
namespace K03
open PySem L2
theorem shape_ok {n t : Str} {ks : List Bool} (k : OkN n t ks) (h : Hm) : f_shape [.str n] h = .ok (.str t) h := by
  obtain ⟨vs, tv⟩ := typ_ex ks
  obtain ⟨o, ok, rfl, _, rfl⟩ := k.od vs tv
  exact shape_run ok h
theorem mul_one {q : Nat} {ds : List D} {h : Hm} (eq : h[q]? = some (.lst ds)) (hl : ds.length ≤ 16777216) : fMul (.ref q) (.int 1) h = .ok (.ref h.length) (h ++ [O.lst ds]) := by
  unfold fMul
  simp only [eq]
  rw [if_pos ⟨by decide, by decide, by simpa using hl⟩]
  simp
theorem mul_zero {q : Nat} {ds : List D} {h : Hm} (eq : h[q]? = some (.lst ds)) (hl : ds.length ≤ 16777216) : fMul (.ref q) (.int 0) h = .ok (.ref h.length) (h ++ [O.lst []]) := by
  unfold fMul
  simp only [eq]
  rw [if_pos ⟨by decide, by decide, by simp⟩]
  simp
def nmW (w : Int) : List Str := if w = 1 then nm30 else nm27
theorem nmW_okn {w : Int} {n : Str} (h : n ∈ nmW w) : ∃ t ks, OkN n t ks := by
  unfold nmW at h
  split at h
  · exact nm30_okn h
  · exact nm27_okn h
section
variable {i : Nat} {h : Hm} {w : Int}
abbrev n17l : List D := [.str "add", .str "sub", .str "mul", .str "and", .str "or", .str "xor", .str "shl", .str "shr", .str "sar", .str "slt", .str "sltu", .str "addi", .str "andi", .str "ori", .str "xori", .str "shli", .str "slti"]
abbrev n10l : List D := [.str "beq", .str "bne", .str "blt", .str "bge", .str "lui", .str "lw", .str "sw", .str "jal", .str "lw", .str "sw"]
abbrev n3l : List D := [.str "call", .str "back", .str "jalr"]
theorem lo_0 : p__law_order_0 [some (.ref i), some (.int w), none, none, none, none] h = .next [some (.ref i), some (.int w), some (.ref h.length), none, none, none] (h ++ [O.lst n17l]) := by
  repeat (first | (with_reducible first | exact c_run | exact nil_run | apply cons_run | apply lst_run | apply rb_asg) | ((with_reducible apply envP);exact rfl))
theorem lo_1 (hw : w = 0 ∨ w = 1) : ∃ N h1, p__law_order_1 [some (.ref i), some (.int w), some (.ref h.length), none, none, none] (h ++ [O.lst n17l]) = .next [some (.ref i), some (.int w), some (.ref N), none, none, none] h1 ∧ h1[N]? = some (.lst ((nmW w).map D.str)) ∧ (∃ g, h1 = h ++ g) ∧ h.length ≤ N := by
  have a1 : fAdd (.ref h.length) (.ref (h ++ [O.lst n17l]).length) (h ++ [O.lst n17l] ++ [O.lst n10l]) = .ok (.ref (h ++ [O.lst n17l] ++ [O.lst n10l]).length) (h ++ [O.lst n17l] ++ [O.lst n10l] ++ [O.lst (n17l ++ n10l)]) := add_l (keep_app get_new) get_new (by decide)
  rcases hw with rfl | rfl
  · have m1 := mul_zero (h := h ++ [O.lst n17l] ++ [O.lst n10l] ++ [O.lst (n17l ++ n10l)] ++ [O.lst n3l]) get_new (by decide)
    have a2 : fAdd (.ref (h ++ [O.lst n17l] ++ [O.lst n10l]).length) (.ref (h ++ [O.lst n17l] ++ [O.lst n10l] ++ [O.lst (n17l ++ n10l)] ++ [O.lst n3l]).length) (h ++ [O.lst n17l] ++ [O.lst n10l] ++ [O.lst (n17l ++ n10l)] ++ [O.lst n3l] ++ [O.lst []]) = .ok (.ref (h ++ [O.lst n17l] ++ [O.lst n10l] ++ [O.lst (n17l ++ n10l)] ++ [O.lst n3l] ++ [O.lst []]).length) (h ++ [O.lst n17l] ++ [O.lst n10l] ++ [O.lst (n17l ++ n10l)] ++ [O.lst n3l] ++ [O.lst []] ++ [O.lst (n17l ++ n10l ++ [])]) := add_l (keep_app (keep_app get_new)) get_new (by decide)
    refine ⟨(h ++ [O.lst n17l] ++ [O.lst n10l] ++ [O.lst (n17l ++ n10l)] ++ [O.lst n3l] ++ [O.lst []]).length, h ++ [O.lst n17l] ++ [O.lst n10l] ++ [O.lst (n17l ++ n10l)] ++ [O.lst n3l] ++ [O.lst []] ++ [O.lst (n17l ++ n10l ++ [])], ?_, get_new, ?_, ?_⟩
    · repeat (first | (with_reducible first | exact a1 | exact m1 | exact a2 | exact c_run | exact nil_run) | ((with_reducible apply var_run);exact rfl) | (with_reducible first | apply m2_run | apply cons_run | apply lst_run | apply rb_asg) | ((with_reducible apply envP);exact rfl))
    · exact ⟨_, by simp only [List.append_assoc]; rfl⟩
    · simp only [List.length_append]
      omega
  · have m1 := mul_one (h := h ++ [O.lst n17l] ++ [O.lst n10l] ++ [O.lst (n17l ++ n10l)] ++ [O.lst n3l]) get_new (by decide)
    have a2 : fAdd (.ref (h ++ [O.lst n17l] ++ [O.lst n10l]).length) (.ref (h ++ [O.lst n17l] ++ [O.lst n10l] ++ [O.lst (n17l ++ n10l)] ++ [O.lst n3l]).length) (h ++ [O.lst n17l] ++ [O.lst n10l] ++ [O.lst (n17l ++ n10l)] ++ [O.lst n3l] ++ [O.lst n3l]) = .ok (.ref (h ++ [O.lst n17l] ++ [O.lst n10l] ++ [O.lst (n17l ++ n10l)] ++ [O.lst n3l] ++ [O.lst n3l]).length) (h ++ [O.lst n17l] ++ [O.lst n10l] ++ [O.lst (n17l ++ n10l)] ++ [O.lst n3l] ++ [O.lst n3l] ++ [O.lst (n17l ++ n10l ++ n3l)]) := add_l (keep_app (keep_app get_new)) get_new (by decide)
    refine ⟨(h ++ [O.lst n17l] ++ [O.lst n10l] ++ [O.lst (n17l ++ n10l)] ++ [O.lst n3l] ++ [O.lst n3l]).length, h ++ [O.lst n17l] ++ [O.lst n10l] ++ [O.lst (n17l ++ n10l)] ++ [O.lst n3l] ++ [O.lst n3l] ++ [O.lst (n17l ++ n10l ++ n3l)], ?_, get_new, ?_, ?_⟩
    · repeat (first | (with_reducible first | exact a1 | exact m1 | exact a2 | exact c_run | exact nil_run) | ((with_reducible apply var_run);exact rfl) | (with_reducible first | apply m2_run | apply cons_run | apply lst_run | apply rb_asg) | ((with_reducible apply envP);exact rfl))
    · exact ⟨_, by simp only [List.append_assoc]; rfl⟩
    · simp only [List.length_append]
      omega
theorem nmW_len (hw : w = 0 ∨ w = 1) : 0 < (nmW w).length ∧ (nmW w).length < 1000 := by
  rcases hw with rfl | rfl <;> decide
/-- an order drawn -/
theorem law_order_run (di : IsDice h i) (hw : w = 0 ∨ w = 1) : ∃ (o : Od) (h' : Hm), f__law_order [.ref i, .int w] h = .ok o.d h' ∧ o.ok ∧ IsDice h' i ∧ KL [i] h h' := by
  obtain ⟨N, h1, r1, hN, ⟨g1, e1⟩, nN⟩ := lo_1 (i := i) (h := h) hw
  have lt := di.lt
  have d1 : IsDice h1 i := by rw [e1]; exact di.app
  have k1 : KL [i] h h1 := by rw [e1]; exact KL.app
  have ln : fLen [.ref N] h1 = .ok (.int ((nmW w).length : Int)) h1 := by rw [fLen_lst hN, List.length_map]
  have nl := nmW_len hw
  obtain ⟨v, h2, v0, v1, r2, d2, k2⟩ := roll_run d1 (many := ((nmW w).length : Int)) (by omega) (by omega)
  have hN2 := k2.get hN (by simp only [List.mem_singleton]; omega)
  obtain ⟨d, md, ed⟩ := atI_at (ds := (nmW w).map D.str) v0 (by rw [List.length_map]; exact v1)
  obtain ⟨n, mn, rfl⟩ := List.mem_map.mp md
  obtain ⟨t, ks, ok⟩ := nmW_okn mn
  have ix : fIx (.ref N) (.int v) h2 = .ok (.str n) h2 := rb_ixL hN2 ed
  have r3 : p__law_order_2 [some (.ref i), some (.int w), some (.ref N), none, none, none] h1 = .next [some (.ref i), some (.int w), some (.ref N), some (.str n), some (.ref h2.length), none] (h2 ++ [O.lst []]) := by
    apply rb_par
    repeat (first | (with_reducible first | exact ln | exact r2 | exact ix | exact nil_run) | ((with_reducible apply var_run);exact rfl) | (with_reducible first | apply m2_run | apply cons_run | apply lst_run | apply call_run | apply rb_callF) | ((with_reducible refine lenP ?_);exact rfl))
  obtain ⟨tv0, tv⟩ := typ_ex ks
  have kl : ks.length ≤ 3 := by
    obtain ⟨o, oo, _, q, _⟩ := ok.od _ tv
    have := typ_len tv
    rw [← this, ← q]
    cases o <;> simp [Od.args]
  have lt2 := d2.lt
  obtain ⟨vs, x5, h3, tvs, r4, f4, d4, k4⟩ := ord_turns (i := i) (F := h2.length) (N := N) (n := n) (wild := .int w) ks (x5 := none) (acc := []) (h := h2 ++ [O.lst []]) d2.app get_new (by omega) (by simp; omega)
  rw [List.nil_append] at f4
  obtain ⟨o, oo, e1', e2', e3'⟩ := ok.od vs tvs
  have sh := shape_ok ok (h2 ++ [O.lst []])
  have r5 : p__law_order_3 [some (.ref i), some (.int w), some (.ref N), some (.str n), some (.ref h2.length), none] (h2 ++ [O.lst []]) = .next [some (.ref i), some (.int w), some (.ref N), some (.str n), some (.ref h2.length), x5] h3 := by
    refine for_run (it := (signs t, [])) (ds := ks.map fun b => D.str (kS b)) (gs := []) ?_ r4 ok.sg rfl
    have c : mCallF 1 f_shape (mCons (mVar 3) mNil) [some (.ref i), some (.int w), some (.ref N), some (.str n), some (.ref h2.length), none] (h2 ++ [O.lst []]) = .ok (.str t) (h2 ++ [O.lst []]) := by repeat (first | (with_reducible first | exact sh | exact nil_run) | ((with_reducible apply var_run);exact rfl) | (with_reducible first | apply cons_run | apply rb_callF) | ((with_reducible refine lenP ?_);exact rfl))
    unfold mSigns
    rw [c]
    rfl
  refine ⟨o, h3, ?_, oo, d4, ?_⟩
  · rw [f__law_order_eq]
    apply call_ret rfl rfl
    unfold b__law_order
    simp only [startE, List.map_cons, List.map_nil, List.length_cons, List.length_nil, List.cons_append, List.nil_append, Nat.zero_add, Nat.reduceAdd, Nat.reduceSub, List.replicate]
    have tu := fTuple_lst f4
    have ad : fAdd (.tup [.str n]) (.tup (vs.map D.int)) h3 = .ok o.d h3 := by
      have lv := typ_len tvs
      have q : fAdd (.tup [.str n]) (.tup (vs.map D.int)) h3 = .ok (.tup ([.str n] ++ vs.map D.int)) h3 := add_t (by
        rw [List.length_map, lv, List.length_singleton]
        omega)
      rw [q, Od.d_eq, ← e1', ← e2']
      rfl
    refine seq_next lo_0 (seq_next r1 (seq_next r3 (seq_next r5 ?_)))
    repeat (first | (with_reducible first | exact tu | exact ad | exact nil_run) | ((with_reducible apply var_run);exact rfl) | (with_reducible first | apply m2_run | apply cons_run | apply tup_run | apply call_run | apply ret_run))
  · refine ⟨Nat.le_trans k1.1 (Nat.le_trans k2.1 (Nat.le_trans (by simp) k4.1)), fun j a b => ?_⟩
    have b' : j ≠ i := by simpa using b
    have a1 : j < h1.length := Nat.lt_of_lt_of_le a k1.1
    have a2 : j < h2.length := Nat.lt_of_lt_of_le a1 k2.1
    rw [k4.2 j (by simp; omega) (by simp; omega), List.getElem?_append_left a2, k2.2 j a1 b, k1.2 j a b]
end
end K03
end MM
namespace MM
namespace K03
open PySem L2
theorem orders_lc {i t : Nat} {w : Int} {env : Ev} (ht0 : t ≠ 0) (ht2 : t ≠ 2) (e0 : env[0]? = some (some (.ref i))) (e2 : env[2]? = some (some (.int w))) (hw : w = 0 ∨ w = 1) : ∀ (ds : List D) (h : Hm), IsDice h i → ∃ (os : List Od) (h' : Hm), lcL [] (gN t) tYesM (mCallF 2 f__law_order (mCons (mVar 0) (mCons (mVar 2) mNil))) env ds h = .ok (os.map Od.d) h' ∧ (∀ o ∈ os, o.ok) ∧ os.length = ds.length ∧ IsDice h' i ∧ KL [i] h h'
  | [], h, di => ⟨[], h, by simp [lcL, gdOk], fun v hv => (by cases hv), rfl, di, KL.refl⟩
  | d :: ds, h, di => by
    obtain ⟨o, h1, run, ok, d1, f1⟩ := law_order_run (w := w) di hw
    obtain ⟨os, h2, run2, b2, len2, d2, f2⟩ := orders_lc ht0 ht2 e0 e2 hw ds h1 d1
    refine ⟨o :: os, h2, ?_, fun u hu => ?_, by rw [List.length_cons, List.length_cons, len2], d2, f1.trans f2⟩
    · have q0 : (env.set t (some d))[0]? = some (some (.ref i)) := by rw [List.getElem?_set_ne ht0]; exact e0
      have q2 : (env.set t (some d))[2]? = some (some (.int w)) := by rw [List.getElem?_set_ne ht2]; exact e2
      have tn : lcTurn (gN t) tYesM (mCallF 2 f__law_order (mCons (mVar 0) (mCons (mVar 2) mNil))) env d h = .ok (some o.d) h1 := by
        simp [lcTurn, q0, q2, run]
      rw [lcL_cons (by simp [gdOk]) tn, run2]
      rfl
    · rcases List.mem_cons.mp hu with rfl | hu
      · exact ok
      · exact b2 u hu
theorem law_program_run {i : Nat} {h : Hm} {most w : Int} (di : IsDice h i) (m0 : 0 < most) (m1 : most ≤ 300) (hw : w = 0 ∨ w = 1) : ∃ (pr : List Od) (h' : Hm), f__law_program [.ref i, .int most, .int w] h = .ok (prD pr) h' ∧ (∀ o ∈ pr, o.ok) ∧ pr ≠ [] ∧ (pr.length : Int) ≤ most ∧ IsDice h' i ∧ KL [i] h h' := by
  obtain ⟨v, h1, v0, v1, r1, d1, k1⟩ := roll_run di (many := most) m0 (by omega)
  obtain ⟨n, hn⟩ : ∃ n : Nat, (n : Int) = 1 + v := ⟨(1 + v).toNat, by omega⟩
  obtain ⟨os, h2, r2, ok, len, d2, k2⟩ := orders_lc (t := 3) (env := [some (.ref i), some (.int most), some (.int w), none]) (by decide) (by decide) rfl rfl hw ((List.range n).map (fun k : Nat => D.int (0 + (k : Int)))) h1 d1
  have a1 : mCons (m2 fAdd (mC (.int 1)) (mCallF 2 f__law_roll (mCons (mVar 0) (mCons (mVar 1) mNil)))) mNil [some (.ref i), some (.int most), some (.int w), none] h = .ok [.int (n : Int)] h1 := by
    rw [hn]
    repeat (first | (with_reducible first | exact r1 | exact c_run | exact nil_run) | ((with_reducible apply var_run);exact rfl) | (with_reducible first | exact fAdd_i | apply m2_run | apply cons_run | apply rb_callF) | ((with_reducible refine lenP ?_);exact rfl))
  have lc := lc_run (vs := [3]) (rg1_run a1 (by omega)) (by simp; omega) r2
  have ln : os.length = n := by rw [len]; simp
  refine ⟨os, h2 ++ [.lst (os.map Od.d)], ?_, ok, ?_, by omega, d2.app, (k1.trans k2).trans KL.app⟩
  · rw [f__law_program_eq]
    apply call_ret rfl rfl
    unfold b__law_program
    simp only [startE, List.map_cons, List.map_nil, List.length_cons, List.length_nil, List.cons_append, List.nil_append, Nat.zero_add, Nat.reduceAdd, Nat.reduceSub, List.replicate]
    have tu := fTuple_lst (get_new (h := h2) (o := .lst (os.map Od.d)))
    have tu' : fTuple [.ref h2.length] (h2 ++ [.lst (os.map Od.d)]) = .ok (prD os) (h2 ++ [.lst (os.map Od.d)]) := tu
    repeat (first | (with_reducible first | exact lc | exact tu' | exact nil_run | apply cons_run | apply call_run | apply ret_run))
  · intro z
    rw [z] at ln
    simp at ln
    omega
def oiP : Option Int → PyData
  | none => .none
  | some t => .int t
def enP : En → PyData
  | .go => .none
  | .halt => .tuple [.str "halt"]
  | .past p => .tuple [.str "past", .int p]
  | .fault c p => .tuple [.str "fault", .int c, .int p]
theorem py_t59 {h : Hm} {n : Nat} (l : List Int) : py h (n + 2) (.tup (l.map D.int)) = some (.tuple (l.map PyData.int)) := by
  show (mapO (py h (n + 1)) (l.map D.int)).map PyData.tuple = _
  rw [py_ints]
  rfl
theorem py_oi {h : Hm} {n : Nat} (t : Option Int) : py h (n + 1) (oi t) = some (oiP t) := by cases t <;> rfl
theorem py_en {h : Hm} {n : Nat} (e : En) : py h (n + 2) e.d = some (enP e) := by
  cases e with
  | go => rfl
  | halt => exact py_tup (mapO_cons (py_str (by decide +kernel)) rfl)
  | past p => exact py_tup (mapO_cons (py_str (by decide +kernel)) rfl)
  | fault c p => exact py_tup (mapO_cons (py_str (by decide +kernel)) rfl)
theorem lay_oi (t : Option Int) : PyData.canLay0 (oiP t) = true := by cases t <;> rfl
theorem lay_en (e : En) : PyData.canLay0 (enP e) = true := by cases e <;> first | rfl | (simp only [enP, PyData.canLay0, PyData.canLayAll0]; decide +kernel)
theorem py_seen {m : Ms} {h : Hm} : py h 60 m.seenD = some (.tuple [.int m.pl, .tuple (m.rg.map .int), .tuple (m.me.map .int), .tuple (m.ou.map .int), .tuple (m.ic.map .int), .int m.ca, .int m.bk, oiP m.hd, enP m.en]) :=
  py_tup (mapO_cons rfl (mapO_cons (py_t59 (n := 57) _) (mapO_cons (py_t59 (n := 57) _) (mapO_cons (py_t59 (n := 57) _) (mapO_cons (py_t59 (n := 57) _) (mapO_cons rfl (mapO_cons rfl (mapO_cons (py_oi (n := 58) _) (mapO_cons (py_en (n := 57) _) rfl)))))))))
theorem seen_ne {m : Ms} {h : Hm} : fNe m.seenD m.seenD h = .ok (.bl false) h := by
  refine fNe_py py_seen py_seen ?_
  simp only [PyData.canLay0, PyData.canLayAll0, lay_ints, lay_oi, lay_en]
  rfl
theorem make_exn {cn : Str} {p : Nat} {fn : Fc} {mr : Ev → Hm → MM.R (List D)} {env : Ev} {h h1 h2 : Hm} {ds : List D} {x : Ex} (er : mr env h = .ok ds h1) (hl : ds.length + 1 = p) (ef : fn (.ref h1.length :: ds) (h1 ++ [.ins cn []]) = .exn x h2) : mMake cn p fn mr env h = .exn x h2 := by
  rw [run_make, er, bind_ok, if_pos hl, ef]
theorem asg_exn {i : Nat} {m : Ev → Hm → MM.R D} {env : Ev} {h h1 : Hm} {x : Ex} (e : m env h = .exn x h1) : sAsg (gN i) m env h = .exn x env h1 := by
  rw [run_asg, e, bindS_exn]
theorem run_empty (h : Hm) : f_run [.tup [], .tup [], .int 9] h = .exn ⟨"BadProgram", []⟩ (h ++ [.ins "State" []]) := by
  apply call_exn f_run_eq rfl
  have e : f_State___init__ [.ref h.length, .tup [], .tup []] (h ++ [.ins "State" []]) = .exn ⟨"BadProgram", []⟩ (h ++ [.ins "State" []]) := by
    apply call_exn f_State___init___eq rfl
    have l0 : ∀ h : Hm, fLen [.tup []] h = .ok (.int 0) h := fun _ => rfl
    have q : p_State___init___0 [some (.ref h.length), some (.tup []), some (.tup []), none, none] (h ++ [.ins "State" []]) = .exn ⟨"BadProgram", []⟩ [some (.ref h.length), some (.tup []), some (.tup []), none, none] (h ++ [.ins "State" []]) := by repeat (first | (with_reducible first | exact l0 _ | exact c_run | exact okr | exact nil_run | exact rb_raise) | ((with_reducible apply var_run);exact rfl) | (with_reducible first | exact NotB.f | apply IfR.t | apply IfR.f) | ((with_reducible refine lt_f ?_);omega) | (with_reducible first | apply cons_run | apply bool_run | apply rb_not | apply rb_chain | apply call_run | apply rb_if))
    exact seq_exn q
  exact seq_exn (asg_exn (make_exn (cons_run (var_run rfl) (cons_run (var_run rfl) nil_run)) rfl e))
theorem forL_exn {gs : List (Nat × O)} {g : Gt} {b : Ev → Hm → SR} {d : D} {ds : List D} {env e1 e2 : Ev} {h h1 h2 : Hm} {x : Ex} (hg : gdOk gs h = true) (a : g d env h = .next e1 h1) (w : b e1 h1 = .exn x e2 h2) : forL gs g b (d :: ds) env h = .exn x e2 h2 := by
  rw [forL, if_pos hg, a, only_next]
  simp only
  rw [w]
theorem run_word {h : Hm} {pr : List Od} {w : Int} {k : D} (po : ∀ o ∈ pr, o.ok) (l0 : pr ≠ []) (l1 : pr.length ≤ 400) (hw : ¬ (0 ≤ w ∧ w < 65536)) : f_run [prD pr, .tup [.int w], k] h = .exn ⟨"BadOrder", []⟩ (h ++ [.ins "State" []]) := by
  obtain ⟨n, hn⟩ : ∃ n : Int, n = pr.length := ⟨_, rfl⟩
  have e2 := pr_len (pr := pr) (h := h ++ [.ins "State" []])
  rw [← hn] at e2
  have n0 : 0 < n := by
    have : 0 < pr.length := List.length_pos_iff.mpr l0
    omega
  have n1 : n ≤ 400 := by omega
  have e : f_State___init__ [.ref h.length, prD pr, .tup [.int w]] (h ++ [.ins "State" []]) = .exn ⟨"BadOrder", []⟩ (h ++ [.ins "State" []]) := by
    have c0 : p_State___init___0 [some (.ref h.length), some (prD pr), some (.tup [.int w]), none, none] (h ++ [.ins "State" []]) = .next [some (.ref h.length), some (prD pr), some (.tup [.int w]), none, none] (h ++ [.ins "State" []]) := by repeat (first | (with_reducible first | exact e2 | exact c_run | exact nil_run | exact nils_run) | ((with_reducible apply var_run);exact rfl) | (with_reducible first | exact NotB.t | apply IfR.t | apply IfR.f) | ((with_reducible refine lt_t ?_);omega) | ((with_reducible refine le_t ?_);omega) | (with_reducible first | apply cons_run | apply bool_run | apply rb_not | apply rb_chain | apply call_run | apply rb_if | apply rb_bind))
    obtain ⟨y3, L3⟩ := chk_orders (x0 := some (.ref h.length)) (x1 := some (prD pr)) (x2 := some (.tup [.int w])) (x4 := none) (h := h ++ [.ins "State" []]) pr none po
    have c1 : p_State___init___1 [some (.ref h.length), some (prD pr), some (.tup [.int w]), none, none] (h ++ [.ins "State" []]) = .next [some (.ref h.length), some (prD pr), some (.tup [.int w]), y3, none] (h ++ [.ins "State" []]) := for_run (itT_run rfl) L3
    have cw := check_out w hw (h ++ [.ins "State" []])
    have c2 : p_State___init___2 [some (.ref h.length), some (prD pr), some (.tup [.int w]), y3, none] (h ++ [.ins "State" []]) = .exn ⟨"BadOrder", []⟩ [some (.ref h.length), some (prD pr), some (.tup [.int w]), y3, some (.int w)] (h ++ [.ins "State" []]) := by
      refine for_run (itT_run (ds := [.int w]) rfl) (forL_exn (h1 := h ++ [.ins "State" []]) (e1 := [some (.ref h.length), some (prD pr), some (.tup [.int w]), y3, some (.int w)]) gdOk_nil rfl ?_)
      unfold l_State___init___1
      exact rb_dropX (rb_callX (cons_run (var_run rfl) nil_run) cw rfl)
    exact call_exn f_State___init___eq rfl (seq_next c0 (seq_next c1 (seq_exn c2)))
  apply call_exn f_run_eq rfl
  exact seq_exn (asg_exn (make_exn (cons_run (var_run rfl) (cons_run (var_run rfl) nil_run)) rfl e))
end K03
end MM
namespace MM
theorem Ms.fault_ic {m : Ms} {c : Int} : (m.fault c).ic = m.ic := by
  cases e : m.hd with
  | none => rw [Ms.fault_none e]
  | some t => rw [Ms.fault_some e]
theorem Ms.dd_ic {m : Ms} {o : Od} {t w : Int} {d : Dd} : (m.dd o t w d).ic.length ≤ m.ic.length := by
  cases d with
  | no => exact Nat.le_refl _
  | load ad =>
    simp only [Ms.dd]
    split
    · simp
    · split
      · rw [Ms.fault_ic]; exact Nat.le_refl _
      · exact Nat.le_refl _
  | store ad v =>
    simp only [Ms.dd]
    split
    · rw [Ms.fault_ic]; exact Nat.le_refl _
    · split
      · exact Nat.le_refl _
      · split <;> exact Nat.le_refl _
theorem Ms.doO_ic {m : Ms} {o : Od} : (m.doO o).ic.length ≤ m.ic.length := by
  by_cases x1 : o = .halt
  · subst x1
    exact Nat.le_refl _
  · by_cases x2 : ∃ c, o = .call c
    · obtain ⟨c, rfl⟩ := x2
      show (Ms.call { m with ct := m.ct + 1 } c).ic.length ≤ _
      unfold Ms.call
      split
      · exact Nat.le_refl _
      · rw [Ms.fault_ic]; exact Nat.le_refl _
    · by_cases x3 : o = .back
      · subst x3
        exact Nat.le_refl _
      · rw [Ms.doO_ex ⟨x1, x3, fun c z => x2 ⟨c, z⟩⟩]
        exact Ms.dd_ic
theorem Ms.step_ic {pr : List Od} {m : Ms} : (m.step pr).ic.length ≤ m.ic.length := by
  by_cases e : m.en = .go
  · by_cases c : 0 ≤ m.pl ∧ m.pl < pr.length
    · obtain ⟨o, q⟩ : ∃ o, pr[m.pl.toNat]? = some o := ⟨_, List.getElem?_eq_getElem (by omega)⟩
      rw [Ms.step_in e c.1 q]
      exact Ms.doO_ic
    · rw [Ms.step_out e c]
      exact Nat.le_refl _
  · rw [Ms.step_end e]
    exact Nat.le_refl _
namespace K03
open PySem L2
structure Inv (h : Hm) (P R M L R2 M2 Q I : Nat) (pr : List Od) (m : Ms) : Prop where
  st : StH h P R M pr m
  lw : LwH h L R2 M2 Q I m
  dj : ∀ x ∈ [L, R2, M2, Q, I], x ∉ [P, R, M]
section
variable {h : Hm} {P R M L R2 M2 Q I i : Nat} {pr : List Od} {m : Ms} {x0 x3 x7 x8 x9 : Option D}
abbrev envQ (x0 : Option D) (i : Nat) (pr : List Od) (x3 : Option D) (P L : Nat) (c : Int) (x7 x8 x9 : Option D) : Ev := [x0, some (.ref i), some (prD pr), x3, some (.ref P), some (.ref L), some (.int c), x7, x8, x9]
/-- mine goes on -/
theorem lp_mine (v : Inv h P R M L R2 M2 Q I pr m) (mo : m.ok) (ko : m.ou.length ≤ 1000) (ki : m.ic.length ≤ 1000) (po : ∀ o ∈ pr, o.ok) (pl : pr.length ≤ 400) (e : m.en = .go) : ∃ Q' I' h', t_law_3 (envQ x0 i pr x3 P L m.ct x7 x8 x9) h = .next (envQ x0 i pr x3 P L (m.step pr).ct x7 x8 x9) h' ∧ LwH h' L R2 M2 Q' I' (m.step pr) ∧ KL [L, R2, M2] h h' ∧ (Q' = Q ∨ h.length ≤ Q') ∧ (I' = I ∨ h.length ≤ I') := by
  have s := v.lw
  have x0' := l0 s
  have ln := pr_len (pr := pr) (h := h)
  obtain ⟨n, hn⟩ : ∃ n : Int, n = pr.length := ⟨_, rfl⟩
  rw [← hn] at ln
  by_cases c : 0 ≤ m.pl ∧ m.pl < pr.length
  · obtain ⟨o, q⟩ : ∃ o, pr[m.pl.toNat]? = some o := ⟨_, List.getElem?_eq_getElem (by omega)⟩
    rw [Ms.step_in e c.1 q]
    obtain ⟨Q', I', h', r1, s1, k1, j1, j2⟩ := ldo_run s mo ko ki (po o (List.mem_of_getElem? q)) (prD pr)
    refine ⟨Q', I', h', ?_, s1, k1, j1, j2⟩
    have px := pr_ix (h := h) c.1 q
    have c1 : m.pl < n := by omega
    rw [(Ms.doO_ok (o := o) mo c.1 (by omega)).2.2]
    repeat (first | (with_reducible first | exact x0' | exact ln | exact px | exact r1 | exact c_run | exact nil_run) | ((with_reducible apply var_run);exact rfl) | (with_reducible first | exact NotB.t | apply IfR.t | apply IfR.f) | ((with_reducible apply ThR.nx);(try simp only [List.set_cons_succ, List.set_cons_zero, setAll])) | with_reducible exact fAdd_i | ((with_reducible refine lt_t ?_);omega) | ((with_reducible refine le_t ?_);omega) | (with_reducible first | apply m2_run | apply cons_run | apply bool_run | apply rb_not | apply rb_chain | apply call_run | apply rb_callF) | ((with_reducible refine lenP ?_);exact rfl) | (with_reducible first | apply rb_seq | apply rb_if | apply drop_run | apply rb_asg) | ((with_reducible apply envP);exact rfl) | with_reducible apply rb_bind)
  · rw [Ms.step_out e c]
    have s1 : LwH _ L R2 M2 Q I { m with en := .past m.pl } := s.setL rfl rfl rfl rfl
    refine ⟨Q, I, _, ?_, s1, KL.set (by simp), .inl rfl, .inl rfl⟩
    have y8 : fSet (.ref L) (.int 8) (.tup [.str "past", .int m.pl]) h = some (h.set L (.lst (lwL R2 M2 Q I { m with en := .past m.pl }))) := p8 s (.past m.pl)
    by_cases c0 : 0 ≤ m.pl
    · have c1 : ¬ m.pl < n := by omega
      repeat (first | (with_reducible first | exact x0' | exact ln | exact y8 | exact c_run | exact nil_run) | ((with_reducible apply var_run);exact rfl) | (with_reducible first | exact NotB.f | apply IfR.t) | ((with_reducible refine lt_f ?_);omega) | ((with_reducible refine le_t ?_);omega) | (with_reducible first | apply m2_run | apply cons_run | apply tup_run | apply bool_run | apply rb_not | apply rb_chain | apply call_run | apply rb_if | apply sub_run | apply rb_bind))
    · repeat (first | (with_reducible first | exact x0' | exact y8 | exact c_run | exact okr | exact nil_run) | ((with_reducible apply var_run);exact rfl) | (with_reducible first | exact NotB.f | apply IfR.t | apply IfR.f) | ((with_reducible refine le_f ?_);omega) | (with_reducible first | apply m2_run | apply cons_run | apply tup_run | apply bool_run | apply rb_not | apply rb_chain | apply rb_if | apply sub_run))
/-- one turn -/
theorem lp_turn (v : Inv h P R M L R2 M2 Q I pr m) (mo : m.ok) (ko : m.ou.length ≤ 1000) (ki : m.ic.length ≤ 1000) (po : ∀ o ∈ pr, o.ok) (pl : pr.length ≤ 400) (e : m.en = .go) : ∃ Q' I' h', l_law_0 (envQ x0 i pr x3 P L m.ct x7 x8 x9) h = .next (envQ x0 i pr x3 P L (m.step pr).ct x7 x8 x9) h' ∧ Inv h' P R M L R2 M2 Q' I' pr (m.step pr) ∧ KL [P, R, M, L, R2, M2] h h' := by
  obtain ⟨Q', I', h1, r1, s1, k1, j1, j2⟩ := lp_mine (x0 := x0) (i := i) (x3 := x3) (x7 := x7) (x8 := x8) (x9 := x9) v mo ko ki po pl e
  have dj := v.dj
  have st := v.st
  have n1 : ∀ x ∈ [P, R, M], x ∉ [L, R2, M2] := fun x hx hy => dj x (by
    simp only [List.mem_cons, List.not_mem_nil, or_false] at hy ⊢
    rcases hy with rfl | rfl | rfl <;> simp) hx
  have st1 : StH h1 P R M pr m := st.kl k1 (n1 P (by simp)) (n1 R (by simp)) (n1 M (by simp))
  obtain ⟨h2, r2, st2, k2⟩ := step_run st1 mo (by omega) po
  have hP := get_lt st.hP
  have hR := get_lt st.hR
  have hM := get_lt st.hM
  have nQ : Q' ∉ [P, R, M] := by
    rcases j1 with rfl | z
    · exact dj _ (by simp)
    · simp only [List.mem_cons, List.not_mem_nil, or_false]
      omega
  have nI : I' ∉ [P, R, M] := by
    rcases j2 with rfl | z
    · exact dj _ (by simp)
    · simp only [List.mem_cons, List.not_mem_nil, or_false]
      omega
  have dj' : ∀ x ∈ [L, R2, M2, Q', I'], x ∉ [P, R, M] := fun x hx => by
    simp only [List.mem_cons, List.not_mem_nil, or_false] at hx
    rcases hx with rfl | rfl | rfl | rfl | rfl
    · exact dj _ (by simp)
    · exact dj _ (by simp)
    · exact dj _ (by simp)
    · exact nQ
    · exact nI
  have s2 := s1.kl k2 dj'
  refine ⟨Q', I', h2, ?_, ⟨st2, s2, dj'⟩, (k1.sub (by simp)).trans (k2.sub (by simp))⟩
  have sn := seen_run st2
  have a0 := l0 s2
  have a1 := l1 s2
  have a2 := l2 s2
  have a3 := l3 s2
  have a4 := l4 s2
  have a5 := l5 s2
  have a6 := l6 s2
  have a7 := l7 s2
  have a8 := l8 s2
  have t1 := fTuple_lst s2.hR
  have t2 := fTuple_lst s2.hM
  have t3 := fTuple_lst s2.hQ
  have t4 := fTuple_lst s2.hI
  have ne : fNe (m.step pr).seenD (.tup [.int (m.step pr).pl, .tup ((m.step pr).rg.map D.int), .tup ((m.step pr).me.map D.int), .tup ((m.step pr).ou.map D.int), .tup ((m.step pr).ic.map D.int), .int (m.step pr).ca, .int (m.step pr).bk, oi (m.step pr).hd, (m.step pr).en.d]) h2 = .ok (.bl false) h2 := seen_ne
  have r3 : t_law_4 (envQ x0 i pr x3 P L (m.step pr).ct x7 x8 x9) h1 = .next (envQ x0 i pr x3 P L (m.step pr).ct x7 x8 x9) h2 := by repeat (first | (with_reducible first | exact r2 | exact nil_run) | ((with_reducible apply var_run);exact rfl) | (with_reducible first | apply cons_run | apply rb_callF) | ((with_reducible refine lenP ?_);exact rfl) | with_reducible apply drop_run)
  have r4 : t_law_5 (envQ x0 i pr x3 P L (m.step pr).ct x7 x8 x9) h2 = .next (envQ x0 i pr x3 P L (m.step pr).ct x7 x8 x9) h2 := by
    repeat (first | (with_reducible first | exact st2.hP | exact sn | exact a0 | exact a1 | exact a2 | exact a3 | exact a4 | exact a5 | exact a6 | exact a7 | exact a8 | exact t1 | exact t2 | exact t3 | exact t4 | exact ne | exact c_run | exact nil_run | exact nils_run) | ((with_reducible apply var_run);exact rfl) | (with_reducible first | apply IfR.f | apply m2_run | apply cons_run | apply tup_run | apply bool_run | apply call_run) | ((with_reducible refine lenP1 ?_);exact rfl) | with_reducible apply rb_meth | ((with_reducible apply lkN);exact rfl) | with_reducible apply rb_if)
  unfold l_law_0
  exact seq_next r1 (seq_next r3 r4)
/-- the loop -/
theorem lp_loop (po : ∀ o ∈ pr, o.ok) (pl : pr.length ≤ 400) : ∀ (j fuel : Nat) {h : Hm} {m : Ms} {Q I : Nat}, j < fuel → Inv h P R M L R2 M2 Q I pr m → m.good → m.ct ≤ 60 → m.ic.length ≤ 1000 → (m.en ≠ .go ∨ 60 - m.ct ≤ j) →
    ∃ k Q' I' h', sWhile (mAnd (mBool (m2 (fIs false) (m2 fIx (mVar 5) (mC (.int 8))) (mC .non))) (mBool (m2 fLt (mVar 6) (mC (.int 60))))) l_law_0 fuel (envQ x0 i pr x3 P L m.ct x7 x8 x9) h = .next (envQ x0 i pr x3 P L (Ms.iter pr k m).ct x7 x8 x9) h' ∧ Inv h' P R M L R2 M2 Q' I' pr (Ms.iter pr k m) ∧ KL [P, R, M, L, R2, M2] h h' ∧ (∀ i, i < k → (Ms.iter pr i m).en = .go ∧ (Ms.iter pr i m).ct < 60) ∧ ((Ms.iter pr k m).en ≠ .go ∨ 60 ≤ (Ms.iter pr k m).ct) := by
  intro j
  induction j with
  | zero =>
    intro fuel h m Q I hf v g c60 ki hj
    obtain ⟨fuel, rfl⟩ : ∃ f, fuel = f + 1 := ⟨fuel - 1, by omega⟩
    have a8 := l8 v.lw
    refine ⟨0, Q, I, h, wh_end (h1 := h) ?_, v, KL.refl, fun i hi => by omega, by
      rcases hj with a | a
      · exact .inl a
      · exact .inr (by show 60 ≤ m.ct; omega)⟩
    by_cases e : m.en = .go
    · have z : fIs false m.en.d .non h = .ok (.bl true) h := by
        rw [en_is, decide_eq_true e]
        rfl
      have lt : fLt (.int m.ct) (.int 60) h = .ok (.bl false) h := lt_f (by
        rcases hj with a | a
        · exact (a e).elim
        · omega)
      repeat (first | (with_reducible first | exact a8 | exact z | exact lt | exact c_run) | ((with_reducible apply var_run);exact rfl) | (with_reducible first | apply IfR.t | apply m2_run | apply bool_run | apply rb_and))
    · have z : fIs false m.en.d .non h = .ok (.bl false) h := by
        rw [en_is, decide_eq_false e]
        rfl
      repeat (first | (with_reducible first | exact a8 | exact z | exact c_run | exact okr) | ((with_reducible apply var_run);exact rfl) | (with_reducible first | apply IfR.f | apply m2_run | apply bool_run | apply rb_and))
  | succ j ih =>
    intro fuel h m Q I hf v g c60 ki hj
    obtain ⟨fuel, rfl⟩ : ∃ f, fuel = f + 1 := ⟨fuel - 1, by omega⟩
    have a8 := l8 v.lw
    by_cases e : m.en = .go
    · have z : fIs false m.en.d .non h = .ok (.bl true) h := by
        rw [en_is, decide_eq_true e]
        rfl
      by_cases c : m.ct < 60
      · have ko : m.ou.length ≤ 1000 := by
          have := g.ou
          omega
        obtain ⟨Q1, I1, h1, r1, v1, k1⟩ := lp_turn (x0 := x0) (i := i) (x3 := x3) (x7 := x7) (x8 := x8) (x9 := x9) v g.ok ko ki po pl e
        obtain ⟨g1, g2, g3⟩ := Ms.step_good g pl
        have ki1 := Ms.step_ic (pr := pr) (m := m)
        obtain ⟨k, Q', I', h2, r2, v2, k2, w2, e2⟩ := ih fuel (by omega) v1 g1 (by omega) (by omega) (by
          rcases g3 e with ⟨a, b⟩ | a
          · exact .inl a
          · exact .inr (by
              rcases hj with b | b
              · exact (b e).elim
              · omega))
        refine ⟨k + 1, Q', I', h2, wh_next (h1 := h) ?_ r1 r2, v2, k1.trans k2, fun i hi => ?_, e2⟩
        · have lt : fLt (.int m.ct) (.int 60) h = .ok (.bl true) h := lt_t c
          repeat (first | (with_reducible first | exact a8 | exact z | exact lt | exact c_run) | ((with_reducible apply var_run);exact rfl) | (with_reducible first | apply IfR.t | apply m2_run | apply bool_run | apply rb_and))
        · cases i with
          | zero => exact ⟨e, c⟩
          | succ i => exact w2 i (by omega)
      · have lt : fLt (.int m.ct) (.int 60) h = .ok (.bl false) h := lt_f c
        refine ⟨0, Q, I, h, wh_end (h1 := h) ?_, v, KL.refl, fun i hi => by omega, .inr (by show 60 ≤ m.ct; omega)⟩
        repeat (first | (with_reducible first | exact a8 | exact z | exact lt | exact c_run) | ((with_reducible apply var_run);exact rfl) | (with_reducible first | apply IfR.t | apply m2_run | apply bool_run | apply rb_and))
    · have z : fIs false m.en.d .non h = .ok (.bl false) h := by
        rw [en_is, decide_eq_false e]
        rfl
      refine ⟨0, Q, I, h, wh_end (h1 := h) ?_, v, KL.refl, fun i hi => by omega, .inl e⟩
      repeat (first | (with_reducible first | exact a8 | exact z | exact c_run | exact okr) | ((with_reducible apply var_run);exact rfl) | (with_reducible first | apply IfR.f | apply m2_run | apply bool_run | apply rb_and))
end
end K03
end MM
namespace MM
theorem Ms.step_ct {pr : List Od} {m : Ms} (e : m.en = .go) (g : m.good) (l : pr.length ≤ 400) : (m.step pr).ct = m.ct + 1 ∨ ∃ p, (m.step pr).en = .past p ∧ (m.step pr).ct = m.ct := by
  by_cases c : 0 ≤ m.pl ∧ m.pl < pr.length
  · obtain ⟨o, q⟩ : ∃ o, pr[m.pl.toNat]? = some o := ⟨_, List.getElem?_eq_getElem (by omega)⟩
    rw [Ms.step_in e c.1 q]
    exact .inl (Ms.doO_ok (o := o) g.ok c.1 (by omega)).2.2
  · rw [Ms.step_out e c]
    exact .inr ⟨_, rfl, rfl⟩
theorem Ms.iter_ct {pr : List Od} {m : Ms} (g : m.good) (c0 : m.ct = 0) (l : pr.length ≤ 400) : ∀ k, (∀ i, i < k → (Ms.iter pr i m).en = .go) → (Ms.iter pr k m).good ∧ ((Ms.iter pr k m).ct = k ∨ ∃ p, (Ms.iter pr k m).en = .past p)
  | 0, _ => ⟨g, .inl c0⟩
  | k + 1, w => by
    obtain ⟨g1, a⟩ := Ms.iter_ct g c0 l k fun i hi => w i (by omega)
    have e := w k (by omega)
    rw [Ms.iter_succ]
    refine ⟨(Ms.step_good g1 l).1, ?_⟩
    have ck : (Ms.iter pr k m).ct = k := by
      rcases a with a | ⟨p, a⟩
      · exact a
      · rw [a] at e
        cases e
    rcases Ms.step_ct e g1 l with b | ⟨p, b, _⟩
    · exact .inl (by rw [b, ck]; push_cast; rfl)
    · exact .inr ⟨p, b⟩
namespace K03
open PySem L2
theorem law_eq : f_law = callM 10 1 (lawOf 2 l_law_1) := rfl
theorem mul_z {g : Hm} {n : Nat} {x : Int} (hx : x = n) (hn : n ≤ 1000) : fMul (.ref g.length) (.int x) (g ++ [.lst [.int 0]]) = .ok (.ref (g ++ [O.lst [.int 0]]).length) (g ++ [.lst [.int 0]] ++ [.lst ((List.replicate n (0 : Int)).map D.int)]) := by
  subst hx
  unfold fMul
  simp only [get_new]
  rw [if_pos ⟨by omega, by omega, by simp; omega⟩, Int.toNat_natCast, rep_flat, List.map_replicate]
theorem row_0 {pr : List Od} {m : Ms} {k : Nat} (hk : 0 < k) {h : Hm} : fIx (.tup (rowsD pr m 0 k)) (.int 0) h = .ok (rowD m) h := by
  obtain ⟨k, rfl⟩ : ∃ j, k = j + 1 := ⟨k - 1, by omega⟩
  have e : rowsD pr m 0 (k + 1) = rowD m :: (List.range' 1 k).map fun i => rowD (Ms.iter pr i m) := rfl
  rw [e]
  exact fx0
theorem rows_len {pr : List Od} {m : Ms} {k : Nat} {h : Hm} : fLen [.tup (rowsD pr m 0 k)] h = .ok (.int (k : Int)) h := by
  rw [len_t]
  unfold rowsD
  rw [List.length_map, List.length_range']
section
variable {h : Hm} {pr : List Od} {env : Ev} {I0 : Nat} {vs : List Int}
/-- the last three -/
theorem q_end (po : ∀ o ∈ pr, o.ok) (l0 : pr ≠ []) (l1 : pr.length ≤ 400) (i : IncD (.ref I0) h vs) (iw : ∀ w ∈ vs, Wd w) {x0 x1 x4 x5 x7 x8 x9 : Option D} {c : Int} : ∃ h', (sSeq q_11 (sSeq q_12 q_13)) [x0, x1, some (prD pr), some (.ref I0), x4, x5, some (.int c), x7, x8, x9] h = .next [x0, x1, some (prD pr), some (.ref I0), x4, x5, some (.int c), x7, x8, x9] h' ∧ KL [] h h' := by
  have A : ∃ h1, q_11 [x0, x1, some (prD pr), some (.ref I0), x4, x5, some (.int c), x7, x8, x9] h = .next [x0, x1, some (prD pr), some (.ref I0), x4, x5, some (.int c), x7, x8, x9] h1 ∧ KL [] h h1 := by
    by_cases hc : 0 < c
    · obtain ⟨h1, r1, k1⟩ := run_exn (most := 0) (by decide) po l0 l1 i iw 0 (by decide) (fun i hi => by
        obtain rfl : i = 0 := by omega
        rfl) (fun i hi => by omega) (by show (0 : Int) ≤ 0; decide)
      refine ⟨h1, ?_, k1⟩
      have t : mTold told_cs (mCallF 3 f_run (mCons (mVar 2) (mCons (mVar 3) (mCons (mC (.int 0)) mNil)))) [x0, x1, some (prD pr), some (.ref I0), x4, x5, some (.int c), x7, x8, x9] h = .ok (.str "large") h1 := told_exn (rb_callX (cons_run (var_run rfl) (cons_run (var_run rfl) (cons_run c_run nil_run))) r1 rfl) rfl
      have z : fGt (.int c) (.int 0) h = .ok (.bl true) h := gt_t hc
      unfold q_11
      repeat (first | (with_reducible first | exact z | exact t | exact c_run | exact nils_run) | ((with_reducible apply var_run);exact rfl) | (with_reducible first | apply IfR.t | apply IfR.f) | ((with_reducible refine nes_f ?_);decide) | (with_reducible first | apply m2_run | apply bool_run | apply rb_and | apply rb_if))
    · refine ⟨h, ?_, KL.refl⟩
      have z : fGt (.int c) (.int 0) h = .ok (.bl false) h := gt_f hc
      unfold q_11
      repeat (first | (with_reducible first | exact z | exact c_run | exact okr | exact nils_run) | ((with_reducible apply var_run);exact rfl) | (with_reducible first | apply IfR.f | apply m2_run | apply bool_run | apply rb_and | apply rb_if))
  obtain ⟨h1, r1, k1⟩ := A
  have t2 : mTold told_cs (mCallF 3 f_run (mCons (mTup mNil) (mCons (mTup mNil) (mCons (mC (.int 9)) mNil)))) [x0, x1, some (prD pr), some (.ref I0), x4, x5, some (.int c), x7, x8, x9] h1 = .ok (.str "program") (h1 ++ [.ins "State" []]) := told_exn (rb_callX (cons_run rfl (cons_run rfl (cons_run c_run nil_run))) (run_empty h1) rfl) rfl
  have r2 : q_12 [x0, x1, some (prD pr), some (.ref I0), x4, x5, some (.int c), x7, x8, x9] h1 = .next [x0, x1, some (prD pr), some (.ref I0), x4, x5, some (.int c), x7, x8, x9] (h1 ++ [.ins "State" []]) := by
    unfold q_12
    repeat (first | (with_reducible first | exact t2 | exact c_run | exact nils_run | apply IfR.f) | ((with_reducible refine nes_f ?_);decide) | (with_reducible first | apply m2_run | apply bool_run | apply rb_if))
  have t3 : mTold told_cs (mCallF 3 f_run (mCons (mVar 2) (mCons (mTup (mCons (mC (.int 65536)) mNil)) (mCons (mC (.int 9)) mNil)))) [x0, x1, some (prD pr), some (.ref I0), x4, x5, some (.int c), x7, x8, x9] (h1 ++ [.ins "State" []]) = .ok (.str "order") (h1 ++ [.ins "State" []] ++ [.ins "State" []]) := told_exn (rb_callX (cons_run (var_run rfl) (cons_run rfl (cons_run c_run nil_run))) (run_word po l0 l1 (by decide)) rfl) rfl
  have r3 : q_13 [x0, x1, some (prD pr), some (.ref I0), x4, x5, some (.int c), x7, x8, x9] (h1 ++ [.ins "State" []]) = .next [x0, x1, some (prD pr), some (.ref I0), x4, x5, some (.int c), x7, x8, x9] (h1 ++ [.ins "State" []] ++ [.ins "State" []]) := by
    unfold q_13
    repeat (first | (with_reducible first | exact t3 | exact c_run | exact nils_run | apply IfR.f) | ((with_reducible refine nes_f ?_);decide) | (with_reducible first | apply m2_run | apply bool_run | apply rb_if))
  exact ⟨_, seq_next r1 (seq_next r2 r3), (k1.trans KL.app).trans KL.app⟩
/-- the trace, looked at -/
theorem q_rows {k : Nat} {L R2 M2 Q I : Nat} {m : Ms} (hk : 0 < k) (k60 : k ≤ 60) (s : LwH h L R2 M2 Q I m) (hm : m = Ms.iter pr k (Ms.new vs)) (hc : m.ct = k ∨ ∃ p, m.en = .past p) {x0 x1 x2 x3 x4 x7 x9 : Option D} : ∃ h', (sSeq q_9 q_10) [x0, x1, x2, x3, x4, some (.ref L), some (.int m.ct), x7, some (.tup (rowsD pr (Ms.new vs) 0 k)), x9] h = .next [x0, x1, x2, x3, x4, some (.ref L), some (.int m.ct), x7, some (.tup (rowsD pr (Ms.new vs) 0 k)), x9] h' ∧ h' = h := by
  have a0 := row_0 (pr := pr) (m := Ms.new vs) hk (h := h)
  have a1 : fIx (rowD (Ms.new vs)) (.int 0) h = .ok (.int 0) h := rfl
  have ln := rows_len (pr := pr) (m := Ms.new vs) (k := k) (h := h)
  have r9 : q_9 [x0, x1, x2, x3, x4, some (.ref L), some (.int m.ct), x7, some (.tup (rowsD pr (Ms.new vs) 0 k)), x9] h = .next [x0, x1, x2, x3, x4, some (.ref L), some (.int m.ct), x7, some (.tup (rowsD pr (Ms.new vs) 0 k)), x9] h := by
    unfold q_9
    repeat (first | (with_reducible first | exact a0 | exact a1 | exact ln | exact c_run | exact nil_run | exact nils_run) | ((with_reducible apply var_run);exact rfl) | with_reducible apply IfR.f | ((with_reducible refine gt_f ?_);omega) | ((with_reducible refine ne_f ?_);omega) | (with_reducible first | apply m2_run | apply cons_run | apply bool_run | apply rb_or | apply call_run | apply rb_if))
  have a8 := l8 s
  refine ⟨h, seq_next r9 ?_, rfl⟩
  unfold q_10
  by_cases c : 0 < m.ct
  · have z : fGt (.int m.ct) (.int 0) h = .ok (.bl true) h := gt_t c
    by_cases e : m.en = .go
    · have z8 : fIs true m.en.d .non h = .ok (.bl false) h := by
        rw [en_is, decide_eq_true e]
        rfl
      repeat (first | (with_reducible first | exact z | exact a8 | exact z8 | exact c_run | exact okr | exact nils_run) | ((with_reducible apply var_run);exact rfl) | (with_reducible first | apply IfR.t | apply IfR.f | apply m2_run | apply bool_run | apply rb_and | apply rb_if))
    · have z8 : fIs true m.en.d .non h = .ok (.bl true) h := by
        rw [en_is, decide_eq_false e]
        rfl
      by_cases ep : ∃ p, m.en = .past p
      · obtain ⟨p, ep⟩ := ep
        have y : fIx m.en.d (.int 0) h = .ok (.str "past") h := by rw [ep]; rfl
        repeat (first | (with_reducible first | exact z | exact a8 | exact z8 | exact y | exact c_run | exact okr | exact nils_run) | ((with_reducible apply var_run);exact rfl) | (with_reducible first | apply IfR.t | apply IfR.f) | ((with_reducible refine nes_f ?_);decide) | (with_reducible first | apply m2_run | apply bool_run | apply rb_and | apply rb_if))
      · have hc' : m.ct = k := hc.resolve_right ep
        obtain ⟨t, y, nt⟩ : ∃ t : Str, fIx m.en.d (.int 0) h = .ok (.str t) h ∧ t ≠ "past" := by
          cases q : m.en with
          | go => exact (e q).elim
          | halt => exact ⟨"halt", rfl, by decide⟩
          | past p => exact (ep ⟨p, q⟩).elim
          | fault c p => exact ⟨"fault", rfl, by decide⟩
        have n1 : fNe (.str t) (.str "past") h = .ok (.bl true) h := nes_t nt
        have n2 : fNe (.int (k : Int)) (.int m.ct) h = .ok (.bl false) h := ne_f hc'.symm
        repeat (first | (with_reducible first | exact z | exact a8 | exact z8 | exact y | exact n1 | exact ln | exact n2 | exact c_run | exact nil_run | exact nils_run) | ((with_reducible apply var_run);exact rfl) | (with_reducible first | apply IfR.t | apply IfR.f | apply m2_run | apply cons_run | apply bool_run | apply rb_and | apply call_run | apply rb_if))
  · have z : fGt (.int m.ct) (.int 0) h = .ok (.bl false) h := gt_f c
    repeat (first | (with_reducible first | exact z | exact c_run | exact okr | exact nils_run) | ((with_reducible apply var_run);exact rfl) | (with_reducible first | apply IfR.f | apply m2_run | apply bool_run | apply rb_and | apply rb_if))
end
end K03
end MM
namespace MM
namespace K03
open PySem L2
theorem seq_split {a b c : Ev → Hm → SR} {env e1 : Ev} {h h1 : Hm} {r : SR} (x : (sSeq a b) env h = .next e1 h1) (y : c e1 h1 = r) : sSeq a (sSeq b c) env h = r := by
  rw [run_seq] at x ⊢
  cases q : a env h with
  | next e2 h2 =>
    rw [q] at x
    show sSeq b c e2 h2 = r
    exact seq_next x y
  | _ =>
    rw [q] at x
    cases x
section
variable {h : Hm} {i : Nat}
/-- mine, made -/
theorem mine_made {h : Hm} {I0 : Nat} {vs : List Int} (iw : h[I0]? = some (.lst (vs.map D.int))) {x0 x1 x2 x4 x5 x6 x7 x8 x9 : Option D} : ∃ L R2 M2 Q I h', q_3 [x0, x1, x2, some (.ref I0), x4, x5, x6, x7, x8, x9] h = .next [x0, x1, x2, some (.ref I0), x4, some (.ref L), x6, x7, x8, x9] h' ∧ LwH h' L R2 M2 Q I (Ms.new vs) ∧ KL [] h h' ∧ (∀ x ∈ [L, R2, M2, Q, I], h.length ≤ x) := by
  obtain ⟨g1, q1⟩ : ∃ g1 : Hm, g1 = h ++ [O.lst [.int 0]] ++ [O.lst ((List.replicate 8 (0 : Int)).map D.int)] := ⟨_, rfl⟩
  obtain ⟨g2, q2⟩ : ∃ g2 : Hm, g2 = g1 ++ [O.lst [.int 0]] ++ [O.lst ((List.replicate 256 (0 : Int)).map D.int)] := ⟨_, rfl⟩
  obtain ⟨R2, hR⟩ : ∃ R2, R2 = (h ++ [O.lst [.int 0]]).length := ⟨_, rfl⟩
  obtain ⟨M2, hM⟩ : ∃ M2, M2 = (g1 ++ [O.lst [.int 0]]).length := ⟨_, rfl⟩
  have m8 : fMul (.ref h.length) (.int 8) (h ++ [.lst [.int 0]]) = .ok (.ref R2) g1 := by
    rw [q1, hR]
    exact mul_z (n := 8) rfl (by decide)
  have m256 : fMul (.ref g1.length) (.int 256) (g1 ++ [.lst [.int 0]]) = .ok (.ref M2) g2 := by
    rw [q2, hM]
    exact mul_z (n := 256) rfl (by decide)
  have l1 : g1.length = h.length + 2 := by rw [q1]; simp
  have l2 : g2.length = h.length + 4 := by rw [q2]; simp [l1]
  have lR : R2 = h.length + 1 := by rw [hR]; simp
  have lM : M2 = h.length + 3 := by rw [hM]; simp [l1]
  have k1 : KL [] h g1 := by rw [q1]; exact KL.app.trans KL.app
  have k2 : KL [] h g2 := by rw [q2]; exact (k1.trans KL.app).trans KL.app
  have eR : g2[R2]? = some (.lst ((List.replicate 8 (0 : Int)).map D.int)) := by
    rw [q2]
    refine keep_app (keep_app ?_)
    rw [q1, hR]
    exact get_new
  have eM : g2[M2]? = some (.lst ((List.replicate 256 (0 : Int)).map D.int)) := by
    rw [q2, hM]
    exact get_new
  have ei : (g2 ++ [O.lst []])[I0]? = some (.lst (vs.map D.int)) := keep_app (k2.get iw (by simp))
  have fl := fList_lst ei
  obtain ⟨g3, q3⟩ : ∃ g3 : Hm, g3 = g2 ++ [O.lst []] ++ [O.lst (vs.map D.int)] := ⟨_, rfl⟩
  rw [← q3] at fl
  obtain ⟨I, hI⟩ : ∃ I, I = (g2 ++ [O.lst []]).length := ⟨_, rfl⟩
  rw [← hI] at fl
  have lI : I = h.length + 5 := by rw [hI]; simp [l2]
  have l3 : g3.length = h.length + 6 := by rw [q3]; simp [l2]
  refine ⟨g3.length, R2, M2, g2.length, I, g3 ++ [.lst [.int 0, .ref R2, .ref M2, .ref g2.length, .ref I, .int 0, .int 0, .non, .non]], ?_, ⟨get_new, ?_, ?_, ?_, ?_, by omega, by omega, by omega, ⟨by omega, by omega, by omega⟩, ⟨by omega, by omega, by omega⟩⟩, ?_, ?_⟩
  · unfold q_3
    repeat (first | (with_reducible first | exact m8 | exact m256 | exact fl | exact c_run | exact nil_run) | ((with_reducible apply var_run);exact rfl) | (with_reducible first | apply m2_run | apply cons_run | apply lst_run | apply call_run | apply rb_asg) | ((with_reducible apply envP);exact rfl))
  · rw [q3]; exact keep_app (keep_app (keep_app eR))
  · rw [q3]; exact keep_app (keep_app (keep_app eM))
  · rw [q3]; exact keep_app (keep_app get_new)
  · rw [q3, hI]; exact keep_app get_new
  · rw [q3]; exact ((k2.trans KL.app).trans KL.app).trans KL.app
  · intro x hx
    simp only [List.mem_cons, List.not_mem_nil, or_false] at hx
    omega
/-- what there is before the loop -/
theorem q_start (di : IsDice h i) {x0 x2 x3 x4 x5 x6 x7 x8 x9 : Option D} : ∃ (pr : List Od) (vs : List Int) (I0 P R M L R2 M2 Q I : Nat) (h' : Hm), (∀ c : Ev → Hm → SR, ∀ r, c [x0, some (.ref i), some (prD pr), some (.ref I0), some (.ref P), some (.ref L), some (.int 0), x7, x8, x9] h' = r → (sSeq q_0 (sSeq q_1 (sSeq q_2 (sSeq q_3 (sSeq q_4 c))))) [x0, some (.ref i), x2, x3, x4, x5, x6, x7, x8, x9] h = r) ∧ (∀ o ∈ pr, o.ok) ∧ pr ≠ [] ∧ pr.length ≤ 400 ∧ (∀ w ∈ vs, Wd w) ∧ vs.length ≤ 1000 ∧ h'[I0]? = some (.lst (vs.map D.int)) ∧ Inv h' P R M L R2 M2 Q I pr (Ms.new vs) ∧ (∀ x ∈ [P, R, M, L, R2, M2], h.length ≤ x ∧ I0 < x) ∧ KL [i] h h' := by
  obtain ⟨pr, h1, r1, po, l0, l1, d1, k1⟩ := law_program_run (w := 1) di (most := 12) (by decide) (by decide) (.inr rfl)
  have e0 : q_0 [x0, some (.ref i), x2, x3, x4, x5, x6, x7, x8, x9] h = .next [x0, some (.ref i), some (prD pr), x3, x4, x5, x6, x7, x8, x9] h1 := by
    unfold q_0
    repeat (first | (with_reducible first | exact r1 | exact c_run | exact nil_run) | ((with_reducible apply var_run);exact rfl) | (with_reducible first | apply cons_run | apply rb_callF) | ((with_reducible refine lenP ?_);exact rfl) | with_reducible apply rb_asg | ((with_reducible apply envP);exact rfl))
  obtain ⟨v, h2, v0, v1, r2, d2, k2⟩ := roll_run d1 (many := 4) (by decide) (by decide)
  obtain ⟨n, hn⟩ : ∃ n : Nat, (n : Int) = v := ⟨v.toNat, by omega⟩
  obtain ⟨vs, h3, r3, b3, n3, d3, _, f3⟩ := rolls_lc (i := i) (t := 9) (many := 9) (env := wipeE [x0, some (.ref i), some (prD pr), x3, x4, x5, x6, x7, x8, x9] [9]) (by decide) rfl (by decide) (by decide) ((List.range n).map (fun k : Nat => D.int (0 + (k : Int)))) h2 d2
  have a1 : mCons (mCallF 2 f__law_roll (mCons (mVar 1) (mCons (mC (.int 4)) mNil))) mNil [x0, some (.ref i), some (prD pr), x3, x4, x5, x6, x7, x8, x9] h1 = .ok [.int (n : Int)] h2 := by
    rw [hn]
    repeat (first | (with_reducible first | exact r2 | exact c_run | exact nil_run) | ((with_reducible apply var_run);exact rfl) | (with_reducible first | apply cons_run | apply rb_callF) | ((with_reducible refine lenP ?_);exact rfl))
  have lc := lc_run (vs := [9]) (rg1_run a1 (by omega)) (by simp; omega) r3
  have e1 : q_1 [x0, some (.ref i), some (prD pr), x3, x4, x5, x6, x7, x8, x9] h1 = .next [x0, some (.ref i), some (prD pr), some (.ref h3.length), x4, x5, x6, x7, x8, x9] (h3 ++ [.lst (vs.map D.int)]) := asg_run lc
  have nv : vs.length = n := by rw [n3]; simp
  have iw : ∀ w ∈ vs, Wd w := fun w hw => by
    have := b3 w hw
    exact ⟨by omega, by omega⟩
  obtain ⟨R, M, h5, r5, s5, k5, aR, aM⟩ := make_state (h := h3 ++ [.lst (vs.map D.int)]) (d := .ref h3.length) po l0 (by omega) (.inr ⟨_, rfl, get_new⟩) iw
  have e2 : q_2 [x0, some (.ref i), some (prD pr), some (.ref h3.length), x4, x5, x6, x7, x8, x9] (h3 ++ [.lst (vs.map D.int)]) = .next [x0, some (.ref i), some (prD pr), some (.ref h3.length), some (.ref (h3 ++ [O.lst (vs.map D.int)]).length), x5, x6, x7, x8, x9] h5 := asg_run (r5 (var_run rfl) (var_run rfl))
  have i5 : h5[h3.length]? = some (.lst (vs.map D.int)) := k5.get get_new (by simp)
  obtain ⟨L, R2, M2, Q, I, h6, e3, s6, k6, aL⟩ := mine_made (h := h5) i5 (x0 := x0) (x1 := some (.ref i)) (x2 := some (prD pr)) (x4 := some (.ref (h3 ++ [O.lst (vs.map D.int)]).length)) (x5 := x5) (x6 := x6) (x7 := x7) (x8 := x8) (x9 := x9)
  have k3 : KL [i] h h3 := (k1.trans k2).trans f3.kl
  have l3 := k3.1
  have l5 := k5.1
  have P5 := get_lt s5.hP
  have R5 := get_lt s5.hR
  have M5 := get_lt s5.hM
  have ln : (h3 ++ [O.lst (vs.map D.int)]).length = h3.length + 1 := by simp
  refine ⟨pr, vs, h3.length, (h3 ++ [O.lst (vs.map D.int)]).length, R, M, L, R2, M2, Q, I, h6, fun c r e => seq_next e0 (seq_next e1 (seq_next e2 (seq_next e3 (seq_next ?_ e)))), po, l0, by omega, iw, by omega, k6.get i5 (by simp), ⟨s5.kl k6 (by simp) (by simp) (by simp), s6, ?_⟩, ?_, (((k3.trans KL.app).trans (k5.sub (by simp))).trans (k6.sub (by simp)))⟩
  · unfold q_4
    repeat (first | (with_reducible first | exact c_run | apply rb_asg) | ((with_reducible apply envP);exact rfl))
  · intro x hx hy
    have := aL x hx
    simp only [List.mem_cons, List.not_mem_nil, or_false] at hy
    omega
  · intro x hx
    simp only [List.mem_cons, List.not_mem_nil, or_false] at hx
    have a1 := aL L (by simp)
    have a2 := aL R2 (by simp)
    have a3 := aL M2 (by simp)
    omega
/-- what there is after the loop -/
theorem q_after {pr : List Od} {vs : List Int} {I0 P R M L R2 M2 Q I k : Nat} {m : Ms} (v : Inv h P R M L R2 M2 Q I pr m) (hm : m = Ms.iter pr k (Ms.new vs)) (po : ∀ o ∈ pr, o.ok) (l0 : pr ≠ []) (l1 : pr.length ≤ 400) (iw : ∀ w ∈ vs, Wd w) (hI : h[I0]? = some (.lst (vs.map D.int))) (w : ∀ i, i < k → (Ms.iter pr i (Ms.new vs)).en = .go ∧ (Ms.iter pr i (Ms.new vs)).ct < 60) (e : m.en ≠ .go ∨ 60 ≤ m.ct) {x0 x1 x7 x8 x9 : Option D} : ∃ y7 y8 h', (sSeq q_6 (sSeq q_7 (sSeq q_8 (sSeq q_9 (sSeq q_10 (sSeq q_11 (sSeq q_12 q_13))))))) [x0, x1, some (prD pr), some (.ref I0), some (.ref P), some (.ref L), some (.int m.ct), x7, x8, x9] h = .next [x0, x1, some (prD pr), some (.ref I0), some (.ref P), some (.ref L), some (.int m.ct), y7, y8, x9] h' ∧ KL [] h h' := by
  have ic := Ms.iter_ct (Ms.new_good iw) rfl l1 k fun i hi => (w i hi).1
  rw [← hm] at ic
  obtain ⟨gd, hc⟩ := ic
  have k0 : 0 < k := by
    cases k with
    | zero =>
      subst hm
      rcases e with a | a
      · exact (a rfl).elim
      · exact absurd a (show ¬ (60 : Int) ≤ 0 by decide)
    | succ k => exact Nat.succ_pos k
  have kc : ∀ j, j < k → (Ms.iter pr j (Ms.new vs)).ct = j := fun j hj => by
    have := (Ms.iter_ct (Ms.new_good iw) rfl l1 j fun i hi => (w i (by omega)).1).2
    rcases this with a | ⟨p, a⟩
    · exact a
    · have := (w j hj).1
      rw [a] at this
      cases this
  have k60 : k ≤ 60 := by
    have a := kc (k - 1) (by omega)
    have b := (w (k - 1) (by omega)).2
    rw [a] at b
    omega
  have inc : ∀ {h' : Hm}, KL [] h h' → IncD (.ref I0) h' vs := fun z => .inr ⟨I0, rfl, z.get hI (by simp)⟩
  by_cases c : m.en = .go
  · -- not ended
    have ck : m.ct = k := by
      rcases hc with a | ⟨p, a⟩
      · exact a
      · rw [a] at c
        cases c
    have kk : k = 60 := by
      rcases e with a | a
      · exact (a c).elim
      · omega
    obtain ⟨h1, r1, k1⟩ := run_exn (most := 60) (by decide) po l0 l1 (inc KL.refl) iw k (by omega) (fun i hi => by
      by_cases z : i < k
      · exact (w i z).1
      · obtain rfl : i = k := by omega
        rw [← hm]
        exact c) (fun i hi => (w i hi).2) (by rw [← hm]; omega)
    have v1 := v.lw.kl k1 (by simp)
    have t6 : q_6 [x0, x1, some (prD pr), some (.ref I0), some (.ref P), some (.ref L), some (.int m.ct), x7, x8, x9] h = .next [x0, x1, some (prD pr), some (.ref I0), some (.ref P), some (.ref L), some (.int m.ct), some (.str "large"), x8, x9] h1 := asg_run (told_exn (rb_callX (cons_run (var_run rfl) (cons_run (var_run rfl) (cons_run c_run nil_run))) r1 rfl) rfl)
    have a8 := l8 v1
    have z8 : fIs true m.en.d .non h1 = .ok (.bl false) h1 := by
      rw [en_is, decide_eq_true c]
      rfl
    have t7 : q_7 [x0, x1, some (prD pr), some (.ref I0), some (.ref P), some (.ref L), some (.int m.ct), some (.str "large"), x8, x9] h1 = .next [x0, x1, some (prD pr), some (.ref I0), some (.ref P), some (.ref L), some (.int m.ct), some (.str "large"), x8, x9] h1 := by
      unfold q_7
      repeat (first | (with_reducible first | exact a8 | exact z8 | exact c_run | exact okr | exact nils_run) | ((with_reducible apply var_run);exact rfl) | (with_reducible first | apply IfR.f | apply m2_run | apply bool_run | apply rb_and | apply rb_if))
    obtain ⟨h2, r2, k2⟩ := trace_ok (most := 60) (by decide) po l0 l1 (inc k1) iw k k60 (fun i hi => (w i hi).1) (.inl kk)
    have t8 : q_8 [x0, x1, some (prD pr), some (.ref I0), some (.ref P), some (.ref L), some (.int m.ct), some (.str "large"), x8, x9] h1 = .next [x0, x1, some (prD pr), some (.ref I0), some (.ref P), some (.ref L), some (.int m.ct), some (.str "large"), some (.tup (rowsD pr (Ms.new vs) 0 k)), x9] h2 := by
      unfold q_8
      exact asg_run (rb_callF (cons_run (var_run rfl) (cons_run (var_run rfl) (cons_run c_run nil_run))) r2 rfl)
    obtain ⟨h3, r3, rfl⟩ := q_rows (h := h2) (L := L) (x0 := x0) (x1 := x1) (x2 := some (prD pr)) (x3 := some (.ref I0)) (x4 := some (.ref P)) (x7 := some (.str "large")) (x9 := x9) k0 k60 (v1.kl k2 (by simp)) hm hc
    obtain ⟨h4, r4, k4⟩ := q_end (h := h3) po l0 l1 (inc (k1.trans k2)) iw (x0 := x0) (x1 := x1) (x4 := some (.ref P)) (x5 := some (.ref L)) (x7 := some (.str "large")) (x8 := some (.tup (rowsD pr (Ms.new vs) 0 k))) (x9 := x9) (c := m.ct)
    exact ⟨some (.str "large"), some (.tup (rowsD pr (Ms.new vs) 0 k)), h4, seq_next t6 (seq_next t7 (seq_next t8 (seq_split r3 r4))), (k1.trans k2).trans k4⟩
  · obtain ⟨Ra, Ma, h1, r1, s1, k1⟩ := run_ok (most := 60) (by decide) po l0 l1 (inc KL.refl) iw k (by omega) w (by rw [← hm]; exact c)
    rw [← hm] at s1
    have v1 := v.lw.kl k1 (by simp)
    have u1 := v.st.kl k1 (by simp) (by simp) (by simp)
    have t6 : q_6 [x0, x1, some (prD pr), some (.ref I0), some (.ref P), some (.ref L), some (.int m.ct), x7, x8, x9] h = .next [x0, x1, some (prD pr), some (.ref I0), some (.ref P), some (.ref L), some (.int m.ct), some (.ref h.length), x8, x9] h1 := asg_run (told_ok (rb_callF (cons_run (var_run rfl) (cons_run (var_run rfl) (cons_run c_run nil_run))) r1 rfl))
    have a8 := l8 v1
    have z8 : fIs true m.en.d .non h1 = .ok (.bl true) h1 := by
      rw [en_is, decide_eq_false c]
      rfl
    have q1 : fEqI ["State"] (.ref h.length) (.str "large") h1 = .ok (.bl false) h1 := by
      unfold fEqI
      simp only [s1.hP]
      rfl
    have sn1 := seen_run s1
    have sn2 := seen_run u1
    have ne := seen_ne (m := m) (h := h1)
    have nc : fNe (.int m.ct) (.int m.ct) h1 = .ok (.bl false) h1 := ne_f rfl
    have t7 : q_7 [x0, x1, some (prD pr), some (.ref I0), some (.ref P), some (.ref L), some (.int m.ct), some (.ref h.length), x8, x9] h1 = .next [x0, x1, some (prD pr), some (.ref I0), some (.ref P), some (.ref L), some (.int m.ct), some (.ref h.length), x8, x9] h1 := by
      unfold q_7
      repeat (first | (with_reducible first | exact a8 | exact z8 | exact q1 | exact s1.hP | exact u1.hP | exact sn1 | exact sn2 | exact ne | exact nc | exact c_run | exact nil_run | exact nils_run) | ((with_reducible apply var_run);exact rfl) | (with_reducible first | apply IfR.t | apply IfR.f | apply m2_run | apply bool_run | apply rb_and | apply rb_or) | ((with_reducible refine lenP1 ?_);exact rfl) | with_reducible apply rb_meth | ((with_reducible apply lkN);exact rfl) | ((with_reducible apply lkS);exact rfl) | ((with_reducible apply memP);decide) | (with_reducible first | apply fld_run | apply rb_if))
    obtain ⟨h2, r2, k2⟩ := trace_ok (most := 60) (by decide) po l0 l1 (inc k1) iw k k60 (fun i hi => (w i hi).1) (.inr (by rw [← hm]; exact c))
    have t8 : q_8 [x0, x1, some (prD pr), some (.ref I0), some (.ref P), some (.ref L), some (.int m.ct), some (.ref h.length), x8, x9] h1 = .next [x0, x1, some (prD pr), some (.ref I0), some (.ref P), some (.ref L), some (.int m.ct), some (.ref h.length), some (.tup (rowsD pr (Ms.new vs) 0 k)), x9] h2 := by
      unfold q_8
      exact asg_run (rb_callF (cons_run (var_run rfl) (cons_run (var_run rfl) (cons_run c_run nil_run))) r2 rfl)
    obtain ⟨h3, r3, rfl⟩ := q_rows (h := h2) (L := L) (x0 := x0) (x1 := x1) (x2 := some (prD pr)) (x3 := some (.ref I0)) (x4 := some (.ref P)) (x7 := some (.ref h.length)) (x9 := x9) k0 k60 (v1.kl k2 (by simp)) hm hc
    obtain ⟨h4, r4, k4⟩ := q_end (h := h3) po l0 l1 (inc (k1.trans k2)) iw (x0 := x0) (x1 := x1) (x4 := some (.ref P)) (x5 := some (.ref L)) (x7 := some (.ref h.length)) (x8 := some (.tup (rowsD pr (Ms.new vs) 0 k))) (x9 := x9) (c := m.ct)
    exact ⟨some (.ref h.length), some (.tup (rowsD pr (Ms.new vs) 0 k)), h4, seq_next t6 (seq_next t7 (seq_next t8 (seq_split r3 r4))), (k1.trans k2).trans k4⟩
theorem round_ok : RoundOk 10 l_law_1 := by
  intro d i rest h hl di
  obtain ⟨x2, x3, x4, x5, x6, x7, x8, x9, rfl⟩ : ∃ x2 x3 x4 x5 x6 x7 x8 x9, rest = [x2, x3, x4, x5, x6, x7, x8, x9] := by
    match rest, hl with
    | [x2, x3, x4, x5, x6, x7, x8, x9], _ => exact ⟨_, _, _, _, _, _, _, _, rfl⟩
  obtain ⟨pr, vs, I0, P, R, M, L, R2, M2, Q, I, h1, r1, po, l0, l1, iw, lv, hI, v1, ad, k1⟩ := q_start di (x0 := some d) (x2 := x2) (x3 := x3) (x4 := x4) (x5 := x5) (x6 := x6) (x7 := x7) (x8 := x8) (x9 := x9)
  obtain ⟨k, Q', I', h2, r2, v2, k2, w2, e2⟩ := lp_loop (x0 := some d) (i := i) (x3 := some (.ref I0)) (x7 := x7) (x8 := x8) (x9 := x9) po l1 60 1000000 (by decide) v1 (Ms.new_good iw) (show (0 : Int) ≤ 60 by decide) (by exact lv) (.inr (show (60 : Int) - 0 ≤ (60 : Nat) by decide))
  have hI2 : h2[I0]? = some (.lst (vs.map D.int)) := k2.get hI fun z => by
    have := (ad I0 z).2
    omega
  obtain ⟨y7, y8, h3, r3, k3⟩ := q_after (h := h2) (I0 := I0) (x0 := some d) (x1 := some (.ref i)) (x7 := x7) (x8 := x8) (x9 := x9) v2 rfl po l0 l1 iw hI2 w2 e2
  refine ⟨_, h3, r1 _ _ (seq_next r2 r3), rfl, ?_⟩
  refine ⟨Nat.le_trans k1.1 (Nat.le_trans k2.1 k3.1), fun j hj ne => ?_⟩
  have j1 : j < h1.length := Nat.lt_of_lt_of_le hj k1.1
  have j2 : j < h2.length := Nat.lt_of_lt_of_le j1 k2.1
  rw [k3.2 j j2 (by simp), k2.2 j j1 fun z => by
    have := (ad j z).1
    omega, k1.2 j hj (by simpa using ne)]
theorem plain (n : Nat) : PlainLaw f_law n := by
  rw [law_eq]
  exact plain_rounds (by decide) (by decide) round_ok
end
end K03
end MM
theorem PySem.Challenge.cw_corehall_k03_a_plain_machine_holds : PySem.Challenge.rw_corehall_k03_a_plain_machine.Holds := by
  exact MM.K03.holds MM.K03.plain
