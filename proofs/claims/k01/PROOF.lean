import PyProof.Rows.All
import HandS.ForMost
import HandS.ForExc
import HandS.CallSlots
import HandS.Lambda
import HandS.TupAny
import HandS.TupMul
import HandS.Wide
import HandS.TupLe
import HandS.Flow
import HandS.Style
import HandS.Deep
import HandS.IsInst
import HandS.Small
import HandS.Conv
import HandS.WordsDict
import HandS.SetFor
import HandS.RaiseMore
import HandS.Walk
import HandS.Rev
import HandS.RevRange
import HandS.Zip
import HandS.WordsExc
import HandS.Defaults
import HandS.HeadHook2
import HandS.HeadEnd
import PyProof.SumWalkG
import PyProof.ExcBaseAll.ValueError
import HandS.HeadWalk
import HandS.TryMany
import HandS.HeadHook4
import KE.KStateDown
import HandS.Head0
import HandS.Head1
import HandS.Head2
import PySem.Challenge.RW_corehall_k01_words_of_bits
set_option Elab.async false
set_option linter.all false
set_option maxRecDepth 100000
set_option maxHeartbeats 0
namespace MM
open PySem L2

inductive D where
  | non | bl (b : Bool) | int (i : Int) | str (x : Str) | tup (ds : List D) | ref (i : Nat) | rol (ds : List D)
mutual
def D.beq : D → D → Bool
  | .non, .non => true
  | .bl a, .bl b => a == b
  | .int a, .int b => decide (a = b)
  | .str a, .str b => decide (a = b)
  | .tup a, .tup b => D.beqs a b
  | .ref a, .ref b => a == b
  | .rol a, .rol b => D.beqs a b
  | _, _ => false
def D.beqs : List D → List D → Bool
  | [], [] => true
  | a :: as, b :: bs => D.beq a b && D.beqs as bs
  | _, _ => false
end
mutual
theorem D.beq_ok : ∀ a b : D, D.beq a b = true → a = b := by
  intro a b h
  cases a <;> cases b <;> simp only [D.beq, Bool.false_eq_true, beq_iff_eq, decide_eq_true_eq] at h <;> first | rfl | (subst h; rfl) | (rw [D.beqs_ok _ _ h])
theorem D.beqs_ok : ∀ a b : List D, D.beqs a b = true → a = b := by
  intro a b h
  cases a <;> cases b <;> simp only [D.beqs, Bool.false_eq_true, Bool.and_eq_true] at h
  · rfl
  · rw [D.beq_ok _ _ h.1, D.beqs_ok _ _ h.2]
end
mutual
theorem D.beq_refl : ∀ a : D, D.beq a a = true := by
  intro a
  cases a <;> simp only [D.beq, beq_self_eq_true, decide_true]
  · exact D.beqs_refl _
  · exact D.beqs_refl _
theorem D.beqs_refl : ∀ a : List D, D.beqs a a = true := by
  intro a
  cases a
  · rfl
  · simp only [D.beqs, Bool.and_eq_true]
    exact ⟨D.beq_refl _, D.beqs_refl _⟩
end
instance : DecidableEq D := fun a b => decidable_of_iff (D.beq a b = true) ⟨D.beq_ok a b, fun e => by rw [e]; exact D.beq_refl b⟩
inductive O where
  | lst (ds : List D) | dic (kvs : List (Key × D)) | ins (c : Str) (fs : List (Str × D))
  deriving DecidableEq
abbrev Hm := List O
abbrev Ev := List (Option D)
/-- an exception: its class's name, its fields -/
structure Ex where
  cls : Str
  fs : List (Str × D)
  deriving DecidableEq
inductive R (α : Type) where
  | ok (a : α) (h : Hm)
  | exn (x : Ex) (h : Hm)
  | bad
def R.bind {α β : Type} (r : R α) (k : α → Hm → R β) : R β := match r with
  | .ok a h => k a h
  | .exn x h => .exn x h
  | .bad => .bad

structure Gx where
  K : PySem.W.Frag
  mg : Str → Option Value
  T : List (Addr × Str)
def KTup (K : PySem.W.Frag) (a : Addr) (xs : List V) : Prop :=
  ∃ (o : Obj) (its : Array Value) (n : Nat), K.lookup a = some o ∧ o.cls = .type "tuple" ∧ o.data = .seq its n ∧ its.size ≤ sizeLine ∧ Vals xs its.toList
def KLst (K : PySem.W.Frag) (a : Addr) (xs : List V) : Prop :=
  ∃ (o : Obj) (its : Array Value) (n : Nat), K.lookup a = some o ∧ o.cls = .type "list" ∧ o.dict = none ∧ o.data = .seq its n ∧ its.size ≤ sizeLine ∧ Vals xs its.toList
def TupAt (K : PySem.W.Frag) (π : List Addr) (H : Hp) (a : Addr) (xs : List V) : Prop := (H a = some (.tup xs) ∧ a ∉ π) ∨ KTup K a xs
def LstAt (K : PySem.W.Frag) (π : List Addr) (H : Hp) (a : Addr) (xs : List V) : Prop := (∃ o, H a = some (.frz o (.lst xs)) ∧ a ∉ π) ∨ KLst K a xs
theorem TupAt.sq {K : PySem.W.Frag} {π : List Addr} {H : Hp} {a : Addr} {xs : List V} (h : TupAt K π H a xs) : SqT K H a xs := by
  rcases h with ⟨h, _⟩ | h
  · exact .inl (.inl h)
  · exact .inr h
theorem LstAt.sq {K : PySem.W.Frag} {π : List Addr} {H : Hp} {a : Addr} {xs : List V} (h : LstAt K π H a xs) : SqL K H a xs := by
  rcases h with ⟨o, h, _⟩ | h
  · exact .inl (.inr ⟨o, h⟩)
  · exact .inr h
/-- what a step of the program leaves of what it does not know -/
structure Step (π : List Addr) (H : Hp) (π' : List Addr) (H' : Hp) : Prop where
  ext : ∃ more, π' = π ++ more
  out : ∀ a o, H a = some o → a ∉ π → (∀ ps, o ≠ .tbl ps) → a ∉ π'
  keep : ∀ a o, H a = some o → a ∉ π → (∀ ps, o ≠ .tbl ps) → H' a = some o
theorem Step.refl {π : List Addr} {H : Hp} : Step π H π H := ⟨⟨[], by simp⟩, fun _ _ _ h _ => h, fun _ _ h _ _ => h⟩
theorem Step.trans {π π1 π2 : List Addr} {H H1 H2 : Hp} (a : Step π H π1 H1) (b : Step π1 H1 π2 H2) : Step π H π2 H2 := by
  obtain ⟨m1, e1⟩ := a.ext
  obtain ⟨m2, e2⟩ := b.ext
  exact ⟨⟨m1 ++ m2, by rw [e2, e1, List.append_assoc]⟩, fun x o h n t => b.out x o (a.keep x o h n t) (a.out x o h n t) t, fun x o h n t => b.keep x o (a.keep x o h n t) (a.out x o h n t) t⟩
theorem Step.get {π π' : List Addr} {H H' : Hp} (s : Step π H π' H') {i : Nat} {a : Addr} (h : π[i]? = some a) : π'[i]? = some a := by
  obtain ⟨m, e⟩ := s.ext
  rw [e, List.getElem?_append_left (List.getElem?_eq_some_iff.mp h).1]
  exact h
mutual
def DV (K : PySem.W.Frag) (π : List Addr) (H : Hp) : D → V → Prop
  | .non, v => v = .non
  | .bl b, v => v = .bl b
  | .int i, v => v = .int i
  | .str x, v => v = .str x
  | .ref i, v => ∃ a, π[i]? = some a ∧ v = .ref a
  | .tup ds, v => ∃ a xs, v = .ref a ∧ TupAt K π H a xs ∧ DVs K π H ds xs
  | .rol ds, v => ∃ a xs, v = .ref a ∧ LstAt K π H a xs ∧ DVs K π H ds xs
def DVs (K : PySem.W.Frag) (π : List Addr) (H : Hp) : List D → List V → Prop
  | [], xs => xs = []
  | d :: ds, xs => ∃ v vs, xs = v :: vs ∧ DV K π H d v ∧ DVs K π H ds vs
end
section
variable {K : PySem.W.Frag} {π π' : List Addr} {H H' : Hp}
theorem TupAt.step (s : Step π H π' H') {a : Addr} {xs : List V} (h : TupAt K π H a xs) : TupAt K π' H' a xs := by
  rcases h with ⟨h, n⟩ | h
  · exact .inl ⟨s.keep a _ h n (fun ps z => by cases z), s.out a _ h n (fun ps z => by cases z)⟩
  · exact .inr h
theorem LstAt.step (s : Step π H π' H') {a : Addr} {xs : List V} (h : LstAt K π H a xs) : LstAt K π' H' a xs := by
  rcases h with ⟨o, h, n⟩ | h
  · exact .inl ⟨o, s.keep a _ h n (fun ps z => by cases z), s.out a _ h n (fun ps z => by cases z)⟩
  · exact .inr h
mutual
theorem DV.step (s : Step π H π' H') : ∀ (d : D) (v : V), DV K π H d v → DV K π' H' d v
  | .non, _, h => h
  | .bl _, _, h => h
  | .int _, _, h => h
  | .str _, _, h => h
  | .ref _, _, ⟨a, h, e⟩ => ⟨a, s.get h, e⟩
  | .tup ds, _, ⟨a, xs, e, h, q⟩ => ⟨a, xs, e, h.step s, DVs.step s ds xs q⟩
  | .rol ds, _, ⟨a, xs, e, h, q⟩ => ⟨a, xs, e, h.step s, DVs.step s ds xs q⟩
theorem DVs.step (s : Step π H π' H') : ∀ (ds : List D) (xs : List V), DVs K π H ds xs → DVs K π' H' ds xs
  | [], _, h => h
  | d :: ds, _, ⟨v, vs, e, h, q⟩ => ⟨v, vs, e, DV.step s d v h, DVs.step s ds vs q⟩
end
theorem DVs.len : ∀ {ds : List D} {xs : List V}, DVs K π H ds xs → xs.length = ds.length
  | [], _, h => by rw [show _ = [] from h] <;> rfl
  | d :: ds, _, ⟨v, vs, e, _, q⟩ => by rw [e, List.length_cons, List.length_cons, DVs.len q]
theorem DVs.get : ∀ {ds : List D} {xs : List V} {i : Nat} {d : D}, DVs K π H ds xs → ds[i]? = some d → ∃ v, xs[i]? = some v ∧ DV K π H d v
  | d :: ds, _, 0, d', ⟨v, vs, e, h, q⟩, g => by
    have g' : d = d' := Option.some.inj g
    subst g'
    exact ⟨v, by rw [e] <;> rfl, h⟩
  | d :: ds, _, i + 1, d', ⟨v, vs, e, h, q⟩, g => by
    obtain ⟨w, h1, h2⟩ := DVs.get (i := i) q g
    exact ⟨w, by rw [e]; exact h1, h2⟩
theorem DVs.app : ∀ {ds es : List D} {xs ys : List V}, DVs K π H ds xs → DVs K π H es ys → DVs K π H (ds ++ es) (xs ++ ys)
  | [], _, _, _, h, q => by rw [show _ = [] from h]; exact q
  | d :: ds, _, _, _, ⟨v, vs, e, h, q⟩, r => ⟨v, vs ++ _, by rw [e] <;> rfl, h, DVs.app q r⟩
theorem DVs.one {d : D} {v : V} (h : DV K π H d v) : DVs K π H [d] [v] := ⟨v, [], rfl, h, rfl⟩
theorem DVs.two {d e : D} {v w : V} (h : DV K π H d v) (q : DV K π H e w) : DVs K π H [d, e] [v, w] := ⟨v, [w], rfl, h, w, [], rfl, q, rfl⟩
theorem DVs.take : ∀ (n : Nat) {ds : List D} {xs : List V}, DVs K π H ds xs → DVs K π H (ds.take n) (xs.take n)
  | 0, _, _, _ => rfl
  | n + 1, [], _, h => by rw [show _ = [] from h]; rfl
  | n + 1, d :: ds, _, ⟨v, vs, e, h, q⟩ => ⟨v, vs.take n, by rw [e] <;> rfl, h, DVs.take n q⟩
theorem DVs.drop : ∀ (n : Nat) {ds : List D} {xs : List V}, DVs K π H ds xs → DVs K π H (ds.drop n) (xs.drop n)
  | 0, _, _, h => h
  | n + 1, [], _, h => by rw [show _ = [] from h]; rfl
  | n + 1, d :: ds, _, ⟨v, vs, e, h, q⟩ => by rw [e]; exact DVs.drop n q
theorem DVs.set : ∀ (i : Nat) {ds : List D} {xs : List V} {d : D} {v : V}, DVs K π H ds xs → DV K π H d v → DVs K π H (ds.set i d) (xs.set i v)
  | _, [], _, _, _, h, _ => by rw [show _ = [] from h]; rfl
  | 0, d :: ds, _, _, w, ⟨v, vs, e, h, q⟩, r => ⟨w, vs, by rw [e] <;> rfl, r, q⟩
  | i + 1, d :: ds, _, _, w, ⟨v, vs, e, h, q⟩, r => ⟨v, vs.set i w, by rw [e] <;> rfl, h, DVs.set i q r⟩
theorem DVs.snoc {ds : List D} {xs : List V} {d : D} {v : V} (h : DVs K π H ds xs) (q : DV K π H d v) : DVs K π H (ds ++ [d]) (xs ++ [v]) := h.app (.one q)
theorem DVs.rev : ∀ {ds : List D} {xs : List V}, DVs K π H ds xs → DVs K π H ds.reverse xs.reverse
  | [], _, h => by rw [show _ = [] from h]; rfl
  | d :: ds, _, ⟨v, vs, e, h, q⟩ => by rw [e, List.reverse_cons, List.reverse_cons]; exact (DVs.rev q).snoc h
theorem DVs.erase : ∀ (i : Nat) {ds : List D} {xs : List V}, DVs K π H ds xs → DVs K π H (ds.eraseIdx i) (xs.eraseIdx i)
  | _, [], _, h => by rw [show _ = [] from h]; rfl
  | 0, d :: ds, _, ⟨v, vs, e, h, q⟩ => by rw [e]; exact q
  | i + 1, d :: ds, _, ⟨v, vs, e, h, q⟩ => ⟨v, vs.eraseIdx i, by rw [e] <;> rfl, h, DVs.erase i q⟩
end
def DPs {κ : Type} (K : PySem.W.Frag) (π : List Addr) (H : Hp) : List (κ × D) → List (κ × V) → Prop
  | [], xs => xs = []
  | p :: ps, xs => ∃ v vs, xs = (p.1, v) :: vs ∧ DV K π H p.2 v ∧ DPs K π H ps vs
theorem DPs.step {κ : Type} {K : PySem.W.Frag} {π π' : List Addr} {H H' : Hp} (s : Step π H π' H') : ∀ (ps : List (κ × D)) (xs : List (κ × V)), DPs K π H ps xs → DPs K π' H' ps xs
  | [], _, h => h
  | p :: ps, _, ⟨v, vs, e, h, q⟩ => ⟨v, vs, e, h.step s _ _, DPs.step s ps vs q⟩
theorem DPs.len {κ : Type} {K : PySem.W.Frag} {π : List Addr} {H : Hp} : ∀ {ps : List (κ × D)} {xs : List (κ × V)}, DPs K π H ps xs → xs.length = ps.length
  | [], _, h => by rw [show _ = [] from h] <;> rfl
  | p :: ps, _, ⟨v, vs, e, h, q⟩ => by rw [e, List.length_cons, List.length_cons, DPs.len q]
def OV (G : Gx) (π : List Addr) (H : Hp) (a : Addr) : O → Prop
  | .lst ds => ∃ xs, H a = some (.lst xs) ∧ DVs G.K π H ds xs
  | .dic kvs => ∃ xs, H a = some (.dK xs) ∧ DPs G.K π H kvs xs
  | .ins c fs => ∃ C dx xs, G.mg c = some (.ref C) ∧ H a = some (.ins C dx xs) ∧ DPs G.K π H fs xs
theorem OV.some {G : Gx} {π : List Addr} {H : Hp} {a : Addr} {o : O} (h : OV G π H a o) : ∃ u, H a = some u := by
  cases o with
  | lst ds => obtain ⟨xs, h, _⟩ := h; exact ⟨_, h⟩
  | dic ds => obtain ⟨xs, h, _⟩ := h; exact ⟨_, h⟩
  | ins c fs => obtain ⟨C, dx, xs, _, h, _⟩ := h; exact ⟨_, h⟩
/-- an object stands as it stood, the rest has gone on -/
theorem OV.step {G : Gx} {π π' : List Addr} {H H' : Hp} {a : Addr} {o : O} (s : Step π H π' H') (e : H' a = H a) (h : OV G π H a o) : OV G π' H' a o := by
  cases o with
  | lst ds => obtain ⟨xs, h, q⟩ := h; exact ⟨xs, e.trans h, q.step s _ _⟩
  | dic ds => obtain ⟨xs, h, q⟩ := h; exact ⟨xs, e.trans h, q.step s _ _⟩
  | ins c fs => obtain ⟨C, dx, xs, g, h, q⟩ := h; exact ⟨C, dx, xs, g, e.trans h, q.step s _ _⟩
structure Good (G : Gx) (π : List Addr) (h : Hm) (H : Hp) : Prop where
  len : π.length = h.length
  nd : π.Nodup
  ob : ∀ (i : Nat) (a : Addr) (o : O), π[i]? = some a → h[i]? = some o → OV G π H a o
  tabs : LamX.Tabs G.T H
  tout : ∀ p ∈ G.T, p.1 ∉ π
section
variable {G : Gx} {π π' : List Addr} {h h' : Hm} {H H' : Hp}
theorem Good.in_ (g : Good G π h H) {a : Addr} (m : a ∈ π) : ∃ u, H a = some u := by
  obtain ⟨i, hi, e⟩ := List.mem_iff_getElem.mp m
  have q : π[i]? = some a := by rw [List.getElem?_eq_getElem hi, e]
  obtain ⟨o, ho⟩ : ∃ o, h[i]? = some o := ⟨h[i]'(by rw [← g.len]; exact hi), List.getElem?_eq_getElem _⟩
  exact (g.ob i a o q ho).some
theorem Good.free (g : Good G π h H) {a : Addr} (n : H a = none) : a ∉ π := fun m => by
  obtain ⟨u, e⟩ := g.in_ m
  rw [n] at e
  cases e
theorem Good.at_ (g : Good G π h H) {i : Nat} {o : O} (e : h[i]? = some o) : ∃ a, π[i]? = some a ∧ OV G π H a o := by
  have hi : i < π.length := by rw [g.len]; exact (List.getElem?_eq_some_iff.mp e).1
  exact ⟨π[i], List.getElem?_eq_getElem hi, g.ob i _ o (List.getElem?_eq_getElem hi) e⟩
theorem Good.obj (g : Good G π h H) {i : Nat} {a : Addr} {o : O} (e : h[i]? = some o) (q : π[i]? = some a) : OV G π H a o := g.ob i a o q e
/-- a table is none of ours -/
theorem tab_at {P : Addr} {q : Str} {H : Hp} (t : LamX.TabS H P q) : ∃ ps, H P = some (.tbl ps) := by
  obtain ⟨ps, e, _⟩ := t
  exact ⟨ps, e⟩
/-- the tables stay -/
theorem Good.tabs_upd (g : Good G π h H) {a : Addr} {o : HO} (e : H a = none ∨ ∃ u, H a = some u ∧ ¬ (∃ ps, u = .tbl ps) ∧ ∀ c q, u ≠ LamX.CodeO c q) : LamX.Tabs G.T (upd H a o) := fun p hp => by
  obtain ⟨ps, e1, e2, e3⟩ := g.tabs p hp
  have n1 : p.1 ≠ a := fun z => by
    rw [z] at e1
    rcases e with e | ⟨u, e, n, _⟩
    · rw [e] at e1; cases e1
    · rw [e] at e1; cases e1; exact n ⟨_, rfl⟩
  refine ⟨ps, by rw [upd_ne n1]; exact e1, e2, fun pos cv hc => ?_⟩
  obtain ⟨c, h1, h2⟩ := e3 pos cv hc
  have n2 : c ≠ a := fun z => by
    rw [z] at h2
    rcases e with e | ⟨u, e, _, n⟩
    · rw [e] at h2; cases h2
    · rw [e] at h2; exact n _ _ (Option.some.inj h2)
  exact ⟨c, h1, by rw [upd_ne n2]; exact h2⟩
/-- a new thing that is none of ours (a tuple, an iterator) -/
theorem Step.other (g : Good G π h H) {a : Addr} {o : HO} (n : H a = none) : Step π H π (upd H a o) :=
  ⟨⟨[], by simp⟩, fun _ _ _ q _ => q, fun b u e _ _ => by rw [upd_ne (ne_of_none e n)]; exact e⟩
theorem Good.other (g : Good G π h H) {a : Addr} {o : HO} (n : H a = none) : Good G π h (upd H a o) := by
  have s : Step π H π (upd H a o) := Step.other g n
  refine ⟨g.len, g.nd, fun i b u e1 e2 => ?_, g.tabs_upd (.inl n), g.tout⟩
  obtain ⟨w, e⟩ := (g.ob i b u e1 e2).some
  exact (g.ob i b u e1 e2).step s (upd_ne (ne_of_none e n))
/-- a new object of ours -/
theorem Step.new (g : Good G π h H) {a : Addr} {u : HO} (n : H a = none) : Step π H (π ++ [a]) (upd H a u) := by
  refine ⟨⟨[a], rfl⟩, fun b o e q _ m => ?_, fun b o e _ _ => by rw [upd_ne (ne_of_none e n)]; exact e⟩
  rcases List.mem_append.mp m with m | m
  · exact q m
  · rw [List.mem_singleton] at m
    exact ne_of_none e n m
theorem Good.new (g : Good G π h H) {a : Addr} {u : HO} {o : O} (n : H a = none) (w : OV G (π ++ [a]) (upd H a u) a o) : Good G (π ++ [a]) (h ++ [o]) (upd H a u) := by
  have s := Step.new (u := u) g n
  refine ⟨by rw [List.length_append, List.length_append, g.len] <;> rfl, ?_, fun i b v e1 e2 => ?_, g.tabs_upd (.inl n), fun p hp m => ?_⟩
  · rw [List.nodup_append]
    refine ⟨g.nd, by simp, fun x hx y hy z => ?_⟩
    rw [List.mem_singleton] at hy
    rw [z, hy] at hx
    exact g.free n hx
  · by_cases hi : i < π.length
    · rw [List.getElem?_append_left hi] at e1
      rw [List.getElem?_append_left (by rw [← g.len]; exact hi)] at e2
      obtain ⟨w', e⟩ := (g.ob i b v e1 e2).some
      exact (g.ob i b v e1 e2).step s (upd_ne (ne_of_none e n))
    · have h1 := (List.getElem?_eq_some_iff.mp e1).1
      have hi' : i = π.length := by
        rw [List.length_append, List.length_singleton] at h1
        omega
      subst hi'
      rw [List.getElem?_append_right (Nat.le_refl _), Nat.sub_self] at e1
      rw [List.getElem?_append_right (by rw [g.len]; exact Nat.le_refl _), g.len, Nat.sub_self] at e2
      have e1' : a = b := Option.some.inj e1
      have e2' : o = v := Option.some.inj e2
      subst e1' e2'
      exact w
  · rcases List.mem_append.mp m with m | m
    · exact g.tout p hp m
    · rw [List.mem_singleton] at m
      obtain ⟨ps, e⟩ := tab_at (g.tabs p hp)
      rw [m, n] at e
      cases e
theorem nodup_ix' {α : Type} {l : List α} (hN : l.Nodup) {i j : Nat} {x : α} (a : l[i]? = some x) (b : l[j]? = some x) : i = j := by
  obtain ⟨h1, e1⟩ := List.getElem?_eq_some_iff.mp a
  obtain ⟨h2, e2⟩ := List.getElem?_eq_some_iff.mp b
  exact (List.getElem_inj hN).mp (e1.trans e2.symm)
/-- an object of ours changes -/
theorem Step.put {i : Nat} {a : Addr} {u : HO} (m : π[i]? = some a) : Step π H π (upd H a u) := by
  have ma := List.mem_of_getElem? m
  exact ⟨⟨[], by simp⟩, fun _ _ _ q _ => q, fun b o e q _ => by rw [upd_ne (show b ≠ a from fun z => q (by rw [z]; exact ma))]; exact e⟩
theorem Good.put (g : Good G π h H) {i : Nat} {a : Addr} {u : HO} {o : O} (m : π[i]? = some a) (w : OV G π (upd H a u) a o) : Good G π (h.set i o) (upd H a u) := by
  have s : Step π H π (upd H a u) := Step.put m
  have hi : i < h.length := by rw [← g.len]; exact (List.getElem?_eq_some_iff.mp m).1
  have tb : ∀ b v, b ∈ π → H b = some v → (¬ ∃ ps, v = .tbl ps) ∧ ∀ c q, v ≠ LamX.CodeO c q := fun b v hb e => by
    obtain ⟨j, hj, ej⟩ := List.mem_iff_getElem.mp hb
    have q : π[j]? = some b := by rw [List.getElem?_eq_getElem hj, ej]
    have ho : h[j]? = some (h[j]'(by rw [← g.len]; exact hj)) := List.getElem?_eq_getElem _
    have z := g.ob j b _ q ho
    generalize h[j]'(by rw [← g.len]; exact hj) = oo at z
    cases oo with
    | lst ds => obtain ⟨xs, z, _⟩ := z; rw [e] at z; cases z; exact ⟨fun ⟨ps, z⟩ => (by cases z), fun c q z => (by unfold LamX.CodeO at z; cases z)⟩
    | dic ds => obtain ⟨xs, z, _⟩ := z; rw [e] at z; cases z; exact ⟨fun ⟨ps, z⟩ => (by cases z), fun c q z => (by unfold LamX.CodeO at z; cases z)⟩
    | ins c fs => obtain ⟨C, dx, xs, _, z, _⟩ := z; rw [e] at z; cases z; exact ⟨fun ⟨ps, z⟩ => (by cases z), fun c q z => (by unfold LamX.CodeO at z; cases z)⟩
  obtain ⟨v0, e0⟩ := g.in_ (List.mem_of_getElem? m)
  obtain ⟨t1, t2⟩ := tb a v0 (List.mem_of_getElem? m) e0
  refine ⟨by rw [List.length_set]; exact g.len, g.nd, fun j b v e1 e2 => ?_, g.tabs_upd (.inr ⟨v0, e0, t1, t2⟩), g.tout⟩
  by_cases hj : j = i
  · subst hj
    rw [m] at e1
    cases e1
    rw [List.getElem?_set_self hi] at e2
    cases e2
    exact w
  · rw [List.getElem?_set_ne (Ne.symm hj)] at e2
    have ne : b ≠ a := fun z => hj (nodup_ix' g.nd e1 (by rw [z]; exact m))
    exact (g.ob j b v e1 e2).step s (upd_ne ne)
end
end MM

namespace MM
open PySem L2

abbrev gx (X : Cx) (T : List (Addr × Str)) : Gx := ⟨X.K, X.mg, T⟩
structure EnvOk (G : Gx) (π : List Addr) (H : Hp) (env : Ev) (σ : L2.St) : Prop where
  len : σ.length = env.length
  get : ∀ (i : Nat) (d : D), env[i]? = some (some d) → ∃ v, σ[i]? = some (some v) ∧ DV G.K π H d v
structure S (G : Gx) (π : List Addr) (env : Ev) (h : Hm) (σ : L2.St) (H : Hp) : Prop where
  good : Good G π h H
  env : EnvOk G π H env σ
def ExV (G : Gx) (π : List Addr) (H : Hp) (x : Ex) (cls : Value) (d : Option Addr) : Prop :=
  ∃ C, G.mg x.cls = some (.ref C) ∧ cls = .ref C ∧ match d with
    | none => x.fs = []
    | some dx => ∃ xs, H dx = some (.xd xs) ∧ dx ∉ π ∧ DPs G.K π H x.fs xs
def Post (G : Gx) (W : WX) (π : List Addr) (σ : L2.St) (H : Hp) {α : Type} (r : R α) (Q : List Addr → Hp → Hm → α → Prop) : Prop := match r with
  | .ok a h' => ∀ π' H', Step π H π' H' → Good G π' h' H' → Q π' H' h' a
  | .exn x h' => ∀ π' H' cls d, Step π H π' H' → Good G π' h' H' → ExV G π' H' x cls d → W cls d σ H'
  | .bad => False
section
variable {G : Gx} {W : WX} {π π' : List Addr} {σ : L2.St} {H H' : Hp} {env : Ev} {h h' : Hm} {α β : Type}
theorem EnvOk.step (s : Step π H π' H') (e : EnvOk G π H env σ) : EnvOk G π' H' env σ := ⟨e.len, fun i d q => by
  obtain ⟨v, h1, h2⟩ := e.get i d q
  exact ⟨v, h1, h2.step s _ _⟩⟩
theorem EnvOk.set (e : EnvOk G π H env σ) {d : D} {v : V} (q : DV G.K π H d v) (i : Nat) : EnvOk G π H (env.set i (some d)) (σ.set i (some v)) := by
  refine ⟨by rw [List.length_set, List.length_set, e.len], fun j d' g => ?_⟩
  by_cases hj : j = i
  · subst hj
    have hl : j < env.length := by
      have z := (List.getElem?_eq_some_iff.mp g).1
      rw [List.length_set] at z
      exact z
    rw [List.getElem?_set_self hl] at g
    cases g
    exact ⟨v, List.getElem?_set_self (by rw [e.len]; exact hl), q⟩
  · rw [List.getElem?_set_ne (Ne.symm hj)] at g
    obtain ⟨w, h1, h2⟩ := e.get j d' g
    exact ⟨w, by rw [List.getElem?_set_ne (Ne.symm hj)]; exact h1, h2⟩
theorem EnvOk.gone (e : EnvOk G π H env σ) (i : Nat) : EnvOk G π H (env.set i none) (σ.set i none) := by
  refine ⟨by rw [List.length_set, List.length_set, e.len], fun j d' g => ?_⟩
  by_cases hj : j = i
  · subst hj
    have hl : j < env.length := by
      have z := (List.getElem?_eq_some_iff.mp g).1
      rw [List.length_set] at z
      exact z
    rw [List.getElem?_set_self hl] at g
    cases g
  · rw [List.getElem?_set_ne (Ne.symm hj)] at g
    obtain ⟨w, h1, h2⟩ := e.get j d' g
    exact ⟨w, by rw [List.getElem?_set_ne (Ne.symm hj)]; exact h1, h2⟩
theorem S.step (s : Step π H π' H') (g : Good G π' h' H') (x : S G π env h σ H) : S G π' env h' σ H' := ⟨g, x.env.step s⟩
theorem Post.mono {r : R α} {Q Q' : List Addr → Hp → Hm → α → Prop} (p : Post G W π σ H r Q) (w : ∀ π' H' h' a, Step π H π' H' → Good G π' h' H' → Q π' H' h' a → Q' π' H' h' a) : Post G W π σ H r Q' := by
  cases r with
  | ok a h' => exact fun π' H' s g => w _ _ _ _ s g (p π' H' s g)
  | exn x h' => exact p
  | bad => exact p
theorem Post.bind {r : R α} {k : α → Hm → R β} {Q : List Addr → Hp → Hm → β → Prop} (p : Post G W π σ H (r.bind k) Q) : Post G W π σ H r fun π' H' h' a => Post G W π' σ H' (k a h') Q := by
  cases r with
  | ok a h' =>
    intro π' H' s g
    have p' : Post G W π σ H (k a h') Q := p
    generalize k a h' = z at p' ⊢
    cases z with
    | ok b h2 => exact fun π2 H2 s2 g2 => p' π2 H2 (s.trans s2) g2
    | exn x h2 => exact fun π2 H2 cls d s2 g2 e => p' π2 H2 cls d (s.trans s2) g2 e
    | bad => exact p'
  | exn x h' => exact p
  | bad => exact p
end
/-- an expression's run, as a reading -/
def tE (G : Gx) (W : WX) (m : Ev → Hm → R D) : TE := fun σ H Q => ∃ π env h, S G π env h σ H ∧ Post G W π σ H (m env h) fun π' H' _ d => ∀ v, DV G.K π' H' d v → Q v H'
def tB' (G : Gx) (W : WX) (m : Ev → Hm → R Bool) : TT := fun σ H Q => ∃ π env h, S G π env h σ H ∧ Post G W π σ H (m env h) fun _ H' _ b => Q b H'
def tL (G : Gx) (W : WX) (m : Ev → Hm → R (List D)) : TA := fun σ H Q => ∃ π env h, S G π env h σ H ∧ Post G W π σ H (m env h) fun π' H' _ ds => ∀ vs, DVs G.K π' H' ds vs → Q vs H'
theorem PE.of {X : Cx} {e : Expr} {t t' : TE} (p : PE X e t) (w : ∀ σ H Q, t' σ H Q → t σ H Q) : PE X e t' := ⟨fun pins s σ H Q I h => p.run pins s σ H Q I (w σ H Q h)⟩
theorem PT.of {X : Cx} {e : Expr} {t t' : TT} (p : PT X e t) (w : ∀ σ H Q, t' σ H Q → t σ H Q) : PT X e t' := ⟨fun pins s σ H Q I h => p.run pins s σ H Q I (w σ H Q h)⟩
theorem PA.of {X : Cx} {e : List Expr} {t t' : TA} (p : PA X e t) (w : ∀ σ H Q, t' σ H Q → t σ H Q) : PA X e t' := ⟨fun pos pins s σ H Q I h => p.run pos pins s σ H Q I (w σ H Q h)⟩
theorem PS.of {X : Cx} {e : Stmt} {t t' : TS} (p : PS X e t) (w : ∀ D σ H, t' D σ H → t D σ H) : PS X e t' := ⟨fun pins s σ H D I h => p.run pins s σ H D I (w D σ H h)⟩
theorem PSs.of {X : Cx} {e : List Stmt} {t t' : TS} (p : PSs X e t) (w : ∀ D σ H, t' D σ H → t D σ H) : PSs X e t' := ⟨fun pins s σ H D I h => p.run pins s σ H D I (w D σ H h)⟩
abbrev Em (X : Cx) (T : List (Addr × Str)) (W : WX) (e : Expr) (m : Ev → Hm → R D) : Prop := PE X e (tE (gx X T) W m)
abbrev Tm (X : Cx) (T : List (Addr × Str)) (W : WX) (e : Expr) (m : Ev → Hm → R Bool) : Prop := PT X e (tB' (gx X T) W m)
abbrev Am (X : Cx) (T : List (Addr × Str)) (W : WX) (e : List Expr) (m : Ev → Hm → R (List D)) : Prop := PA X e (tL (gx X T) W m)

def mC (d : D) : Ev → Hm → R D := fun _ h => .ok d h
def mVar (i : Nat) : Ev → Hm → R D := fun env h => match env[i]? with
  | some (some d) => .ok d h
  | _ => .bad
/-- a two-place operation on data -/
abbrev F2 := D → D → Hm → R D
def m2 (f : F2) (a b : Ev → Hm → R D) : Ev → Hm → R D := fun env h => (a env h).bind fun x h1 => (b env h1).bind fun y h2 => f x y h2
def mNil : Ev → Hm → R (List D) := fun _ h => .ok [] h
def mCons (a : Ev → Hm → R D) (r : Ev → Hm → R (List D)) : Ev → Hm → R (List D) := fun env h => (a env h).bind fun x h1 => (r env h1).bind fun xs h2 => .ok (x :: xs) h2
def mTup (r : Ev → Hm → R (List D)) : Ev → Hm → R D := fun env h => (r env h).bind fun xs h1 => .ok (.tup xs) h1
def mLst (r : Ev → Hm → R (List D)) : Ev → Hm → R D := fun env h => (r env h).bind fun xs h1 => .ok (.ref h1.length) (h1 ++ [.lst xs])
section
variable {X : Cx} {T : List (Addr × Str)} {W : WX} {a b e : Expr} {es : List Expr} {ma mb me : Ev → Hm → R D} {mr : Ev → Hm → R (List D)} {pos : Pos}
theorem em_int {i j} : Em X T W (.Constant (.int i) j pos) (mC (.int i)) := PE.of pe_int fun σ H Q ⟨π, env, h, s, p⟩ => p π H Step.refl s.good _ rfl
theorem em_bl {i j} : Em X T W (.Constant (.bool i) j pos) (mC (.bl i)) := PE.of pe_bl fun σ H Q ⟨π, env, h, s, p⟩ => p π H Step.refl s.good _ rfl
theorem em_non {j} : Em X T W (.Constant .none j pos) (mC .non) := PE.of pe_non fun σ H Q ⟨π, env, h, s, p⟩ => p π H Step.refl s.good _ rfl
theorem em_str {i j} : Em X T W (.Constant (.str i) j pos) (mC (.str i)) := PE.of pe_str fun σ H Q ⟨π, env, h, s, p⟩ => p π H Step.refl s.good _ rfl
theorem em_var (i : Nat) {x : Str} (hN : X.N[i]? = some x := by rfl) (hv : Vis X.env.scope x := by first | exact Or.inl rfl | exact Or.inr (Or.inl rfl) | exact Or.inr (Or.inr rfl)) (hd : (x == ("__debug__" : Str)) = false := by rfl)
    (hcd : (x == ("__classdict__" : Str)) = false := by rfl) : Em X T W (.Name x pos) (mVar i) := PE.of (pe_var hN hv hd hcd) fun σ H Q ⟨π, env, h, s, p⟩ => by
  cases q : env[i]? with
  | none => simp only [mVar, q] at p; exact p.elim
  | some o =>
    cases o with
    | none => simp only [mVar, q] at p; exact p.elim
    | some d =>
      obtain ⟨v, h1, h2⟩ := s.env.get i d q
      simp only [mVar, q] at p
      exact ⟨v, h1, p π H Step.refl s.good v h2⟩
/-- a value of the module -/
theorem em_glob {x : Str} {d : D} {v : V} {u : Value} (hg : Gl X x) (hm : X.mg x = some u) (r : RelV v u) (hd : ∀ π H, DV X.K π H d v) (hdb : (x == ("__debug__" : Str)) = false := by rfl) : Em X T W (.Name x pos) (mC d) :=
  PE.of (pe_glob hg hm r hdb) fun σ H Q ⟨π, env, h, s, p⟩ => p π H Step.refl s.good _ (hd π H)
/-- what a rule of the hand layer does, in data -/
def Op2 (G : Gx) (r : R2) (f : F2) : Prop := ∀ (W : WX) (π : List Addr) (σ : L2.St) (h : Hm) (H : Hp) (d e : D) (x y : V) (Q : VK), Good G π h H → DV G.K π H d x → DV G.K π H e y → Post G W π σ H (f d e h) (fun π' H' _ z => ∀ v, DV G.K π' H' z v → Q v H') → r x y H Q
theorem chain2 {r : R2} {f : F2} (ho : Op2 (gx X T) r f) {σ : L2.St} {H : Hp} {Q : VK} (p : tE (gx X T) W (m2 f ma mb) σ H Q) : tOp r (tE (gx X T) W ma) (tE (gx X T) W mb) σ H Q := by
  obtain ⟨π, env, h, s, p⟩ := p
  refine ⟨π, env, h, s, p.bind.mono fun π1 H1 h1 d s1 g1 p1 x dx => ?_⟩
  refine ⟨π1, env, h1, s.step s1 g1, p1.bind.mono fun π2 H2 h2 e s2 g2 p2 y ey => ?_⟩
  exact ho W π2 σ h2 H2 d e x y Q g2 (dx.step s2 _ _) ey p2
theorem em_op {op : Operator} {r : R2} {f : F2} (hr : OpR X (binaryOp op) r) (ho : Op2 (gx X T) r f) (ha : Em X T W a ma) (hb : Em X T W b mb) : Em X T W (.BinOp a op b pos) (m2 f ma mb) :=
  PE.of (pe_op hr ha hb) fun σ H Q p => chain2 ho p
theorem em_cmp {op : CmpOp} {r : R2} {f : F2} (hr : OpR X (compareOp op) r) (ho : Op2 (gx X T) r f) (ha : Em X T W a ma) (hb : Em X T W b mb) (hm : behindInMarks op b = false) : Em X T W (.Compare a [op] [b] pos) (m2 f ma mb) :=
  PE.of (pe_cmpR hr ha hb hm) fun σ H Q p => chain2 ho p
theorem am_nil : Am X T W [] mNil := PA.of pa_nil fun σ H Q ⟨π, env, h, s, p⟩ => p π H Step.refl s.good _ rfl
theorem am_cons (ha : Em X T W e me) (hr : Am X T W es mr) (hs : starEach (e :: es) X.env = (false, eval e X.env) :: starEach es X.env := by rfl) : Am X T W (e :: es) (mCons me mr) :=
  PA.of (pa_cons ha hr hs) fun σ H Q ⟨π, env, h, s, p⟩ => by
    refine ⟨π, env, h, s, p.bind.mono fun π1 H1 h1 d s1 g1 p1 x dx => ?_⟩
    refine ⟨π1, env, h1, s.step s1 g1, p1.bind.mono fun π2 H2 h2 e s2 g2 p2 y ey => ?_⟩
    exact p2 π2 H2 Step.refl g2 _ ⟨x, y, rfl, dx.step s2 _ _, ey⟩
end
end MM

namespace MM
open PySem L2

theorem szl {n : Nat} (h : n ≤ 16777216) : n ≤ sizeLine := by rw [sizeLine_eq]; exact h
theorem szl' {n : Nat} (h : n < 16777216) : n < sizeLine := by rw [sizeLine_eq]; exact h
section
variable {G : Gx} {π : List Addr} {h : Hm} {H : Hp} {α : Type}
theorem post_ok {W : WX} {σ : L2.St} {a : α} {Q : List Addr → Hp → Hm → α → Prop} (g : Good G π h H) (p : Post G W π σ H (.ok a h) Q) : Q π H h a := p π H Step.refl g
/-- an answer that stands by itself -/
theorem post_val {W : WX} {σ : L2.St} {d : D} {v : V} {Q : VK} (g : Good G π h H) (p : Post G W π σ H (.ok d h) fun π' H' _ z => ∀ v, DV G.K π' H' z v → Q v H') (e : DV G.K π H d v) : Q v H := p π H Step.refl g v e
/-- a new tuple -/
theorem post_tup {W : WX} {σ : L2.St} {ds : List D} {xs : List V} {Q : VK} (g : Good G π h H) (p : Post G W π σ H (.ok (.tup ds) h) fun π' H' _ z => ∀ v, DV G.K π' H' z v → Q v H') (e : DVs G.K π H ds xs) (a : Addr) (n : H a = none) : Q (.ref a) (upd H a (.tup xs)) :=
  p π _ (Step.other g n) (g.other n) _ ⟨a, xs, rfl, .inl ⟨upd_same, g.free n⟩, e.step (Step.other g n) _ _⟩
/-- a new list -/
theorem post_lst {W : WX} {σ : L2.St} {ds : List D} {xs : List V} {Q : VK} (g : Good G π h H) (p : Post G W π σ H (.ok (.ref h.length) (h ++ [.lst ds])) fun π' H' _ z => ∀ v, DV G.K π' H' z v → Q v H') (e : DVs G.K π H ds xs) (a : Addr) (n : H a = none) : Q (.ref a) (upd H a (.lst xs)) := by
  have s := Step.new (a := a) (u := .lst xs) g n
  refine p (π ++ [a]) _ s (g.new n ⟨xs, upd_same, e.step s _ _⟩) _ ⟨a, ?_, rfl⟩
  rw [List.getElem?_append_right (by rw [g.len]; exact Nat.le_refl _), g.len, Nat.sub_self] <;> rfl
/-- a list of ours, read -/
theorem Good.lst (g : Good G π h H) {i : Nat} {ds : List D} {a : Addr} (e : h[i]? = some (.lst ds)) (q : π[i]? = some a) : ∃ xs, H a = some (.lst xs) ∧ DVs G.K π H ds xs := g.obj e q
end

def fAdd : F2 := fun x y h => match x, y with
  | .int a, .int b => .ok (.int (a + b)) h
  | .str a, .str b => if a.length + b.length ≤ 16777216 then .ok (.str (a ++ b)) h else .bad
  | .tup a, .tup b => if a.length + b.length ≤ 16777216 then .ok (.tup (a ++ b)) h else .bad
  | .ref i, .ref j => match h[i]?, h[j]? with
    | some (.lst a), some (.lst b) => if a.length + b.length ≤ 16777216 then .ok (.ref h.length) (h ++ [.lst (a ++ b)]) else .bad
    | _, _ => .bad
  | _, _ => .bad
def rAddM (K : PySem.W.Frag) : R2 := fun x y H Q => rI0 (fun i j => .int (i + j)) x y H Q ∨ (∃ i j, x = .str i ∧ y = .str j ∧ i.length + j.length ≤ sizeLine ∧ Q (.str (i ++ j)) H) ∨ rCatA K x y H Q ∨ rCat x y H Q
theorem or_add {X : Cx} : OpR X (binaryOp .Add) (rAddM X.K) := op_add.or (op_add_str.or (op_catA.or op_cat))
theorem o2_add {G : Gx} : Op2 G (rAddM G.K) fAdd := by
  intro W π σ h H d e x y Q g dx ey p
  unfold fAdd at p
  split at p
  · obtain rfl := (show x = _ from dx)
    obtain rfl := (show y = _ from ey)
    exact .inl ⟨_, _, rfl, rfl, post_val g p rfl⟩
  · obtain rfl := (show x = _ from dx)
    obtain rfl := (show y = _ from ey)
    split at p
    · rename_i hl
      exact .inr (.inl ⟨_, _, rfl, rfl, szl hl, post_val g p rfl⟩)
    · exact p.elim
  · obtain ⟨a, xs, rfl, ta, da⟩ := dx
    obtain ⟨b, ys, rfl, tb, db⟩ := ey
    split at p
    · rename_i hl
      refine .inr (.inr (.inl ⟨a, b, xs, ys, rfl, rfl, ta.sq, tb.sq, szl (by rw [da.len, db.len]; exact hl), fun z => ?_, fun z1 z2 => ?_, fun z1 z2 q n => ?_⟩))
      · subst z
        have e0 := da.len
        have e1 : _ = [] := List.length_eq_zero_iff.mp e0.symm
        subst e1
        exact post_val g p ⟨b, ys, rfl, tb, db⟩
      · subst z2
        have e0 := db.len
        have e1 : _ = [] := List.length_eq_zero_iff.mp e0.symm
        subst e1
        rw [List.append_nil] at p
        exact post_val g p ⟨a, xs, rfl, ta, da⟩
      · exact post_tup g p (da.app db) q n
    · exact p.elim
  · obtain ⟨a, qa, rfl⟩ := dx
    obtain ⟨b, qb, rfl⟩ := ey
    split at p
    · rename_i u v e1 e2
      split at p
      · rename_i hl
        obtain ⟨xs, ha, da⟩ := g.lst e1 qa
        obtain ⟨ys, hb, db⟩ := g.lst e2 qb
        exact .inr (.inr (.inr ⟨a, b, xs, ys, rfl, rfl, ha, hb, szl (by rw [da.len, db.len]; exact hl), fun q n => post_lst g p (da.app db) q n⟩))
      · exact p.elim
    · exact p.elim
  · exact p.elim

def fI (f : Int → Int → Option D) : F2 := fun x y h => match x, y with
  | .int a, .int b => match f a b with
    | some d => .ok d h
    | none => .bad
  | _, _ => .bad
theorem o2_int {G : Gx} {r : R2} {f : Int → Int → Option D} (w : ∀ i j d H Q v, f i j = some d → DV G.K [] H d v → Q v H → r (.int i) (.int j) H Q) (flat : ∀ i j d, f i j = some d → (∃ k, d = .int k) ∨ ∃ b, d = .bl b) : Op2 G r (fI f) := by
  intro W π σ h H d e x y Q g dx ey p
  unfold fI at p
  split at p
  · rename_i i j
    obtain rfl := (show x = _ from dx)
    obtain rfl := (show y = _ from ey)
    cases q : f i j with
    | none => rw [q] at p; exact p.elim
    | some z =>
      rw [q] at p
      rcases flat i j z q with ⟨k, rfl⟩ | ⟨b, rfl⟩
      · exact w i j _ H Q _ q rfl (post_val g p rfl)
      · exact w i j _ H Q _ q rfl (post_val g p rfl)
  · exact p.elim
theorem o2_I0 {G : Gx} {g : Int → Int → Int} : Op2 G (rI0 fun i j => .int (g i j)) (fI fun i j => some (.int (g i j))) :=
  o2_int (fun i j d H Q v e dv q => by cases e; obtain rfl := (show v = _ from dv); exact ⟨i, j, rfl, rfl, q⟩) (fun i j d e => by cases e; exact .inl ⟨_, rfl⟩)
theorem o2_B0 {G : Gx} {g : Int → Int → Bool} : Op2 G (rI0 fun i j => .bl (g i j)) (fI fun i j => some (.bl (g i j))) :=
  o2_int (fun i j d H Q v e dv q => by cases e; obtain rfl := (show v = _ from dv); exact ⟨i, j, rfl, rfl, q⟩) (fun i j d e => by cases e; exact .inr ⟨_, rfl⟩)
theorem o2_IC {G : Gx} {C : Int → Int → Prop} [∀ i j, Decidable (C i j)] {g : Int → Int → Int} : Op2 G (rI C fun i j => .int (g i j)) (fI fun i j => if C i j then some (.int (g i j)) else none) :=
  o2_int (fun i j d H Q v e dv q => by
    by_cases hc : C i j
    · rw [if_pos hc] at e
      cases e
      obtain rfl := (show v = _ from dv)
      exact ⟨i, j, rfl, rfl, hc, q⟩
    · rw [if_neg hc] at e
      cases e) (fun i j d e => by
    by_cases hc : C i j
    · rw [if_pos hc] at e
      cases e
      exact .inl ⟨_, rfl⟩
    · rw [if_neg hc] at e
      cases e)
def fSub : F2 := fI fun i j => some (.int (i - j))
instance {i j : Int} : Decidable (CMul i j) := inferInstanceAs (Decidable ((-(2 ^ 64) < i ∧ i < 2 ^ 64) ∨ (-(2 ^ 64) < j ∧ j < 2 ^ 64)))
instance {i j : Int} : Decidable (CDivN i j) := inferInstanceAs (Decidable (j ≠ 0 ∧ j.natAbs < 1073741824))
instance {i j : Int} : Decidable (CPow i j) := inferInstanceAs (Decidable (0 ≤ j ∧ j ≤ 1000000 ∧ i.natAbs < 2 ^ 64))
def fMulI : F2 := fI fun i j => if CMul i j then some (.int (i * j)) else none
def fDiv : F2 := fI fun i j => if CDivN i j then some (.int (i.fdiv j)) else none
def fMod : F2 := fI fun i j => if j ≠ 0 then some (.int (i.fmod j)) else none
def fPow : F2 := fI fun i j => if CPow i j then some (.int (i ^ j.toNat)) else none
def fLt : F2 := fI fun i j => some (.bl (decide (i < j)))
def fLe : F2 := fI fun i j => some (.bl (decide (i ≤ j)))
def fGt : F2 := fI fun i j => some (.bl (decide (j < i)))
def fGe : F2 := fI fun i j => some (.bl (decide (j ≤ i)))
/-- * of numbers, of a list by a number, of a tuple by a number -/
def fMul : F2 := fun x y h => match x, y with
  | .int _, .int _ => fMulI x y h
  | .ref i, .int k => match h[i]? with
    | some (.lst a) => if -(2 ^ 63) ≤ k ∧ k < 2 ^ 63 ∧ a.length * k.toNat ≤ 16777216 then .ok (.ref h.length) (h ++ [.lst (List.replicate k.toNat a).flatten]) else .bad
    | _ => .bad
  | .tup a, .int k => if a ≠ [] ∧ 2 ≤ k ∧ k ≤ 1000 ∧ a.length ≤ 1000 then .ok (.tup (List.replicate k.toNat a).flatten) h else .bad
  | _, _ => .bad
theorem DVs.rep {K : PySem.W.Frag} {π : List Addr} {H : Hp} {ds : List D} {xs : List V} (h : DVs K π H ds xs) : ∀ n : Nat, DVs K π H (List.replicate n ds).flatten (List.replicate n xs).flatten
  | 0 => rfl
  | n + 1 => by
    rw [List.replicate_succ, List.replicate_succ, List.flatten_cons, List.flatten_cons]
    exact h.app (DVs.rep h n)
def rMulM (K : PySem.W.Frag) : R2 := fun x y H Q => rI CMul (fun i j => .int (i * j)) x y H Q ∨ rRep x y H Q ∨ rRepT K x y H Q
theorem or_mul {X : Cx} : OpR X (binaryOp .Mult) (rMulM X.K) := op_mul.or (op_rep.or op_repT)
theorem o2_mul {G : Gx} : Op2 G (rMulM G.K) fMul := by
  intro W π σ h H d e x y Q g dx ey p
  unfold fMul at p
  split at p
  · exact .inl (o2_IC W π σ h H _ _ x y Q g dx ey p)
  · obtain ⟨a, qa, rfl⟩ := dx
    obtain rfl := (show y = _ from ey)
    split at p
    · rename_i e1
      split at p
      · rename_i hl
        obtain ⟨xs, ha, da⟩ := g.lst e1 qa
        exact .inr (.inl ⟨a, _, xs, rfl, rfl, ha, hl.1, hl.2.1, szl (by rw [da.len]; exact hl.2.2), fun q n => post_lst g p (da.rep _) q n⟩)
      · exact p.elim
    · exact p.elim
  · obtain ⟨a, xs, rfl, ta, da⟩ := dx
    obtain rfl := (show y = _ from ey)
    split at p
    · rename_i hl
      refine .inr (.inr ⟨a, _, xs, rfl, rfl, ta.sq, fun z => hl.1 ?_, hl.2.1, hl.2.2.1, by rw [da.len]; exact hl.2.2.2, fun q n => post_tup g p (da.rep _) q n⟩)
      subst z
      exact List.length_eq_zero_iff.mp da.len.symm
    · exact p.elim
  · exact p.elim
section
variable {X : Cx} {T : List (Addr × Str)} {W : WX} {a b : Expr} {ma mb : Ev → Hm → R D} {pos : Pos}
theorem em_add (ha : Em X T W a ma) (hb : Em X T W b mb) : Em X T W (.BinOp a .Add b pos) (m2 fAdd ma mb) := em_op or_add o2_add ha hb
theorem em_sub (ha : Em X T W a ma) (hb : Em X T W b mb) : Em X T W (.BinOp a .Sub b pos) (m2 fSub ma mb) := em_op op_sub o2_I0 ha hb
theorem em_mul (ha : Em X T W a ma) (hb : Em X T W b mb) : Em X T W (.BinOp a .Mult b pos) (m2 fMul ma mb) := em_op or_mul o2_mul ha hb
theorem em_div (ha : Em X T W a ma) (hb : Em X T W b mb) : Em X T W (.BinOp a .FloorDiv b pos) (m2 fDiv ma mb) := em_op op_fdivN o2_IC ha hb
theorem em_mod (ha : Em X T W a ma) (hb : Em X T W b mb) : Em X T W (.BinOp a .Mod b pos) (m2 fMod ma mb) := em_op op_modN o2_IC ha hb
theorem em_pow (ha : Em X T W a ma) (hb : Em X T W b mb) : Em X T W (.BinOp a .Pow b pos) (m2 fPow ma mb) := em_op op_pow o2_IC ha hb
theorem em_lt (ha : Em X T W a ma) (hb : Em X T W b mb) : Em X T W (.Compare a [.Lt] [b] pos) (m2 fLt ma mb) := em_cmp op_lt o2_B0 ha hb (nomark _)
theorem em_le (ha : Em X T W a ma) (hb : Em X T W b mb) : Em X T W (.Compare a [.LtE] [b] pos) (m2 fLe ma mb) := em_cmp op_le o2_B0 ha hb (nomark _)
theorem em_gt (ha : Em X T W a ma) (hb : Em X T W b mb) : Em X T W (.Compare a [.Gt] [b] pos) (m2 fGt ma mb) := em_cmp op_gt o2_B0 ha hb (nomark _)
theorem em_ge (ha : Em X T W a ma) (hb : Em X T W b mb) : Em X T W (.Compare a [.GtE] [b] pos) (m2 fGe ma mb) := em_cmp op_ge o2_B0 ha hb (nomark _)
end
end MM

namespace MM
open PySem L2

def mapO {α β : Type} (f : α → Option β) : List α → Option (List β)
  | [] => some []
  | a :: as => match f a with
    | some b => match mapO f as with
      | some bs => some (b :: bs)
      | none => none
    | none => none
/-- a datum as the library's plain data -/
def py (h : Hm) : Nat → D → Option PyData
  | 0, _ => none
  | n + 1, d => match d with
    | .non => some .none
    | .bl b => some (.bool b)
    | .int i => some (.int i)
    | .str x => if PyData.canLay0 (.str x) = true then some (.str x) else none
    | .tup ds => (mapO (py h n) ds).map .tuple
    | .rol ds => (mapO (py h n) ds).map .list
    | .ref i => match h[i]? with
      | some (.lst ds) => (mapO (py h n) ds).map .list
      | _ => none
section
variable {G : Gx} {π : List Addr} {h : Hm} {H : Hp}
def PyOk (q : PyData) (n : Nat) : Prop := q.canLay0 = true ∧ q.depth ≤ n
theorem pys_ok {n : Nat} (ih : ∀ d v q, DV G.K π H d v → py h n d = some q → Dp G.K H v q ∧ PyOk q n) : ∀ (ds : List D) (vs : List V) (qs : List PyData), DVs G.K π H ds vs → mapO (py h n) ds = some qs → DpAll G.K H vs qs ∧ PyData.canLayAll0 qs = true ∧ PyData.depthAll qs ≤ n
  | [], vs, qs, dv, e => by
    obtain rfl := (show vs = [] from dv)
    cases e
    exact ⟨.nil, rfl, Nat.zero_le _⟩
  | d :: ds, vs, qs, ⟨v, ws, ev, h1, h2⟩, e => by
    subst ev
    unfold mapO at e
    cases q1 : py h n d with
    | none => rw [q1] at e; cases e
    | some a =>
      cases q2 : mapO (py h n) ds with
      | none => rw [q1, q2] at e; cases e
      | some as =>
        rw [q1, q2] at e
        cases e
        obtain ⟨i1, i2, i3⟩ := ih d v a h1 q1
        obtain ⟨j1, j2, j3⟩ := pys_ok ih ds ws as h2 q2
        refine ⟨.cons i1 j1, ?_, ?_⟩
        · simp only [PyData.canLayAll0, i2, j2, Bool.and_self]
        · simp only [PyData.depthAll]
          omega
theorem map_some {α β : Type} {f : α → β} {o : Option α} {b : β} (e : o.map f = some b) : ∃ a, o = some a ∧ f a = b := by
  cases o with
  | none => cases e
  | some a => exact ⟨a, rfl, Option.some.inj e⟩
theorem py_ok (g : Good G π h H) : ∀ (n : Nat) (d : D) (v : V) (q : PyData), DV G.K π H d v → py h n d = some q → Dp G.K H v q ∧ PyOk q n
  | 0, _, _, _, _, e => by cases e
  | n + 1, d, v, q, dv, e => by
    have ih := pys_ok (G := G) (π := π) (h := h) (H := H) (py_ok g n)
    cases d with
    | non => cases e; obtain rfl := (show v = _ from dv); exact ⟨.non, rfl, Nat.zero_le _⟩
    | bl b => cases e; obtain rfl := (show v = _ from dv); exact ⟨.bl b, rfl, Nat.zero_le _⟩
    | int b => cases e; obtain rfl := (show v = _ from dv); exact ⟨.int b, rfl, Nat.zero_le _⟩
    | str x =>
      obtain rfl := (show v = _ from dv)
      have e' : (if PyData.canLay0 (.str x) = true then some (PyData.str x) else none) = some q := e
      by_cases hc : PyData.canLay0 (.str x) = true
      · rw [if_pos hc] at e'
        cases e'
        exact ⟨.str x, hc, Nat.zero_le _⟩
      · rw [if_neg hc] at e'
        cases e'
    | tup ds =>
      obtain ⟨a, xs, rfl, t, ds'⟩ := dv
      have e' : (mapO (py h n) ds).map PyData.tuple = some q := e
      obtain ⟨qs, e1, rfl⟩ := map_some e'
      obtain ⟨i1, i2, i3⟩ := ih ds xs qs ds' e1
      exact ⟨.tup t.sq i1, by simp only [PyData.canLay0]; exact i2, by simp only [PyData.depth]; omega⟩
    | rol ds =>
      obtain ⟨a, xs, rfl, t, ds'⟩ := dv
      have e' : (mapO (py h n) ds).map PyData.list = some q := e
      obtain ⟨qs, e1, rfl⟩ := map_some e'
      obtain ⟨i1, i2, i3⟩ := ih ds xs qs ds' e1
      exact ⟨.lst t.sq i1, by simp only [PyData.canLay0]; exact i2, by simp only [PyData.depth]; omega⟩
    | ref i =>
      obtain ⟨a, qa, rfl⟩ := dv
      have e' : (match h[i]? with
        | some (.lst ds) => (mapO (py h n) ds).map PyData.list
        | _ => none) = some q := e
      split at e'
      · rename_i ds e0
        obtain ⟨xs, ha, ds'⟩ := g.lst e0 qa
        obtain ⟨qs, e1, rfl⟩ := map_some e'
        obtain ⟨i1, i2, i3⟩ := ih ds xs qs ds' e1
        exact ⟨.lst (SqL.of ha) i1, by simp only [PyData.canLay0]; exact i2, by simp only [PyData.depth]; omega⟩
      · cases e'
theorem shaped_of {q : PyData} (p : PyOk q 60) : SeqAt.shaped q = true := by
  unfold SeqAt.shaped
  rw [p.1, Bool.true_and]
  exact decide_eq_true (Nat.le_trans p.2 (by decide))
end
/-- data that compare without looking at the heap -/
def flat2 : D → D → Bool
  | .non, .non => true | .non, .int _ => true | .int _, .non => true | .non, .bl _ => true | .bl _, .non => true | .non, .str _ => true | .str _, .non => true
  | .int _, .int _ => true | .bl _, .bl _ => true | .str _, .str _ => true
  | .int _, .str _ => true | .str _, .int _ => true | .bl _, .str _ => true | .str _, .bl _ => true
  | _, _ => false
def fEq : F2 := fun x y h => if flat2 x y = true then .ok (.bl (decide (x = y))) h else match py h 60 x, py h 60 y with
  | some a, some b => .ok (.bl (PyData.eqv a b)) h
  | _, _ => .bad
def fNe : F2 := fun x y h => if flat2 x y = true then .ok (.bl (!decide (x = y))) h else match py h 60 x, py h 60 y with
  | some a, some b => .ok (.bl (!PyData.eqv a b)) h
  | _, _ => .bad
def rEqM (K : PySem.W.Frag) : R2 := fun x y H Q => rEq x y H Q ∨ rEqD K x y H Q
def rNeM (K : PySem.W.Frag) : R2 := fun x y H Q => rNe x y H Q ∨ rNeD K x y H Q
theorem flat2_scal {K : PySem.W.Frag} {π : List Addr} {H : Hp} {d e : D} {x y : V} (f : flat2 d e = true) (dx : DV K π H d x) (ey : DV K π H e y) : scal x y = true ∧ decide (x = y) = decide (d = e) := by
  cases d <;> cases e <;> first
    | exact absurd f Bool.false_ne_true
    | (obtain rfl := (show x = _ from dx)
       obtain rfl := (show y = _ from ey)
       exact ⟨rfl, by simp⟩)
theorem o2_eq {G : Gx} : Op2 G (rEqM G.K) fEq := by
  intro W π σ h H d e x y Q g dx ey p
  unfold fEq at p
  split at p
  · rename_i f
    obtain ⟨h1, h2⟩ := flat2_scal f dx ey
    exact .inl ⟨h1, post_val g p (by rw [h2]; rfl)⟩
  · split at p
    · rename_i a b e1 e2
      obtain ⟨i1, i2⟩ := py_ok g _ _ _ _ dx e1
      obtain ⟨j1, j2⟩ := py_ok g _ _ _ _ ey e2
      exact .inr ⟨a, b, i1, j1, shaped_of i2, shaped_of j2, post_val g p rfl⟩
    · exact p.elim
theorem o2_ne {G : Gx} : Op2 G (rNeM G.K) fNe := by
  intro W π σ h H d e x y Q g dx ey p
  unfold fNe at p
  split at p
  · rename_i f
    obtain ⟨h1, h2⟩ := flat2_scal f dx ey
    exact .inl ⟨h1, post_val g p (by rw [h2]; rfl)⟩
  · split at p
    · rename_i a b e1 e2
      obtain ⟨i1, i2⟩ := py_ok g _ _ _ _ dx e1
      obtain ⟨j1, j2⟩ := py_ok g _ _ _ _ ey e2
      exact .inr ⟨a, b, i1, j1, shaped_of i2, shaped_of j2, post_val g p rfl⟩
    · exact p.elim

def flatD : D → Bool
  | .non => true | .bl _ => true | .int _ => true | .str _ => true
  | _ => false
def eqF : D → D → Bool
  | .non, .non => true
  | .bl a, .bl b => a == b
  | .bl a, .int b => (if a then 1 else 0) == b
  | .int a, .bl b => a == (if b then 1 else 0)
  | .int a, .int b => a == b
  | .str a, .str b => a == b
  | _, _ => false
def inF (x : D) (ds : List D) : Bool := ds.any fun y => eqF y x
def keyD : D → Option Key
  | .int i => some (.inl i)
  | .str x => some (.inr x)
  | _ => none
def getK (kvs : List (Key × D)) (k : Key) : Option D := (kvs.find? fun p => decide (p.1 = k)).map (·.2)
def fIn (neg : Bool) : F2 := fun x y h => match y with
  | .tup ds => if flatD x = true ∧ ds.all flatD = true then .ok (.bl (if neg then !inF x ds else inF x ds)) h else .bad
  | .rol ds => if flatD x = true ∧ ds.all flatD = true then .ok (.bl (if neg then !inF x ds else inF x ds)) h else .bad
  | .ref i => match h[i]? with
    | some (.lst ds) => if flatD x = true ∧ ds.all flatD = true then .ok (.bl (if neg then !inF x ds else inF x ds)) h else match py h 60 x, py h 60 (.ref i) with
      | some a, some (.list bs) => .ok (.bl (if neg then !bs.any fun z => PyData.eqv z a else bs.any fun z => PyData.eqv z a)) h
      | _, _ => .bad
    | some (.dic kvs) => match keyD x with
      | some k => .ok (.bl (if neg then !(getK kvs k).isSome else (getK kvs k).isSome)) h
      | none => .bad
    | _ => .bad
  | .str b => match x with
    | .str a => .ok (.bl (if neg then !(!(Builtin.Str.occurrences b a 0 b.length 1).isEmpty) else !(Builtin.Str.occurrences b a 0 b.length 1).isEmpty)) h
    | _ => .bad
  | _ => .bad
section
variable {K : PySem.W.Frag} {π : List Addr} {H : Hp}
theorem flatD_V : ∀ {d : D} {x : V}, flatD d = true → DV K π H d x → flatV x = true := by
  intro d x f dx
  cases d <;> first
    | exact absurd f Bool.false_ne_true
    | (obtain rfl := (show x = _ from dx); rfl)
theorem eqF_V {d e : D} {x y : V} (f : flatD d = true) (f' : flatD e = true) (dx : DV K π H d x) (ey : DV K π H e y) : eqV x y = eqF d e := by
  cases d <;> cases e <;> first
    | exact absurd f Bool.false_ne_true
    | exact absurd f' Bool.false_ne_true
    | (obtain rfl := (show x = _ from dx)
       obtain rfl := (show y = _ from ey)
       rfl)
theorem flatDs_V : ∀ {ds : List D} {xs : List V}, ds.all flatD = true → DVs K π H ds xs → xs.all flatV = true
  | [], _, _, h => by rw [show _ = [] from h] <;> rfl
  | d :: ds, _, f, ⟨v, vs, e, h, q⟩ => by
    rw [List.all_cons, Bool.and_eq_true] at f
    rw [e, List.all_cons, flatD_V f.1 h, flatDs_V f.2 q] <;> rfl
theorem inF_V {d : D} {x : V} (f : flatD d = true) (dx : DV K π H d x) : ∀ {ds : List D} {xs : List V}, ds.all flatD = true → DVs K π H ds xs → inV x xs = inF d ds
  | [], _, _, h => by rw [show _ = [] from h] <;> rfl
  | e :: ds, _, fs, ⟨v, vs, ev, h, q⟩ => by
    rw [List.all_cons, Bool.and_eq_true] at fs
    have ih := inF_V f dx fs.2 q
    unfold inV inF at ih ⊢
    rw [ev, List.any_cons, List.any_cons, ih, eqF_V fs.1 f h dx]
theorem keyD_V {d : D} {x : V} {k : Key} (e : keyD d = some k) (dx : DV K π H d x) : x = kV k := by
  cases d <;> first
    | (cases e; obtain rfl := (show x = _ from dx); rfl)
    | cases e
theorem getK_V {κ : Key} : ∀ {kvs : List (Key × D)} {xs : List (Key × V)}, DPs K π H kvs xs → match getK kvs κ with
    | some d => ∃ v, valV xs κ = some v ∧ DV K π H d v
    | none => valV xs κ = none
  | [], _, h => by rw [show _ = [] from h] <;> rfl
  | p :: ps, _, ⟨v, vs, e, h, q⟩ => by
    have ih := getK_V (κ := κ) q
    rw [e]
    unfold getK valV at ih ⊢
    by_cases hk : p.1 = κ
    · simp only [List.find?_cons, hk, decide_true, Option.map_some]
      first
        | exact ⟨v, rfl, h⟩
        | (refine ⟨v, ?_, h⟩; simp)
    · simp only [List.find?_cons, hk, decide_false]
      first
        | exact ih
        | (simp [hk]; exact ih)
end
end MM

namespace MM
open PySem L2

def rDin (neg : Bool) : R2 := fun x y H Q => ∃ a o, y = .ref a ∧ DGet H a x o ∧ Q (.bl (if neg then !o.isSome else o.isSome)) H
theorem op_din {X : Cx} (hu : X.A.units + 1 < cLine) : OpR X (compareOp .In) (rDin false) := by
  intro pins s σ H x y v u Q I rx ry h
  obtain ⟨a, o, rfl, g, q⟩ := h
  obtain rfl : u = Value.ref a := ry
  exact d_in hu I g rx fun s3 I3 => ⟨.bl o.isSome, H, I3, rfl, q⟩
theorem op_dnotin {X : Cx} (hu : X.A.units + 1 < cLine) : OpR X (compareOp .NotIn) (rDin true) := by
  intro pins s σ H x y v u Q I rx ry h
  obtain ⟨a, o, rfl, g, q⟩ := h
  obtain rfl : u = Value.ref a := ry
  exact d_notIn hu I g rx fun s3 I3 => ⟨.bl (!o.isSome), H, I3, rfl, q⟩
def rInDn (K : PySem.W.Frag) (neg : Bool) : R2 := fun x y H Q => ∃ d ds, Dp K H x d ∧ Dp K H y (.list ds) ∧ SeqAt.shaped d = true ∧ SeqAt.shaped (.list ds) = true ∧ Q (.bl (if neg then !ds.any fun z => PyData.eqv z d else ds.any fun z => PyData.eqv z d)) H
def rInS (neg : Bool) : R2 := fun x y H Q => ∃ i j, x = .str i ∧ y = .str j ∧ Q (.bl (if neg then !(!(Builtin.Str.occurrences j i 0 j.length 1).isEmpty) else !(Builtin.Str.occurrences j i 0 j.length 1).isEmpty)) H
def rInM (K : PySem.W.Frag) (neg : Bool) : R2 := fun x y H Q => rIn K neg x y H Q ∨ rInDn K neg x y H Q ∨ rDin neg x y H Q ∨ rInS neg x y H Q
theorem or_in {X : Cx} (hu : X.A.units + 65 < cLine) : OpR X (compareOp .In) (rInM X.K false) := op_in_seq.or ((op_inD hu).or ((op_din (by omega)).or op_in_str))
theorem or_nin {X : Cx} (hu : X.A.units + 65 < cLine) : OpR X (compareOp .NotIn) (rInM X.K true) := op_notIn_seq.or ((op_notInD hu).or ((op_dnotin (by omega)).or op_notin_str))
theorem o2_in {G : Gx} {neg : Bool} : Op2 G (rInM G.K neg) (fIn neg) := by
  intro W π σ h H d e x y Q g dx ey p
  unfold fIn at p
  split at p
  · obtain ⟨a, xs, rfl, t, ds'⟩ := ey
    split at p
    · rename_i f
      refine .inl ⟨a, xs, rfl, .inr t.sq, flatD_V f.1 dx, flatDs_V f.2 ds', ?_⟩
      rw [inF_V f.1 dx f.2 ds']
      exact post_val g p rfl
    · exact p.elim
  · obtain ⟨a, xs, rfl, t, ds'⟩ := ey
    split at p
    · rename_i f
      refine .inl ⟨a, xs, rfl, .inl t.sq, flatD_V f.1 dx, flatDs_V f.2 ds', ?_⟩
      rw [inF_V f.1 dx f.2 ds']
      exact post_val g p rfl
    · exact p.elim
  · split at p
    · rename_i e0
      split at p
      · rename_i f
        obtain ⟨a, qa, rfl⟩ := ey
        obtain ⟨xs, ha, ds'⟩ := g.lst e0 qa
        refine .inl ⟨a, xs, rfl, .inl (SqL.of ha), flatD_V f.1 dx, flatDs_V f.2 ds', ?_⟩
        rw [inF_V f.1 dx f.2 ds']
        exact post_val g p rfl
      · split at p
        · rename_i a bs e1 e2
          obtain ⟨i1, i2⟩ := py_ok g _ _ _ _ dx e1
          obtain ⟨j1, j2⟩ := py_ok g _ _ _ _ ey e2
          exact .inr (.inl ⟨a, bs, i1, j1, shaped_of i2, shaped_of j2, post_val g p rfl⟩)
        · exact p.elim
    · rename_i kvs e0
      split at p
      · rename_i k ek
        obtain ⟨a, qa, rfl⟩ := ey
        obtain ⟨xs, ha, ds'⟩ := g.obj e0 qa
        obtain rfl := keyD_V ek dx
        refine .inr (.inr (.inl ⟨a, _, rfl, DGet.k ha, ?_⟩))
        have z := getK_V (κ := k) ds'
        cases q : getK kvs k with
        | none =>
          rw [q] at z p
          rw [show valV xs k = none from z]
          exact post_val g p rfl
        | some w =>
          rw [q] at z p
          obtain ⟨v, z1, z2⟩ := z
          rw [z1]
          exact post_val g p rfl
      · exact p.elim
    · exact p.elim
  · obtain rfl := (show y = _ from ey)
    split at p
    · obtain rfl := (show x = _ from dx)
      exact .inr (.inr (.inr ⟨_, _, rfl, rfl, post_val g p rfl⟩))
    · exact p.elim
  · exact p.elim

def fIs (neg : Bool) : F2 := fun x y h => match y with
  | .non => .ok (.bl (if neg then !decide (x = .non) else decide (x = .non))) h
  | .bl b => match x with
    | .bl a => .ok (.bl (if neg then !decide (a = b) else decide (a = b))) h
    | _ => .bad
  | _ => .bad
def rIsM (neg : Bool) : R2 := fun x y H Q => (y = .non ∧ Q (.bl (if neg then !decide (x = .non) else decide (x = .non))) H) ∨ ∃ a b : Bool, x = .bl a ∧ y = .bl b ∧ Q (.bl (if neg then !decide (a = b) else decide (a = b))) H
theorem or_is {X : Cx} : OpR X (compareOp .Is) (rIsM false) := op_isN.or op_isBl
theorem or_isnot {X : Cx} : OpR X (compareOp .IsNot) (rIsM true) := op_notN.or op_notBl
theorem non_iff {K : PySem.W.Frag} {π : List Addr} {H : Hp} {d : D} {x : V} (dx : DV K π H d x) : decide (x = .non) = decide (d = .non) := by
  cases d <;> first
    | (obtain rfl := (show x = _ from dx); simp)
    | (obtain ⟨a, _, rfl⟩ := dx; simp)
    | (obtain ⟨a, xs, rfl, _⟩ := dx; simp)
theorem o2_is {G : Gx} {neg : Bool} : Op2 G (rIsM neg) (fIs neg) := by
  intro W π σ h H d e x y Q g dx ey p
  unfold fIs at p
  split at p
  · obtain rfl := (show y = _ from ey)
    refine .inl ⟨rfl, ?_⟩
    rw [non_iff dx]
    exact post_val g p rfl
  · obtain rfl := (show y = _ from ey)
    split at p
    · obtain rfl := (show x = _ from dx)
      exact .inr ⟨_, _, rfl, rfl, post_val g p rfl⟩
    · exact p.elim
  · exact p.elim
section
variable {X : Cx} {T : List (Addr × Str)} {W : WX} {a b : Expr} {ma mb : Ev → Hm → R D} {pos : Pos}
theorem em_eq (hu : X.A.units + 64 < cLine) (ha : Em X T W a ma) (hb : Em X T W b mb) : Em X T W (.Compare a [.Eq] [b] pos) (m2 fEq ma mb) := em_cmp (op_eq.or (op_eqD hu)) o2_eq ha hb (nomark _)
theorem em_ne (hu : X.A.units + 64 < cLine) (ha : Em X T W a ma) (hb : Em X T W b mb) : Em X T W (.Compare a [.NotEq] [b] pos) (m2 fNe ma mb) := em_cmp (op_ne.or (op_neD hu)) o2_ne ha hb (nomark _)
theorem em_in (hu : X.A.units + 65 < cLine) (ha : Em X T W a ma) (hb : Em X T W b mb) (hm : behindInMarks .In b = false := by rfl) : Em X T W (.Compare a [.In] [b] pos) (m2 (fIn false) ma mb) := em_cmp (or_in hu) o2_in ha hb hm
theorem em_nin (hu : X.A.units + 65 < cLine) (ha : Em X T W a ma) (hb : Em X T W b mb) (hm : behindInMarks .NotIn b = false := by rfl) : Em X T W (.Compare a [.NotIn] [b] pos) (m2 (fIn true) ma mb) := em_cmp (or_nin hu) o2_in ha hb hm
theorem em_is (ha : Em X T W a ma) (hb : Em X T W b mb) : Em X T W (.Compare a [.Is] [b] pos) (m2 (fIs false) ma mb) := em_cmp or_is o2_is ha hb (nomark _)
theorem em_isnot (ha : Em X T W a ma) (hb : Em X T W b mb) : Em X T W (.Compare a [.IsNot] [b] pos) (m2 (fIs true) ma mb) := em_cmp or_isnot o2_is ha hb (nomark _)
end

def truD (h : Hm) : D → Option Bool
  | .non => some false
  | .bl b => some b
  | .int i => some (i != 0)
  | .str x => if x.length ≤ 16777216 then some ((x.length : Int) != 0) else none
  | .tup ds => some (!ds.isEmpty)
  | .rol ds => some (!ds.isEmpty)
  | .ref i => match h[i]? with
    | some (.lst ds) => some (!ds.isEmpty)
    | some (.dic kvs) => some (!kvs.isEmpty)
    | _ => none
def fTru (x : D) (h : Hm) : R Bool := match truD h x with
  | some b => .ok b h
  | none => .bad
theorem DVs.isEmpty {K : PySem.W.Frag} {π : List Addr} {H : Hp} : ∀ {ds : List D} {xs : List V}, DVs K π H ds xs → xs.isEmpty = ds.isEmpty
  | [], _, h => by rw [show _ = [] from h] <;> rfl
  | d :: ds, _, ⟨v, vs, e, _, _⟩ => by rw [e] <;> rfl
theorem DPs.isEmpty {κ : Type} {K : PySem.W.Frag} {π : List Addr} {H : Hp} : ∀ {ds : List (κ × D)} {xs : List (κ × V)}, DPs K π H ds xs → xs.isEmpty = ds.isEmpty
  | [], _, h => by rw [show _ = [] from h] <;> rfl
  | d :: ds, _, ⟨v, vs, e, _, _⟩ => by rw [e] <;> rfl
theorem tru_V {G : Gx} {π : List Addr} {h : Hm} {H : Hp} (g : Good G π h H) {d : D} {x : V} {k : Bool} (dx : DV G.K π H d x) (e : truD h d = some k) : TruV G.K x H k := by
  cases d with
  | non => obtain rfl := (show x = _ from dx); cases e; rfl
  | bl b => obtain rfl := (show x = _ from dx); cases e; rfl
  | int b => obtain rfl := (show x = _ from dx); cases e; rfl
  | str b =>
    obtain rfl := (show x = _ from dx)
    have e' : (if b.length ≤ 16777216 then some ((b.length : Int) != 0) else none) = some k := e
    by_cases hl : b.length ≤ 16777216
    · rw [if_pos hl] at e'
      cases e'
      exact ⟨szl hl, rfl⟩
    · rw [if_neg hl] at e'
      cases e'
  | tup ds => obtain ⟨a, xs, rfl, t, q⟩ := dx; cases e; exact .inr (.inl ⟨xs, t.sq, by rw [q.isEmpty]⟩)
  | rol ds => obtain ⟨a, xs, rfl, t, q⟩ := dx; cases e; exact .inl ⟨xs, t.sq, by rw [q.isEmpty]⟩
  | ref i =>
    obtain ⟨a, qa, rfl⟩ := dx
    have e' : (match h[i]? with
      | some (.lst ds) => some (!ds.isEmpty)
      | some (.dic kvs) => some (!kvs.isEmpty)
      | _ => none) = some k := e
    split at e'
    · rename_i ds e0
      obtain ⟨xs, ha, ds'⟩ := g.lst e0 qa
      cases e'
      exact .inl ⟨xs, SqL.of ha, by rw [ds'.isEmpty]⟩
    · rename_i kvs e0
      obtain ⟨xs, ha, ds'⟩ := g.obj e0 qa
      cases e'
      exact .inr (.inr ⟨xs, ha, by rw [ds'.isEmpty]⟩)
    · cases e'
def mTru (m : Ev → Hm → R D) : Ev → Hm → R Bool := fun env h => (m env h).bind fTru
/-- the answer is True or False -/
def mBool (m : Ev → Hm → R D) : Ev → Hm → R Bool := fun env h => (m env h).bind fun x h1 => match x with
  | .bl b => .ok b h1
  | _ => .bad
def mAnd (a b : Ev → Hm → R Bool) : Ev → Hm → R Bool := fun env h => (a env h).bind fun k h1 => if k = true then b env h1 else .ok false h1
def mOr (a b : Ev → Hm → R Bool) : Ev → Hm → R Bool := fun env h => (a env h).bind fun k h1 => if k = true then .ok true h1 else b env h1
def mNot (a : Ev → Hm → R Bool) : Ev → Hm → R Bool := fun env h => (a env h).bind fun k h1 => .ok (!k) h1
def mAndV (a b : Ev → Hm → R D) : Ev → Hm → R D := fun env h => (a env h).bind fun x h1 => (fTru x h1).bind fun k h2 => if k = true then b env h2 else .ok x h2
def mOrV (a b : Ev → Hm → R D) : Ev → Hm → R D := fun env h => (a env h).bind fun x h1 => (fTru x h1).bind fun k h2 => if k = true then .ok x h2 else b env h2
def mNotV (a : Ev → Hm → R D) : Ev → Hm → R D := fun env h => (a env h).bind fun x h1 => (fTru x h1).bind fun k h2 => .ok (.bl (!k)) h2
def mIf (c : Ev → Hm → R Bool) (a b : Ev → Hm → R D) : Ev → Hm → R D := fun env h => (c env h).bind fun k h1 => if k = true then a env h1 else b env h1
def mChain (f f' : F2) (a b c : Ev → Hm → R D) : Ev → Hm → R D := fun env h => (a env h).bind fun x h1 => (b env h1).bind fun y h2 => (f x y h2).bind fun z h3 => match z with
  | .bl k => if k = true then (c env h3).bind fun w h4 => f' y w h4 else .ok (.bl false) h3
  | _ => .bad
def mNeg (a : Ev → Hm → R D) : Ev → Hm → R D := fun env h => (a env h).bind fun x h1 => match x with
  | .int i => .ok (.int (-i)) h1
  | _ => .bad
abbrev Wm (X : Cx) (T : List (Addr × Str)) (W : WX) (e : Expr) (m : Ev → Hm → R Bool) : Prop := PW X e (tB' (gx X T) W m)
theorem PW.of {X : Cx} {e : Expr} {t t' : TT} (p : PW X e t) (w : ∀ σ H Q, t' σ H Q → t σ H Q) : PW X e t' := ⟨fun wh pins s σ H Q I h => p.run wh pins s σ H Q I (w σ H Q h)⟩
section
variable {X : Cx} {T : List (Addr × Str)} {W : WX} {a b c : Expr} {rest : List Expr} {ma mb mc : Ev → Hm → R D} {ta tb tc : Ev → Hm → R Bool} {pos : Pos}
theorem tm_tru (ha : Em X T W a ma) (he : ∀ whole, isTrue a X.env whole = (do let v ← whole; standAt a.pos; holding [v] (truthy v)) := by intro _; rfl) : Tm X T W a (mTru ma) := PT.of (pt_truth ha he) fun σ H Q ⟨π, env, h, s, p⟩ => by
  refine ⟨π, env, h, s, p.bind.mono fun π1 H1 h1 d s1 g1 p1 x dx => ?_⟩
  unfold fTru at p1
  cases q : truD h1 d with
  | none => rw [q] at p1; exact p1.elim
  | some k => rw [q] at p1; exact ⟨k, tru_V g1 dx q, p1 π1 H1 Step.refl g1⟩
theorem tm_val (ha : Em X T W a ma) (he : ∀ whole, isTrue a X.env whole = (do let v ← whole; standAt a.pos; holding [v] (truthy v)) := by intro _; rfl) : Tm X T W a (mBool ma) := PT.of (pt_val ha he) fun σ H Q ⟨π, env, h, s, p⟩ => by
  refine ⟨π, env, h, s, p.bind.mono fun π1 H1 h1 d s1 g1 p1 x dx => ?_⟩
  cases d <;> first
    | exact p1.elim
    | (obtain rfl := (show x = _ from dx); exact ⟨_, rfl, p1 π1 H1 Step.refl g1⟩)
/-- a comparison as a test -/
theorem tm_cmp {op : CmpOp} {r : R2} {f : F2} (hr : OpR X (compareOp op) r) (ho : Op2 (gx X T) r f) (ha : Em X T W a ma) (hb : Em X T W b mb) (hm : behindInMarks op b = false) : Tm X T W (.Compare a [op] [b] pos) (mBool (m2 f ma mb)) :=
  PT.of (pt_cmpR hr ha hb hm) fun σ H Q ⟨π, env, h, s, p⟩ => by
    refine chain2 ho ⟨π, env, h, s, p.bind.mono fun π1 H1 h1 d s1 g1 p1 x dx => ?_⟩
    cases d <;> first
      | exact p1.elim
      | (obtain rfl := (show x = _ from dx); exact ⟨_, rfl, p1 π1 H1 Step.refl g1⟩)
theorem tm_lt (ha : Em X T W a ma) (hb : Em X T W b mb) : Tm X T W (.Compare a [.Lt] [b] pos) (mBool (m2 fLt ma mb)) := tm_cmp op_lt o2_B0 ha hb (nomark _)
theorem tm_le (ha : Em X T W a ma) (hb : Em X T W b mb) : Tm X T W (.Compare a [.LtE] [b] pos) (mBool (m2 fLe ma mb)) := tm_cmp op_le o2_B0 ha hb (nomark _)
theorem tm_gt (ha : Em X T W a ma) (hb : Em X T W b mb) : Tm X T W (.Compare a [.Gt] [b] pos) (mBool (m2 fGt ma mb)) := tm_cmp op_gt o2_B0 ha hb (nomark _)
theorem tm_ge (ha : Em X T W a ma) (hb : Em X T W b mb) : Tm X T W (.Compare a [.GtE] [b] pos) (mBool (m2 fGe ma mb)) := tm_cmp op_ge o2_B0 ha hb (nomark _)
theorem tm_eq (hu : X.A.units + 64 < cLine) (ha : Em X T W a ma) (hb : Em X T W b mb) : Tm X T W (.Compare a [.Eq] [b] pos) (mBool (m2 fEq ma mb)) := tm_cmp (op_eq.or (op_eqD hu)) o2_eq ha hb (nomark _)
theorem tm_ne (hu : X.A.units + 64 < cLine) (ha : Em X T W a ma) (hb : Em X T W b mb) : Tm X T W (.Compare a [.NotEq] [b] pos) (mBool (m2 fNe ma mb)) := tm_cmp (op_ne.or (op_neD hu)) o2_ne ha hb (nomark _)
theorem tm_in (hu : X.A.units + 65 < cLine) (ha : Em X T W a ma) (hb : Em X T W b mb) (hm : behindInMarks .In b = false := by rfl) : Tm X T W (.Compare a [.In] [b] pos) (mBool (m2 (fIn false) ma mb)) := tm_cmp (or_in hu) o2_in ha hb hm
theorem tm_nin (hu : X.A.units + 65 < cLine) (ha : Em X T W a ma) (hb : Em X T W b mb) (hm : behindInMarks .NotIn b = false := by rfl) : Tm X T W (.Compare a [.NotIn] [b] pos) (mBool (m2 (fIn true) ma mb)) := tm_cmp (or_nin hu) o2_in ha hb hm
theorem tm_is (ha : Em X T W a ma) (hb : Em X T W b mb) : Tm X T W (.Compare a [.Is] [b] pos) (mBool (m2 (fIs false) ma mb)) := tm_cmp or_is o2_is ha hb (nomark _)
theorem tm_isnot (ha : Em X T W a ma) (hb : Em X T W b mb) : Tm X T W (.Compare a [.IsNot] [b] pos) (mBool (m2 (fIs true) ma mb)) := tm_cmp or_isnot o2_is ha hb (nomark _)
theorem wm_and1 (ha : Tm X T W a ta) : Wm X T W (.BoolOp .And [a] pos) ta := pw_and1 ha
theorem wm_or1 (ha : Tm X T W a ta) : Wm X T W (.BoolOp .Or [a] pos) ta := pw_or1 ha
theorem wm_and (ha : Tm X T W a ta) (hb : Wm X T W (.BoolOp .And (b :: rest) pos) tb) : Wm X T W (.BoolOp .And (a :: b :: rest) pos) (mAnd ta tb) := PW.of (pw_and ha hb) fun σ H Q ⟨π, env, h, s, p⟩ => by
  refine ⟨π, env, h, s, p.bind.mono fun π1 H1 h1 k s1 g1 p1 => ?_⟩
  cases k with
  | true => exact iteT ⟨π1, env, h1, s.step s1 g1, p1⟩
  | false => exact iteF (p1 π1 H1 Step.refl g1)
theorem wm_or (ha : Tm X T W a ta) (hb : Wm X T W (.BoolOp .Or (b :: rest) pos) tb) : Wm X T W (.BoolOp .Or (a :: b :: rest) pos) (mOr ta tb) := PW.of (pw_or ha hb) fun σ H Q ⟨π, env, h, s, p⟩ => by
  refine ⟨π, env, h, s, p.bind.mono fun π1 H1 h1 k s1 g1 p1 => ?_⟩
  cases k with
  | true => exact iteT (p1 π1 H1 Step.refl g1)
  | false => exact iteF ⟨π1, env, h1, s.step s1 g1, p1⟩
theorem tm_wm (h : Wm X T W a ta) : Tm X T W a ta := PW.pt h
theorem tm_not (ha : Tm X T W a ta) : Tm X T W (.UnaryOp .Not a pos) (mNot ta) := PT.of (pt_not ha) fun σ H Q ⟨π, env, h, s, p⟩ =>
  ⟨π, env, h, s, p.bind.mono fun π1 H1 h1 k s1 g1 p1 => p1 π1 H1 Step.refl g1⟩
theorem em_one {op} (ha : Em X T W a ma) : Em X T W (.BoolOp op [a] pos) ma := pe_one ha
theorem em_and (ha : Em X T W a ma) (hb : Em X T W (.BoolOp .And (b :: rest) pos) mb) : Em X T W (.BoolOp .And (a :: b :: rest) pos) (mAndV ma mb) := PE.of (pe_andT ha hb) fun σ H Q ⟨π, env, h, s, p⟩ => by
  refine ⟨π, env, h, s, p.bind.mono fun π1 H1 h1 d s1 g1 p1 x dx => ?_⟩
  unfold fTru at p1
  cases q : truD h1 d with
  | none => rw [q] at p1; exact p1.elim
  | some k =>
    rw [q] at p1
    refine ⟨k, tru_V g1 dx q, ?_⟩
    cases k with
    | true => exact iteT ⟨π1, env, h1, s.step s1 g1, p1⟩
    | false => exact iteF (p1 π1 H1 Step.refl g1 x dx)
theorem em_or (ha : Em X T W a ma) (hb : Em X T W (.BoolOp .Or (b :: rest) pos) mb) : Em X T W (.BoolOp .Or (a :: b :: rest) pos) (mOrV ma mb) := PE.of (pe_orT ha hb) fun σ H Q ⟨π, env, h, s, p⟩ => by
  refine ⟨π, env, h, s, p.bind.mono fun π1 H1 h1 d s1 g1 p1 x dx => ?_⟩
  unfold fTru at p1
  cases q : truD h1 d with
  | none => rw [q] at p1; exact p1.elim
  | some k =>
    rw [q] at p1
    refine ⟨k, tru_V g1 dx q, ?_⟩
    cases k with
    | true => exact iteT (p1 π1 H1 Step.refl g1 x dx)
    | false => exact iteF ⟨π1, env, h1, s.step s1 g1, p1⟩
theorem em_not (ha : Em X T W a ma) : Em X T W (.UnaryOp .Not a pos) (mNotV ma) := PE.of (pe_notT ha) fun σ H Q ⟨π, env, h, s, p⟩ => by
  refine ⟨π, env, h, s, p.bind.mono fun π1 H1 h1 d s1 g1 p1 x dx => ?_⟩
  unfold fTru at p1
  cases q : truD h1 d with
  | none => rw [q] at p1; exact p1.elim
  | some k => rw [q] at p1; exact ⟨k, tru_V g1 dx q, p1 π1 H1 Step.refl g1 _ rfl⟩
theorem em_if (hc : Tm X T W c tc) (ha : Em X T W a ma) (hb : Em X T W b mb) : Em X T W (.IfExp c a b pos) (mIf tc ma mb) := PE.of (pe_ifExp hc ha hb) fun σ H Q ⟨π, env, h, s, p⟩ => by
  refine ⟨π, env, h, s, p.bind.mono fun π1 H1 h1 k s1 g1 p1 => ?_⟩
  cases k with
  | true => exact iteT ⟨π1, env, h1, s.step s1 g1, p1⟩
  | false => exact iteF ⟨π1, env, h1, s.step s1 g1, p1⟩
theorem em_neg (ha : Em X T W a ma) : Em X T W (.UnaryOp .USub a pos) (mNeg ma) := PE.of (pe_un un_neg ha) fun σ H Q ⟨π, env, h, s, p⟩ => by
  refine ⟨π, env, h, s, p.bind.mono fun π1 H1 h1 d s1 g1 p1 x dx => ?_⟩
  cases d <;> first
    | exact p1.elim
    | (obtain rfl := (show x = _ from dx); exact ⟨_, rfl, p1 π1 H1 Step.refl g1 _ rfl⟩)
theorem chain3 {r r' : R2} {f f' : F2} (ho : Op2 (gx X T) r f) (ho' : Op2 (gx X T) r' f') {σ : L2.St} {H : Hp} {Q : VK} (p : tE (gx X T) W (mChain f f' ma mb mc) σ H Q) : tChain r r' (tE (gx X T) W ma) (tE (gx X T) W mb) (tE (gx X T) W mc) σ H Q := by
  obtain ⟨π, env, h, s, p⟩ := p
  refine ⟨π, env, h, s, p.bind.mono fun π1 H1 h1 d s1 g1 p1 x dx => ?_⟩
  refine ⟨π1, env, h1, s.step s1 g1, p1.bind.mono fun π2 H2 h2 e s2 g2 p2 y ey => ?_⟩
  refine ho W π2 σ h2 H2 d e x y _ g2 (dx.step s2 _ _) ey (p2.bind.mono fun π3 H3 h3 z s3 g3 p3 v zv => ?_)
  cases z <;> first
    | exact p3.elim
    | skip
  rename_i k
  obtain rfl := (show v = _ from zv)
  refine ⟨k, rfl, ?_⟩
  cases k with
  | true => exact iteT ⟨π3, env, h3, ((s.step s1 g1).step s2 g2).step s3 g3, p3.bind.mono fun π4 H4 h4 w s4 g4 p4 u wu => ho' W π4 σ h4 H4 e w y u Q g4 ((ey.step s3 _ _).step s4 _ _) wu p4⟩
  | false => exact iteF (p3 π3 H3 Step.refl g3 _ rfl)
theorem em_chain {op op' : CmpOp} {r r' : R2} {f f' : F2} (hr : OpR X (compareOp op) r) (ho : Op2 (gx X T) r f) (hr' : OpR X (compareOp op') r') (ho' : Op2 (gx X T) r' f') (ha : Em X T W a ma) (hb : Em X T W b mb) (hc : Em X T W c mc) (hm : lastMarks [op, op'] [b, c] = false := by rfl) :
    Em X T W (.Compare a [op, op'] [b, c] pos) (mChain f f' ma mb mc) := PE.of (pe_chain hr hr' ha hb hc hm) fun σ H Q p => chain3 ho ho' p
theorem tm_chain {op op' : CmpOp} {r r' : R2} {f f' : F2} (hr : OpR X (compareOp op) r) (ho : Op2 (gx X T) r f) (hr' : OpR X (compareOp op') r') (ho' : Op2 (gx X T) r' f') (ha : Em X T W a ma) (hb : Em X T W b mb) (hc : Em X T W c mc) (hm : lastMarks [op, op'] [b, c] = false := by rfl) :
    Tm X T W (.Compare a [op, op'] [b, c] pos) (mBool (mChain f f' ma mb mc)) := PT.of (pt_chain hr hr' ha hb hc hm) fun σ H Q ⟨π, env, h, s, p⟩ => by
  refine chain3 ho ho' ⟨π, env, h, s, p.bind.mono fun π1 H1 h1 d s1 g1 p1 x dx => ?_⟩
  cases d <;> first
    | exact p1.elim
    | (obtain rfl := (show x = _ from dx); exact ⟨_, rfl, p1 π1 H1 Step.refl g1⟩)
/-- lt, le, gt, ge as the chain wants them -/
theorem cl_lt : OpR X (compareOp .Lt) (rI0 fun i j => .bl (decide (i < j))) ∧ Op2 (gx X T) (rI0 fun i j => .bl (decide (i < j))) fLt := ⟨op_lt, o2_B0⟩
theorem cl_le : OpR X (compareOp .LtE) (rI0 fun i j => .bl (decide (i ≤ j))) ∧ Op2 (gx X T) (rI0 fun i j => .bl (decide (i ≤ j))) fLe := ⟨op_le, o2_B0⟩
end
end MM

namespace MM
open PySem L2

inductive SR where
  | next (env : Ev) (h : Hm)
  | ret (d : D) (h : Hm)
  | brk (env : Ev) (h : Hm)
  | cont (env : Ev) (h : Hm)
  | exn (x : Ex) (env : Ev) (h : Hm)
  | bad
def R.bindS {α : Type} (r : R α) (env : Ev) (k : α → Hm → SR) : SR := match r with
  | .ok a h => k a h
  | .exn x h => .exn x env h
  | .bad => .bad
/-- what stands behind a block -/
def SR.then (r : SR) (k : Ev → Hm → SR) : SR := match r with
  | .next env h => k env h
  | r => r
def PostS (G : Gx) (W : WX) (D : Ends) (π : List Addr) (H : Hp) (r : SR) : Prop := match r with
  | .next env h => ∀ π' σ' H', Step π H π' H' → S G π' env h σ' H' → D.nx σ' H'
  | .ret d h => ∀ π' H' v, Step π H π' H' → Good G π' h H' → DV G.K π' H' d v → D.rt v H'
  | .brk env h => ∀ π' σ' H', Step π H π' H' → S G π' env h σ' H' → D.bk σ' H'
  | .cont env h => ∀ π' σ' H', Step π H π' H' → S G π' env h σ' H' → D.ct σ' H'
  | .exn x env h => ∀ π' σ' H' cls d, Step π H π' H' → S G π' env h σ' H' → ExV G π' H' x cls d → W cls d σ' H'
  | .bad => False
def tS (G : Gx) (W : WX) (m : Ev → Hm → SR) : TS := fun D σ H => ∃ π env h, S G π env h σ H ∧ PostS G W D π H (m env h)
section
variable {G : Gx} {W : WX} {D : Ends} {π π' : List Addr} {σ : L2.St} {H H' : Hp} {env : Ev} {h h' : Hm} {α : Type}
theorem PostS.step {r : SR} (s : Step π H π' H') (p : PostS G W D π H r) : PostS G W D π' H' r := by
  cases r with
  | next env h => exact fun π2 σ2 H2 s2 x => p π2 σ2 H2 (s.trans s2) x
  | ret d h => exact fun π2 H2 v s2 x e => p π2 H2 v (s.trans s2) x e
  | brk env h => exact fun π2 σ2 H2 s2 x => p π2 σ2 H2 (s.trans s2) x
  | cont env h => exact fun π2 σ2 H2 s2 x => p π2 σ2 H2 (s.trans s2) x
  | exn y env h => exact fun π2 σ2 H2 cls d s2 x e => p π2 σ2 H2 cls d (s.trans s2) x e
  | bad => exact p
theorem PostS.bind {r : R α} {k : α → Hm → SR} (s : S G π env h σ H) (p : PostS G W D π H (r.bindS env k)) : Post G W π σ H r fun π' H' h' a => PostS G W D π' H' (k a h') := by
  cases r with
  | ok a h' => exact fun π' H' s' g => PostS.step s' p
  | exn x h' => exact fun π' H' cls d s' g e => p π' σ H' cls d s' ⟨g, s.env.step s'⟩ e
  | bad => exact p
theorem PostS.then {r : SR} {k : Ev → Hm → SR} (p : PostS G W D π H (r.then k)) : PostS G W { D with nx := tS G W k D } π H r := by
  cases r with
  | next env h => exact fun π2 σ2 H2 s2 x => ⟨π2, env, h, x, PostS.step s2 p⟩
  | ret d h => exact p
  | brk env h => exact p
  | cont env h => exact p
  | exn y env h => exact p
  | bad => exact p
theorem PostS.mono {D' : Ends} {r : SR} (p : PostS G W D π H r) (h1 : ∀ σ H, D.nx σ H → D'.nx σ H) (h2 : ∀ v H, D.rt v H → D'.rt v H) (h3 : ∀ σ H, D.bk σ H → D'.bk σ H) (h4 : ∀ σ H, D.ct σ H → D'.ct σ H) : PostS G W D' π H r := by
  cases r with
  | next env h => exact fun π2 σ2 H2 s2 x => h1 _ _ (p π2 σ2 H2 s2 x)
  | ret d h => exact fun π2 H2 v s2 x e => h2 _ _ (p π2 H2 v s2 x e)
  | brk env h => exact fun π2 σ2 H2 s2 x => h3 _ _ (p π2 σ2 H2 s2 x)
  | cont env h => exact fun π2 σ2 H2 s2 x => h4 _ _ (p π2 σ2 H2 s2 x)
  | exn y env h => exact p
  | bad => exact p
end
abbrev Sm (X : Cx) (T : List (Addr × Str)) (W : WX) (e : Stmt) (m : Ev → Hm → SR) : Prop := PS X e (tS (gx X T) W m)
abbrev Ssm (X : Cx) (T : List (Addr × Str)) (W : WX) (e : List Stmt) (m : Ev → Hm → SR) : Prop := PSs X e (tS (gx X T) W m)

/-- a store goes on, or is wrong -/
def SR.only (r : SR) : SR := match r with
  | .next env h => .next env h
  | .exn x env h => .exn x env h
  | _ => .bad
abbrev Gt := D → Ev → Hm → SR
abbrev Gts := List D → Ev → Hm → SR
def nxO (Q : L2.St → Hp → Prop) : Ends := { nx := Q, rt := fun _ _ => False }
def tG (G : Gx) (W : WX) (g : Gt) : TG := fun v σ H Q => ∃ π env h d, S G π env h σ H ∧ DV G.K π H d v ∧ PostS G W (nxO Q) π H (g d env h)
def tGs (G : Gx) (W : WX) (g : Gts) : TGs := fun vs σ H Q => ∃ π env h ds, S G π env h σ H ∧ DVs G.K π H ds vs ∧ PostS G W (nxO Q) π H (g ds env h)
theorem PG.of {X : Cx} {e : Expr} {t t' : TG} (p : PG X e t) (w : ∀ v σ H Q, t' v σ H Q → t v σ H Q) : PG X e t' := ⟨fun pins s σ H v u Q I r h => p.run pins s σ H v u Q I r (w v σ H Q h)⟩
theorem PGs.of {X : Cx} {e : List Expr} {t t' : TGs} (p : PGs X e t) (w : ∀ v σ H Q, t' v σ H Q → t v σ H Q) : PGs X e t' := ⟨fun pins s σ H v u Q I r h => p.run pins s σ H v u Q I r (w v σ H Q h)⟩
abbrev Gm (X : Cx) (T : List (Addr × Str)) (W : WX) (e : Expr) (g : Gt) : Prop := PG X e (tG (gx X T) W g)
abbrev Gsm (X : Cx) (T : List (Addr × Str)) (W : WX) (e : List Expr) (g : Gts) : Prop := PGs X e (tGs (gx X T) W g)
def gN (i : Nat) : Gt := fun d env h => .next (env.set i (some d)) h
def gsNil : Gts := fun ds env h => match ds with
  | [] => .next env h
  | _ => .bad
def gsCons (g : Gt) (r : Gts) : Gts := fun ds env h => match ds with
  | d :: ds => (g d env h).then (r ds)
  | [] => .bad
/-- a tuple is unpacked -/
def gT (n : Nat) (r : Gts) : Gt := fun d env h => match d with
  | .tup ds => if ds.length = n then r ds env h else .bad
  | _ => .bad
/-- a list is unpacked -/
def gL (n : Nat) (r : Gts) : Gt := fun d env h => match d with
  | .ref i => match h[i]? with
    | some (.lst ds) => if ds.length = n then r ds env h else .bad
    | _ => .bad
  | _ => .bad
section
variable {X : Cx} {T : List (Addr × Str)} {W : WX} {e : Expr} {es : List Expr} {g : Gt} {r : Gts} {pos : Pos}
theorem gm_name (i : Nat) {x : Str} (hN : X.N.Nodup) (hi : X.N[i]? = some x := by rfl) (hx : Loc X.env.scope x := by first | exact .inl rfl | exact .inr rfl) (hf : X.fn x = true ∨ X.env.scope.names.lookup x = some .local := by first | exact .inl rfl | exact .inr rfl | assumption) : Gm X T W (.Name x pos) (gN i) :=
  PG.of (pg_name hN hi hx hf) fun v σ H Q ⟨π, env, h, d, s, dv, p⟩ => p π _ H Step.refl ⟨s.good, s.env.set dv i⟩
theorem gsm_nil : Gsm X T W [] gsNil := PGs.of pgs_nil fun v σ H Q ⟨π, env, h, ds, s, dv, p⟩ => by
  cases ds with
  | nil => exact ⟨dv, p π σ H Step.refl s⟩
  | cons d ds => exact p.elim
theorem gsm_cons (h1 : Gm X T W e g) (h2 : Gsm X T W es r) (hs : (assignEach (e :: es) X.env).map (·.2) = assign e X.env :: (assignEach es X.env).map (·.2) := by rfl) : Gsm X T W (e :: es) (gsCons g r) := PGs.of (pgs_cons h1 h2 hs) fun v σ H Q ⟨π, env, h, ds, s, dv, p⟩ => by
  cases ds with
  | nil => exact p.elim
  | cons d ds =>
    obtain ⟨v, vs, rfl, d1, d2⟩ := dv
    refine ⟨v, vs, rfl, π, env, h, d, s, d1, ?_⟩
    have p' : PostS (gx X T) W (nxO Q) π H ((g d env h).then (r ds)) := p
    generalize g d env h = z at p' ⊢
    cases z with
    | next env' h' => exact fun π2 σ2 H2 s2 x => ⟨π2, env', h', ds, x, d2.step s2 _ _, PostS.step s2 p'⟩
    | ret d h => exact p'
    | brk env h => exact p'
    | cont env h => exact p'
    | exn y env h => exact p'
    | bad => exact p'
theorem gm_tup {k n : Nat} (hc : X.calm = true) (hr : Gsm X T W es r) (hn : (assignEach es X.env).length = n := by rfl) (hst : (assignEach es X.env).findIdx? (·.1) = none := by rfl) : Gm X T W (.Tuple es k pos) (gT n r) :=
  PG.of (pg_tup hc hr hn hst) fun v σ H Q ⟨π, env, h, d, s, dv, p⟩ => by
    unfold gT at p
    split at p
    · obtain ⟨a, xs, rfl, t, q⟩ := dv
      split at p
      · rename_i hl
        exact ⟨a, xs, rfl, t.sq, by rw [q.len]; exact hl, π, env, h, _, s, q, p⟩
      · exact p.elim
    · exact p.elim
theorem gm_lst {k n : Nat} (hc : X.calm = true) (hr : Gsm X T W es r) (hn : (assignEach es X.env).length = n := by rfl) (hst : (assignEach es X.env).findIdx? (·.1) = none := by rfl) : Gm X T W (.Tuple es k pos) (gL n r) :=
  PG.of (pg_lst hc hr hn hst) fun v σ H Q ⟨π, env, h, d, s, dv, p⟩ => by
    unfold gL at p
    split at p
    · obtain ⟨a, qa, rfl⟩ := dv
      split at p
      · rename_i e0
        obtain ⟨xs, ha, q⟩ := s.good.lst e0 qa
        split at p
        · rename_i hl
          exact ⟨a, xs, rfl, SqL.of ha, by rw [q.len]; exact hl, π, env, h, _, s, q, p⟩
        · exact p.elim
      · exact p.elim
    · exact p.elim
end

def sNil : Ev → Hm → SR := fun env h => .next env h
def sSeq (a b : Ev → Hm → SR) : Ev → Hm → SR := fun env h => (a env h).then b
def sDrop (m : Ev → Hm → R D) : Ev → Hm → SR := fun env h => (m env h).bindS env fun _ h1 => .next env h1
def sRet (m : Ev → Hm → R D) : Ev → Hm → SR := fun env h => (m env h).bindS env fun d h1 => .ret d h1
def sRetN : Ev → Hm → SR := fun _ h => .ret .non h
def sIf (c : Ev → Hm → R Bool) (a b : Ev → Hm → SR) : Ev → Hm → SR := fun env h => (c env h).bindS env fun k h1 => if k = true then a env h1 else b env h1
def sAsg (g : Gt) (m : Ev → Hm → R D) : Ev → Hm → SR := fun env h => (m env h).bindS env fun d h1 => (g d env h1).only
def sBrk : Ev → Hm → SR := fun env h => .brk env h
def sCont : Ev → Hm → SR := fun env h => .cont env h
/-- a, b = x, y of names of one's own -/
def sPar (i j : Nat) (m : Ev → Hm → R (List D)) : Ev → Hm → SR := fun env h => (m env h).bindS env fun ds h1 => match ds with
  | [a, b] => .next ((env.set i (some a)).set j (some b)) h1
  | _ => .bad
def sPar3 (i j l : Nat) (m : Ev → Hm → R (List D)) : Ev → Hm → SR := fun env h => (m env h).bindS env fun ds h1 => match ds with
  | [a, b, c] => .next (((env.set i (some a)).set j (some b)).set l (some c)) h1
  | _ => .bad
def sAug (i : Nat) (f : F2) (m : Ev → Hm → R D) : Ev → Hm → SR := fun env h => match env[i]? with
  | some (some x) => (m env h).bindS env fun y h1 => (f x y h1).bindS env fun z h2 => .next (env.set i (some z)) h2
  | _ => .bad
def sWhile (c : Ev → Hm → R Bool) (b : Ev → Hm → SR) : Nat → Ev → Hm → SR
  | 0, _, _ => .bad
  | n + 1, env, h => (c env h).bindS env fun k h1 => if k = true then (match b env h1 with
      | .next e h2 => sWhile c b n e h2
      | .cont e h2 => sWhile c b n e h2
      | .brk e h2 => .next e h2
      | r => r) else .next env h1
section
variable {X : Cx} {T : List (Addr × Str)} {W : WX} {st : Stmt} {sts sts' : List Stmt} {e c tg : Expr} {me : Ev → Hm → R D} {tc : Ev → Hm → R Bool} {ms ms' : Ev → Hm → SR} {pos : Pos}
theorem ssm_nil : Ssm X T W [] sNil := PSs.of pss_nil fun D σ H ⟨π, env, h, s, p⟩ => p π σ H Step.refl s
theorem ssm_cons (h1 : Sm X T W st ms) (h2 : Ssm X T W sts ms') : Ssm X T W (st :: sts) (sSeq ms ms') := PSs.of (pss_cons h1 h2) fun D σ H ⟨π, env, h, s, p⟩ => ⟨π, env, h, s, PostS.then p⟩
theorem ssm_one (h1 : Sm X T W st ms) : Ssm X T W [st] ms := pss_one h1
theorem sm_pass : Sm X T W (.Pass pos) sNil := PS.of ps_pass fun D σ H ⟨π, env, h, s, p⟩ => p π σ H Step.refl s
theorem sm_break : Sm X T W (.Break pos) sBrk := PS.of ps_break fun D σ H ⟨π, env, h, s, p⟩ => p π σ H Step.refl s
theorem sm_continue : Sm X T W (.Continue pos) sCont := PS.of ps_continue fun D σ H ⟨π, env, h, s, p⟩ => p π σ H Step.refl s
theorem sm_expr (he : Em X T W e me) (hs : swapsWith e none pos.line X.env = pure false := by rfl) : Sm X T W (.Expr e pos) (sDrop me) := PS.of (ps_expr he hs) fun D σ H ⟨π, env, h, s, p⟩ =>
  ⟨π, env, h, s, (PostS.bind s p).mono fun π1 H1 h1 d s1 g1 p1 v dv => p1 π1 σ H1 Step.refl (s.step s1 g1)⟩
theorem sm_ret (he : Em X T W e me) : Sm X T W (.Return (some e) pos) (sRet me) := PS.of (ps_ret he) fun D σ H ⟨π, env, h, s, p⟩ =>
  ⟨π, env, h, s, (PostS.bind s p).mono fun π1 H1 h1 d s1 g1 p1 v dv => p1 π1 H1 v Step.refl g1 dv⟩
theorem sm_retN : Sm X T W (.Return none pos) sRetN := PS.of ps_retN fun D σ H ⟨π, env, h, s, p⟩ => p π H _ Step.refl s.good rfl
theorem sm_if (hc : Tm X T W c tc) (ha : Ssm X T W sts ms) (hb : Ssm X T W sts' ms') : Sm X T W (.If c sts sts' pos) (sIf tc ms ms') := PS.of (ps_if hc ha hb) fun D σ H ⟨π, env, h, s, p⟩ =>
  ⟨π, env, h, s, (PostS.bind s p).mono fun π1 H1 h1 k s1 g1 p1 => by
    cases k with
    | true => exact iteT ⟨π1, env, h1, s.step s1 g1, p1⟩
    | false => exact iteF ⟨π1, env, h1, s.step s1 g1, p1⟩⟩
theorem sm_set (i : Nat) {x : Str} {pos' : Pos} (hN : X.N.Nodup) (he : Em X T W e me) (hi : X.N[i]? = some x := by rfl) (hx : Loc X.env.scope x := by first | exact .inl rfl | exact .inr rfl) (hs : swapsWith e (some (.Name x pos')) pos.line X.env = pure false := by rfl)
    (hf : X.fn x = true ∨ X.env.scope.names.lookup x = some .local := by first | exact .inl rfl | exact .inr rfl | assumption) : Sm X T W (.Assign [.Name x pos'] e pos) (sAsg (gN i) me) := PS.of (ps_set hN hi hx he hs hf) fun D σ H ⟨π, env, h, s, p⟩ =>
  ⟨π, env, h, s, (PostS.bind s p).mono fun π1 H1 h1 d s1 g1 p1 v dv => p1 π1 _ H1 Step.refl ⟨g1, (s.step s1 g1).env.set dv i⟩⟩
theorem sm_asg {g : Gt} (hg : Gm X T W tg g) (he : Em X T W e me) (hs : swapsWithSole [tg] e pos.line X.env = pure false := by rfl) (hw : swappedStores [tg] e X.env = pure none := by rfl) (h1 : (assignEach [tg] X.env).map (·.2) = [assign tg X.env] := by rfl) : Sm X T W (.Assign [tg] e pos) (sAsg g me) :=
  PS.of (ps_asg he hg hs hw h1) fun D σ H ⟨π, env, h, s, p⟩ => ⟨π, env, h, s, (PostS.bind s p).mono fun π1 H1 h1 d s1 g1 p1 v dv => ⟨π1, env, h1, d, s.step s1 g1, dv, by
    generalize g d env h1 = z at p1 ⊢
    cases z with
    | next env' h' => exact p1
    | ret d h => exact (show False from p1).elim
    | brk env h => exact (show False from p1).elim
    | cont env h => exact (show False from p1).elim
    | exn y env h => exact p1
    | bad => exact p1⟩⟩
theorem sm_par (i j : Nat) {x y : Str} {a b : Expr} {ml : Ev → Hm → R (List D)} {px py pt : Pos} {kt k2 pt2} (hc : X.calm = true) (hN : X.N.Nodup) (ha : Am X T W [a, b] ml) (hi : X.N[i]? = some x := by rfl) (hj : X.N[j]? = some y := by rfl) (hij : i ≠ j := by decide)
    (hx : X.env.scope.names.lookup x = some .local := by rfl) (hy : X.env.scope.names.lookup y = some .local := by rfl)
    (hw : swappedStores [.Tuple [.Name x px, .Name y py] kt pt] (.Tuple [a, b] k2 pt2) X.env = pure (some [x, y]) := by rfl)
    (hs : swapsWithSole [.Tuple [.Name x px, .Name y py] kt pt] (.Tuple [a, b] k2 pt2) pos.line X.env = pure false := by rfl) :
    Sm X T W (.Assign [.Tuple [.Name x px, .Name y py] kt pt] (.Tuple [a, b] k2 pt2) pos) (sPar i j ml) := PS.of (ps_par hc hN hi hj hij hx hy ha hw hs) fun D σ H ⟨π, env, h, s, p⟩ =>
  ⟨π, env, h, s, (PostS.bind s p).mono fun π1 H1 h1 ds s1 g1 p1 vs dv => by
    split at p1
    · obtain ⟨v, vs, rfl, d1, w, ws, rfl, d2, e3⟩ := dv
      obtain rfl := (show ws = [] from e3)
      exact ⟨v, w, rfl, p1 π1 _ H1 Step.refl ⟨g1, ((s.step s1 g1).env.set d1 i).set d2 j⟩⟩
    · exact p1.elim⟩
theorem sm_par3 (i j l : Nat) {x y z : Str} {a b c : Expr} {ml : Ev → Hm → R (List D)} {px py pz pt : Pos} {kt k2 pt2} (hc : X.calm = true) (hN : X.N.Nodup) (ha : Am X T W [a, b, c] ml) (hi : X.N[i]? = some x := by rfl) (hj : X.N[j]? = some y := by rfl) (hl : X.N[l]? = some z := by rfl)
    (hij : i ≠ j := by decide) (hil : i ≠ l := by decide) (hjl : j ≠ l := by decide)
    (hx : X.env.scope.names.lookup x = some .local := by rfl) (hy : X.env.scope.names.lookup y = some .local := by rfl) (hz : X.env.scope.names.lookup z = some .local := by rfl)
    (hw : swappedStores [.Tuple [.Name x px, .Name y py, .Name z pz] kt pt] (.Tuple [a, b, c] k2 pt2) X.env = pure (some [x, y, z]) := by rfl)
    (hs : swapsWithSole [.Tuple [.Name x px, .Name y py, .Name z pz] kt pt] (.Tuple [a, b, c] k2 pt2) pos.line X.env = pure false := by rfl) :
    Sm X T W (.Assign [.Tuple [.Name x px, .Name y py, .Name z pz] kt pt] (.Tuple [a, b, c] k2 pt2) pos) (sPar3 i j l ml) := PS.of (ps_par3 hc hN hi hj hl hij hil hjl hx hy hz ha hw hs) fun D σ H ⟨π, env, h, s, p⟩ =>
  ⟨π, env, h, s, (PostS.bind s p).mono fun π1 H1 h1 ds s1 g1 p1 vs dv => by
    split at p1
    · obtain ⟨v, vs, rfl, d1, w, ws, rfl, d2, u, us, rfl, d3, e3⟩ := dv
      obtain rfl := (show us = [] from e3)
      exact ⟨v, w, u, rfl, p1 π1 _ H1 Step.refl ⟨g1, (((s.step s1 g1).env.set d1 i).set d2 j).set d3 l⟩⟩
    · exact p1.elim⟩
theorem sm_aug (i : Nat) {x : Str} {op : Operator} {r : R2} {f : F2} {pos' : Pos} (hN : X.N.Nodup) (hr : OpR X (inplaceOp op) r) (ho : Op2 (gx X T) r f) (he : Em X T W e me) (hi : X.N[i]? = some x := by rfl) (hx : Loc X.env.scope x := by first | exact .inl rfl | exact .inr rfl)
    (hf : X.fn x = true ∨ X.env.scope.names.lookup x = some .local := by first | exact .inl rfl | exact .inr rfl | assumption) : Sm X T W (.AugAssign (.Name x pos') op e pos) (sAug i f me) :=
  PS.of (ps_aug (ti := fun x y H Q => r x y H Q) hN hi hx he (fun pins s σ H x y v u Q I r1 r2 h => hr pins s σ H x y v u Q I r1 r2 h) hf) fun D σ H ⟨π, env, h, s, p⟩ => by
    unfold sAug at p
    split at p
    · rename_i d e0
      obtain ⟨v, h1, h2⟩ := s.env.get i d e0
      refine ⟨v, h1, π, env, h, s, (PostS.bind s p).mono fun π1 H1 h1 y s1 g1 p1 w dw => ?_⟩
      exact ho W π1 σ h1 H1 d y v w _ g1 (h2.step s1 _ _) dw ((PostS.bind (s.step s1 g1) p1).mono fun π2 H2 h2 z s2 g2 p2 u du => p2 π2 _ H2 Step.refl ⟨g2, ((s.step s1 g1).step s2 g2).env.set du i⟩)
    · exact p.elim
theorem sm_while {n : Nat} (hp : PassesOwn (model X.prog X.w) X.A X.env X.xe) (hc : Tm X T W c tc) (hb : Ssm X T W sts ms) : Sm X T W (.While c sts [] pos) (sWhile tc ms n) := PS.of (ps_while hp hc hb) fun D σ H ⟨π, env, h, s, p⟩ => by
  refine ⟨fun m σ' H' => ∃ π' env' h', S (gx X T) π' env' h' σ' H' ∧ PostS (gx X T) W D π' H' (sWhile tc ms m env' h'), ⟨n, π, env, h, s, p⟩, ?_⟩
  rintro m σ1 H1 ⟨π1, env1, h1, s1, p1⟩
  cases m with
  | zero => exact p1.elim
  | succ m =>
    refine ⟨π1, env1, h1, s1, (PostS.bind s1 p1).mono fun π2 H2 h2 k s2 g2 p2 => ?_⟩
    cases k with
    | false => exact iteF (p2 π2 σ1 H2 Step.refl (s1.step s2 g2))
    | true =>
      refine iteT ⟨fun σ' H' => ∃ π' env' h', S (gx X T) π' env' h' σ' H' ∧ PostS (gx X T) W D π' H' (sWhile tc ms m env' h'), fun σ' H' z => ⟨m, Nat.lt_succ_self m, z⟩, π2, env1, h2, s1.step s2 g2, ?_⟩
      rw [if_pos rfl] at p2
      generalize ms env1 h2 = z at p2 ⊢
      cases z with
      | next env' h' => exact fun π3 σ3 H3 s3 x => ⟨π3, env', h', x, PostS.step s3 p2⟩
      | ret d h => exact p2
      | brk env h => exact p2
      | cont env h => exact fun π3 σ3 H3 s3 x => ⟨π3, env, h, x, PostS.step s3 p2⟩
      | exn y env h => exact p2
      | bad => exact p2
end
end MM

namespace MM
open PySem L2

def rIxD : R2 := fun x y H Q => ∃ a v, x = .ref a ∧ DGet H a y (some v) ∧ Q v H
theorem ix_dict {X : Cx} (hu : X.A.units + 1 < cLine) : IxR X rIxD := by
  intro value slice pins s σ H x y v u Q I rx ry h hs
  obtain ⟨a, z, rfl, g, q⟩ := h
  obtain rfl : v = Value.ref a := rx
  have hT := dict_typeIs I g
  unfold PyProof.Rows.subscriptTail
  refine wpAny_bind ?_
  rw [getitemInPython_of_ne hT.not_modules]
  refine wpAny_bind (wpAny_specialOf hT PySem.F.slot_dict_getitem.lookup ?_)
  have fin : wpAny (model X.prog X.w) X.A (subscripted slice false (.ref a) u) (fun r s₃ => wpAny (model X.prog X.w) X.A (letTemporaryGo value (.ref a) r >>= fun _ => pure r) (EP X pins σ Q) X.xe s₃) X.xe s := by
    rw [hs]
    exact wpAny_operating (wpAny_mono (d_getItem (Q := fun r s3 => EP X pins σ Q r s3) hu I g ry fun w' s3 I3 rw' => ⟨z, H, I3, rw', q⟩) (fun r s₃ h₃ => wpAny_bind (wpAny_letTemporaryGo (wpAny_pure h₃))) fun _ _ x => x)
  first
    | exact wpAny_pure (wpAny_bind fin)
    | exact wpAny_bind (wpAny_pure (wpAny_bind fin))
    | exact wpAny_bind fin
def rIxM (K : PySem.W.Frag) : R2 := fun x y H Q => rIxL K x y H Q ∨ rIxT K x y H Q ∨ rIxS x y H Q ∨ rIxD x y H Q
theorem or_ix {X : Cx} (hu : X.A.units + 1 < cLine) : IxR X (rIxM X.K) := ix_list.or (ix_tup.or (ix_str.or (ix_dict hu)))
def fIx : F2 := fun x y h => match x, y with
  | .tup ds, .int i => match atI ds i with
    | some d => .ok d h
    | none => .bad
  | .rol ds, .int i => match atI ds i with
    | some d => .ok d h
    | none => .bad
  | .str z, .int i => if z.length ≤ 16777216 then match atI z.cps.toList i with
      | some c => .ok (.str ⟨#[c]⟩) h
      | none => .bad else .bad
  | .ref r, y => match h[r]? with
    | some (.lst ds) => match y with
      | .int i => match atI ds i with
        | some d => .ok d h
        | none => .bad
      | _ => .bad
    | some (.dic kvs) => match keyD y with
      | some k => match getK kvs k with
        | some d => .ok d h
        | none => .bad
      | none => .bad
    | _ => .bad
  | _, _ => .bad
section
variable {K : PySem.W.Frag} {π : List Addr} {H : Hp}
theorem DVs.atI {ds : List D} {xs : List V} {i : Int} {d : D} (h : DVs K π H ds xs) (e : L2.atI ds i = some d) : ∃ v, L2.atI xs i = some v ∧ DV K π H d v := by
  unfold L2.atI at e ⊢
  rw [h.len]
  cases q : ixN ds.length i with
  | none => rw [q] at e; cases e
  | some j =>
    rw [q] at e
    exact h.get e
end
theorem o2_ix {G : Gx} : Op2 G (rIxM G.K) fIx := by
  intro W π σ h H d e x y Q g dx ey p
  unfold fIx at p
  split at p
  · obtain ⟨a, xs, rfl, t, q⟩ := dx
    obtain rfl := (show y = _ from ey)
    split at p
    · rename_i e0
      obtain ⟨v, h1, h2⟩ := q.atI e0
      exact .inr (.inl ⟨a, xs, _, v, rfl, rfl, t.sq, h1, post_val g p h2⟩)
    · exact p.elim
  · obtain ⟨a, xs, rfl, t, q⟩ := dx
    obtain rfl := (show y = _ from ey)
    split at p
    · rename_i e0
      obtain ⟨v, h1, h2⟩ := q.atI e0
      exact .inl ⟨a, xs, _, v, rfl, rfl, t.sq, h1, post_val g p h2⟩
    · exact p.elim
  · obtain rfl := (show x = _ from dx)
    obtain rfl := (show y = _ from ey)
    split at p
    · rename_i hl
      split at p
      · rename_i e0
        exact .inr (.inr (.inl ⟨_, _, _, rfl, rfl, szl hl, e0, post_val g p rfl⟩))
      · exact p.elim
    · exact p.elim
  · obtain ⟨a, qa, rfl⟩ := dx
    split at p
    · rename_i e1
      obtain ⟨xs, ha, q⟩ := g.lst e1 qa
      split at p
      · obtain rfl := (show y = _ from ey)
        split at p
        · rename_i e0
          obtain ⟨v, h1, h2⟩ := q.atI e0
          exact .inl ⟨a, xs, _, v, rfl, rfl, SqL.of ha, h1, post_val g p h2⟩
        · exact p.elim
      · exact p.elim
    · rename_i e1
      obtain ⟨xs, ha, q⟩ := g.obj e1 qa
      split at p
      · rename_i k ek
        obtain rfl := keyD_V ek ey
        have z := getK_V (κ := k) q
        split at p
        · rename_i w ew
          rw [ew] at z
          obtain ⟨v, z1, z2⟩ := z
          refine .inr (.inr (.inr ⟨a, v, rfl, ?_, post_val g p z2⟩))
          rw [← z1]
          exact DGet.k ha
        · exact p.elim
      · exact p.elim
    · exact p.elim
  · exact p.elim
theorem em_ix {X : Cx} {T : List (Addr × Str)} {W : WX} {a b : Expr} {ma mb : Ev → Hm → R D} {pos : Pos} (hu : X.A.units + 1 < cLine) (ha : Em X T W a ma) (hb : Em X T W b mb) (hs : PlainIx b := by exact fun _ _ => rfl) : Em X T W (.Subscript a b pos) (m2 fIx ma mb) :=
  PE.of (pe_ix (or_ix hu) ha hb hs) fun σ H Q p => chain2 o2_ix p

def cutD (xs : List D) (lo hi : Option Int) : List D := (xs.drop (HT.sIx xs.length 0 lo)).take (HT.sIx xs.length xs.length hi - HT.sIx xs.length 0 lo)
def fSl (x : D) (lo hi : Option Int) (h : Hm) : R D := match x with
  | .tup ds => .ok (.tup (cutD ds lo hi)) h
  | .rol ds => .ok (.ref h.length) (h ++ [.lst (cutD ds lo hi)])
  | .ref r => match h[r]? with
    | some (.lst ds) => .ok (.ref h.length) (h ++ [.lst (cutD ds lo hi)])
    | _ => .bad
  | .str z => if z.length ≤ 16777216 then .ok (.str (cutS z lo hi)) h else .bad
  | _ => .bad
def mNo : Ev → Hm → R (Option Int) := fun _ h => .ok none h
def mSome (m : Ev → Hm → R D) : Ev → Hm → R (Option Int) := fun env h => (m env h).bind fun x h1 => match x with
  | .int i => .ok (some i) h1
  | _ => .bad
def mSl (a : Ev → Hm → R D) (l u : Ev → Hm → R (Option Int)) : Ev → Hm → R D := fun env h => (a env h).bind fun x h1 => (l env h1).bind fun lo h2 => (u env h2).bind fun hi h3 => fSl x lo hi h3
def tO (G : Gx) (W : WX) (m : Ev → Hm → R (Option Int)) : TO := fun σ H Q => ∃ π env h, S G π env h σ H ∧ Post G W π σ H (m env h) fun _ H' _ o => Q o H'
abbrev Om (X : Cx) (T : List (Addr × Str)) (W : WX) (e : Option Expr) (m : Ev → Hm → R (Option Int)) : Prop := PO X e (tO (gx X T) W m)
theorem PO.of {X : Cx} {e : Option Expr} {t t' : TO} (p : PO X e t) (w : ∀ σ H Q, t' σ H Q → t σ H Q) : PO X e t' := ⟨fun pins s σ H Q I h => p.run pins s σ H Q I (w σ H Q h)⟩
theorem cutD_V {K : PySem.W.Frag} {π : List Addr} {H : Hp} {ds : List D} {xs : List V} (h : DVs K π H ds xs) (lo hi : Option Int) : DVs K π H (cutD ds lo hi) (cutV xs lo hi) := by
  unfold cutD cutV
  rw [h.len]
  exact (h.drop _).take _
theorem cut_whole {ds : List D} {lo hi : Option Int} (e : HT.sIx ds.length 0 lo = 0 ∧ HT.sIx ds.length ds.length hi = ds.length) : cutD ds lo hi = ds := by
  unfold cutD
  rw [e.1, e.2, List.drop_zero, Nat.sub_zero, List.take_length]
def rSlM (K : PySem.W.Frag) : V → Option Int → Option Int → Hp → VK → Prop := fun x lo hi H Q => rSlA K x lo hi H Q ∨ rSlL K x lo hi H Q ∨ rSlS x lo hi H Q
theorem or_sl {X : Cx} : SlR X (rSlM X.K) := sl_tupA.or (sl_list.or sl_str)
section
variable {X : Cx} {T : List (Addr × Str)} {W : WX} {e : Expr} {lo hi : Option Expr} {me : Ev → Hm → R D} {ml mh : Ev → Hm → R (Option Int)} {p2 pos : Pos}
theorem om_none : Om X T W none mNo := PO.of po_none fun σ H Q ⟨π, env, h, s, p⟩ => p π H Step.refl s.good
theorem om_some (he : Em X T W e me) : Om X T W (some e) (mSome me) := PO.of (po_some he) fun σ H Q ⟨π, env, h, s, p⟩ => by
  refine ⟨π, env, h, s, p.bind.mono fun π1 H1 h1 d s1 g1 p1 x dx => ?_⟩
  cases d <;> first
    | exact p1.elim
    | (obtain rfl := (show x = _ from dx); exact ⟨_, rfl, p1 π1 H1 Step.refl g1⟩)
theorem em_sl (he : Em X T W e me) (hl : Om X T W lo ml) (hh : Om X T W hi mh) : Em X T W (.Subscript e (.Slice lo hi none p2) pos) (mSl me ml mh) := PE.of (pe_slice or_sl he hl hh) fun σ H Q ⟨π, env, h, s, p⟩ => by
  refine ⟨π, env, h, s, p.bind.mono fun π1 H1 h1 d s1 g1 p1 x dx => ?_⟩
  refine ⟨π1, env, h1, s.step s1 g1, p1.bind.mono fun π2 H2 h2 lo s2 g2 p2 => ?_⟩
  refine ⟨π2, env, h2, (s.step s1 g1).step s2 g2, p2.bind.mono fun π3 H3 h3 hi s3 g3 p3 => ?_⟩
  have dx' := (dx.step s2 _ _).step s3 _ _
  unfold fSl at p3
  split at p3
  · obtain ⟨a, xs, rfl, t, q⟩ := dx'
    refine .inl ⟨a, xs, rfl, t.sq, fun z => ?_, fun z b n => post_tup g3 p3 (cutD_V q lo hi) b n⟩
    rw [q.len] at z
    rw [cut_whole z] at p3
    exact post_val g3 p3 ⟨a, xs, rfl, t, q⟩
  · obtain ⟨a, xs, rfl, t, q⟩ := dx'
    exact .inr (.inl ⟨a, xs, rfl, t.sq, fun b n => post_lst g3 p3 (cutD_V q lo hi) b n⟩)
  · obtain ⟨a, qa, rfl⟩ := dx'
    split at p3
    · rename_i e1
      obtain ⟨xs, ha, q⟩ := g3.lst e1 qa
      exact .inr (.inl ⟨a, xs, rfl, SqL.of ha, fun b n => post_lst g3 p3 (cutD_V q lo hi) b n⟩)
    · exact p3.elim
  · obtain rfl := (show x = _ from dx')
    split at p3
    · rename_i hl
      exact .inr (.inr ⟨_, rfl, szl hl, post_val g3 p3 rfl⟩)
    · exact p3.elim
  · exact p3.elim
theorem am_tup {es : List Expr} {x1} {mr : Ev → Hm → R (List D)} (ha : Am X T W es mr) (hl : es.length ≤ 1000) (hm : ∀ env h ds h', mr env h = .ok ds h' → ds.length = es.length) : Em X T W (.Tuple es x1 pos) (mTup mr) := PE.of (pe_tup ha) fun σ H Q ⟨π, env, h, s, p⟩ => by
  refine ⟨π, env, h, s, ?_⟩
  unfold mTup at p
  cases q : mr env h with
  | ok ds h' =>
    rw [q] at p
    have p' : Post (gx X T) W π σ H (R.ok (D.tup ds) h') (fun π' H' _ z => ∀ v, DV (gx X T).K π' H' z v → Q v H') := p
    intro π1 H1 s1 g1 vs dv
    refine ⟨szl (by rw [dv.len, hm _ _ _ _ q]; omega), fun a n => post_tup (W := W) (σ := σ) g1 ?_ dv a n⟩
    exact fun π2 H2 s2 g2 => p' π2 H2 (s1.trans s2) g2
  | exn x h' => rw [q] at p; exact p
  | bad => rw [q] at p; exact p
theorem am_lst {es : List Expr} {mr : Ev → Hm → R (List D)} (ha : Am X T W es mr) (hl : es.length ≤ 1000) (hm : ∀ env h ds h', mr env h = .ok ds h' → ds.length = es.length) : Em X T W (.List es pos) (mLst mr) := PE.of (pe_lst ha) fun σ H Q ⟨π, env, h, s, p⟩ => by
  refine ⟨π, env, h, s, ?_⟩
  unfold mLst at p
  cases q : mr env h with
  | ok ds h' =>
    rw [q] at p
    have p' : Post (gx X T) W π σ H (R.ok (D.ref h'.length) (h' ++ [O.lst ds])) (fun π' H' _ z => ∀ v, DV (gx X T).K π' H' z v → Q v H') := p
    intro π1 H1 s1 g1 vs dv
    refine ⟨szl (by rw [dv.len, hm _ _ _ _ q]; omega), fun a n => post_lst (W := W) (σ := σ) g1 ?_ dv a n⟩
    exact fun π2 H2 s2 g2 => p' π2 H2 (s1.trans s2) g2
  | exn x h' => rw [q] at p; exact p
  | bad => rw [q] at p; exact p
end
end MM

namespace MM
open PySem L2

abbrev Fc := List D → Hm → R D
def OpC (G : Gx) (r : List V → Hp → VK → Prop) (f : Fc) : Prop := ∀ (W : WX) (π : List Addr) (σ : L2.St) (h : Hm) (H : Hp) (ds : List D) (xs : List V) (Q : VK), Good G π h H → DVs G.K π H ds xs → Post G W π σ H (f ds h) (fun π' H' _ z => ∀ v, DV G.K π' H' z v → Q v H') → r xs H Q
def mCall (f : Fc) (mr : Ev → Hm → R (List D)) : Ev → Hm → R D := fun env h => (mr env h).bind f
section
variable {X : Cx} {T : List (Addr × Str)} {W : WX} {e : Expr} {es : List Expr} {x : Str} {id : String} {p pos : Pos} {r : List V → Hp → VK → Prop} {f : Fc} {mr : Ev → Hm → R (List D)}
theorem tCB_of (ho : OpC (gx X T) r f) {σ : L2.St} {H : Hp} {Q : VK} (q : tE (gx X T) W (mCall f mr) σ H Q) : tCB r (tL (gx X T) W mr) σ H Q := by
  obtain ⟨π, env, h, s, q⟩ := q
  refine ⟨π, env, h, s, q.bind.mono fun π1 H1 h1 ds s1 g1 p1 xs dx => ?_⟩
  exact ho W π1 σ h1 H1 ds xs Q g1 dx p1
theorem em_callB (hc : CallR X (.builtin id) r) (ho : OpC (gx X T) r f) (hg : Gl X x) (hm : X.mg x = none) (ha : Am X T W (e :: es) mr) (hv : bootBuiltins x = some (.builtin id)) (hn : x ≠ "__name__" := by decide) (hdb : (x == ("__debug__" : Str)) = false := by decide)
    (he : starEach (e :: es) X.env = (false, eval e X.env) :: starEach es X.env := by rfl) (hpl : (backTo pos (starEach es X.env)).any (·.1) = false := by rfl) : Em X T W (.Call (.Name x p) (e :: es) [] pos) (mCall f mr) :=
  PE.of (pe_callB hc hg hm hv ha hn hdb he hpl) fun σ H Q q => tCB_of ho q
theorem em_callTy (hc : CallR X (.type id) r) (ho : OpC (gx X T) r f) (hg : Gl X x) (hm : X.mg x = none) (ha : Am X T W (e :: es) mr) (hv : bootBuiltins x = some (.type id)) (hn : x ≠ "__name__" := by decide) (hdb : (x == ("__debug__" : Str)) = false := by decide)
    (he : starEach (e :: es) X.env = (false, eval e X.env) :: starEach es X.env := by rfl) (hpl : (backTo pos (starEach es X.env)).any (·.1) = false := by rfl) : Em X T W (.Call (.Name x p) (e :: es) [] pos) (mCall f mr) :=
  PE.of (pe_callTy hc hg hm hv ha hn hdb he hpl) fun σ H Q q => tCB_of ho q
end
def intsD : List D → Option (List Int)
  | [] => some []
  | .int i :: r => (intsD r).map (i :: ·)
  | _ => none
theorem intsD_eq : ∀ {ds : List D} {ns : List Int}, intsD ds = some ns → ds = ns.map D.int
  | [], ns, e => by cases e; rfl
  | d :: r, ns, e => by
    cases d <;> first
      | cases e
      | (rename_i i
         have e' : (intsD r).map (i :: ·) = some ns := e
         obtain ⟨ms, e1, rfl⟩ := map_some e'
         rw [intsD_eq e1] <;> rfl)
theorem DVs.ints {K : PySem.W.Frag} {π : List Addr} {H : Hp} : ∀ {ns : List Int} {xs : List V}, DVs K π H (ns.map D.int) xs → xs = ns.map V.int
  | [], _, h => h
  | i :: r, _, ⟨v, vs, e, h, q⟩ => by
    rw [e, show v = V.int i from h, DVs.ints q] <;> rfl
theorem DVs.ofInts {K : PySem.W.Frag} {π : List Addr} {H : Hp} : ∀ {ns : List Int}, DVs K π H (ns.map D.int) (ns.map V.int)
  | [] => rfl
  | i :: r => ⟨.int i, _, rfl, rfl, DVs.ofInts⟩
def fAbs : Fc := fun ds h => match ds with
  | [.int i] => .ok (.int (if i < 0 then -i else i)) h
  | _ => .bad
def fMax2 : Fc := fun ds h => match ds with
  | [.int i, .int j] => .ok (.int (if j > i then j else i)) h
  | _ => .bad
def fMin2 : Fc := fun ds h => match ds with
  | [.int i, .int j] => .ok (.int (if j < i then j else i)) h
  | _ => .bad
def fInt : Fc := fun ds h => match ds with
  | [.int i] => .ok (.int i) h
  | [.bl k] => .ok (.int (if k then 1 else 0)) h
  | _ => .bad
def lenD (h : Hm) : D → Option Nat
  | .str x => if x.length ≤ 16777216 then some x.length else none
  | .tup ds => some ds.length
  | .rol ds => some ds.length
  | .ref i => match h[i]? with
    | some (.lst ds) => some ds.length
    | some (.dic kvs) => some kvs.length
    | _ => none
  | _ => none
def fLen : Fc := fun ds h => match ds with
  | [d] => match lenD h d with
    | some n => .ok (.int n) h
    | none => .bad
  | _ => .bad
/-- the items of a list or a tuple -/
def itemsD (h : Hm) : D → Option (List D)
  | .tup ds => some ds
  | .rol ds => some ds
  | .ref i => match h[i]? with
    | some (.lst ds) => some ds
    | _ => none
  | _ => none
def fList : Fc := fun ds h => match ds with
  | [d] => match itemsD h d with
    | some xs => .ok (.ref h.length) (h ++ [.lst xs])
    | none => .bad
  | _ => .bad
def fTuple : Fc := fun ds h => match ds with
  | [d] => match itemsD h d with
    | some xs => .ok (.tup xs) h
    | none => .bad
  | _ => .bad
def fSum : Fc := fun ds h => match ds with
  | [.tup _] => .bad
  | [d] => match (itemsD h d).bind intsD with
    | some xs => .ok (.int xs.sum) h
    | none => .bad
  | _ => .bad
def fStr : Fc := fun ds h => match ds with
  | [.int i] => if i.natAbs.log2 < 1920 then .ok (.str (toString i)) h else .bad
  | [.str x] => .ok (.str x) h
  | _ => .bad
section
variable {G : Gx} {π : List Addr} {h : Hm} {H : Hp}
theorem items_V (g : Good G π h H) {d : D} {x : V} {ds : List D} (dx : DV G.K π H d x) (e : itemsD h d = some ds) : ∃ a xs, x = .ref a ∧ (SqL G.K H a xs ∨ SqT G.K H a xs) ∧ DVs G.K π H ds xs := by
  cases d with
  | tup ds' => obtain ⟨a, xs, rfl, t, q⟩ := dx; cases e; exact ⟨a, xs, rfl, .inr t.sq, q⟩
  | rol ds' => obtain ⟨a, xs, rfl, t, q⟩ := dx; cases e; exact ⟨a, xs, rfl, .inl t.sq, q⟩
  | ref i =>
    obtain ⟨a, qa, rfl⟩ := dx
    have e' : (match h[i]? with
      | some (.lst ds) => some ds
      | _ => none) = some ds := e
    split at e'
    · rename_i e0
      cases e'
      obtain ⟨xs, ha, q⟩ := g.lst e0 qa
      exact ⟨a, xs, rfl, .inl (SqL.of ha), q⟩
    · cases e'
  | _ => cases e
theorem oc_abs : OpC G (fun xs H Q => ∃ i, xs = [.int i] ∧ Q (.int (if i < 0 then -i else i)) H) fAbs := by
  intro W π σ h H ds xs Q g dx p
  unfold fAbs at p
  split at p
  · obtain ⟨v, vs, rfl, d1, e⟩ := dx
    obtain rfl := (show vs = [] from e)
    obtain rfl := (show v = _ from d1)
    exact ⟨_, rfl, post_val g p rfl⟩
  · exact p.elim
theorem oc_max2 : OpC G (fun xs H Q => ∃ i j, xs = [.int i, .int j] ∧ Q (.int (if j > i then j else i)) H) fMax2 := by
  intro W π σ h H ds xs Q g dx p
  unfold fMax2 at p
  split at p
  · obtain ⟨v, vs, rfl, d1, w, ws, rfl, d2, e⟩ := dx
    obtain rfl := (show ws = [] from e)
    obtain rfl := (show v = _ from d1)
    obtain rfl := (show w = _ from d2)
    exact ⟨_, _, rfl, post_val g p rfl⟩
  · exact p.elim
theorem oc_min2 : OpC G (fun xs H Q => ∃ i j, xs = [.int i, .int j] ∧ Q (.int (if j < i then j else i)) H) fMin2 := by
  intro W π σ h H ds xs Q g dx p
  unfold fMin2 at p
  split at p
  · obtain ⟨v, vs, rfl, d1, w, ws, rfl, d2, e⟩ := dx
    obtain rfl := (show ws = [] from e)
    obtain rfl := (show v = _ from d1)
    obtain rfl := (show w = _ from d2)
    exact ⟨_, _, rfl, post_val g p rfl⟩
  · exact p.elim
theorem oc_int : OpC G (fun xs H Q => (∃ i, xs = [.int i] ∧ Q (.int i) H) ∨ ∃ k, xs = [.bl k] ∧ Q (.int (if k then 1 else 0)) H) fInt := by
  intro W π σ h H ds xs Q g dx p
  unfold fInt at p
  split at p
  · obtain ⟨v, vs, rfl, d1, e⟩ := dx
    obtain rfl := (show vs = [] from e)
    obtain rfl := (show v = _ from d1)
    exact .inl ⟨_, rfl, post_val g p rfl⟩
  · obtain ⟨v, vs, rfl, d1, e⟩ := dx
    obtain rfl := (show vs = [] from e)
    obtain rfl := (show v = _ from d1)
    exact .inr ⟨_, rfl, post_val g p rfl⟩
  · exact p.elim
def rLenM (K : PySem.W.Frag) : List V → Hp → VK → Prop := fun xs H Q => (∃ x n, xs = [x] ∧ LenV K x H n ∧ Q (.int n) H) ∨ ∃ a kvs, xs = [V.ref a] ∧ H a = some (.dK kvs) ∧ Q (.int kvs.length) H
theorem cr_len {X : Cx} : CallR X (.builtin "len") (rLenM X.K) := CallR.or call_len call_lenD
theorem oc_len : OpC G (rLenM G.K) fLen := by
  intro W π σ h H ds xs Q g dx p
  unfold fLen at p
  split at p
  · rename_i d
    obtain ⟨v, vs, rfl, d1, e⟩ := dx
    obtain rfl := (show vs = [] from e)
    split at p
    · rename_i n en
      cases d with
      | str x =>
        obtain rfl := (show v = _ from d1)
        have e' : (if x.length ≤ 16777216 then some x.length else none) = some n := en
        by_cases hl : x.length ≤ 16777216
        · rw [if_pos hl] at e'
          cases e'
          exact .inl ⟨_, _, rfl, ⟨szl hl, rfl⟩, post_val g p rfl⟩
        · rw [if_neg hl] at e'
          cases e'
      | tup ds =>
        cases en
        obtain ⟨a, xs, rfl, t, q⟩ := d1
        exact .inl ⟨_, _, rfl, .inr ⟨xs, t.sq, q.len.symm⟩, post_val g p rfl⟩
      | rol ds =>
        cases en
        obtain ⟨a, xs, rfl, t, q⟩ := d1
        exact .inl ⟨_, _, rfl, .inl ⟨xs, t.sq, q.len.symm⟩, post_val g p rfl⟩
      | ref i =>
        obtain ⟨a, qa, rfl⟩ := d1
        have e' : (match h[i]? with
          | some (.lst ds) => some ds.length
          | some (.dic kvs) => some kvs.length
          | _ => none) = some n := en
        split at e'
        · rename_i e0
          cases e'
          obtain ⟨xs, ha, q⟩ := g.lst e0 qa
          exact .inl ⟨_, _, rfl, .inl ⟨xs, SqL.of ha, q.len.symm⟩, post_val g p rfl⟩
        · rename_i e0
          cases e'
          obtain ⟨xs, ha, q⟩ := g.obj e0 qa
          refine .inr ⟨a, xs, rfl, ha, ?_⟩
          rw [q.len]
          exact post_val g p rfl
        · cases e'
      | _ => cases en
    · exact p.elim
  · exact p.elim
theorem oc_list : OpC G (fun xs H Q => ∃ p ys, xs = [.ref p] ∧ (SqL G.K H p ys ∨ SqT G.K H p ys) ∧ ∀ l, H l = none → Q (.ref l) (upd H l (.lst ys))) fList := by
  intro W π σ h H ds xs Q g dx p
  unfold fList at p
  split at p
  · obtain ⟨v, vs, rfl, d1, e⟩ := dx
    obtain rfl := (show vs = [] from e)
    split at p
    · rename_i e0
      obtain ⟨a, ys, rfl, k, q⟩ := items_V g d1 e0
      exact ⟨a, ys, rfl, k, fun l n => post_lst g p q l n⟩
    · exact p.elim
  · exact p.elim
theorem oc_tuple : OpC G (fun xs H Q => ∃ p ys, xs = [.ref p] ∧ ((SqL G.K H p ys ∧ ∀ l, H l = none → Q (.ref l) (upd H l (.tup ys))) ∨ (SqT G.K H p ys ∧ Q (.ref p) H))) fTuple := by
  intro W π σ h H ds xs Q g dx p
  unfold fTuple at p
  split at p
  · rename_i d
    obtain ⟨v, vs, rfl, d1, e⟩ := dx
    obtain rfl := (show vs = [] from e)
    split at p
    · rename_i ys0 e0
      by_cases ht : ∃ ds, d = .tup ds
      · obtain ⟨ds', rfl⟩ := ht
        obtain ⟨a, ys, rfl, t, q⟩ := d1
        cases e0
        exact ⟨a, ys, rfl, .inr ⟨t.sq, post_val g p ⟨a, ys, rfl, t, q⟩⟩⟩
      · have z : ∃ a xs, v = .ref a ∧ SqL G.K H a xs ∧ DVs G.K π H ys0 xs := by
          cases d with
          | tup ds' => exact absurd ⟨_, rfl⟩ ht
          | rol ds' => obtain ⟨a, xs, rfl, t, q⟩ := d1; cases e0; exact ⟨a, xs, rfl, t.sq, q⟩
          | ref i =>
            obtain ⟨a, qa, rfl⟩ := d1
            have e' : (match h[i]? with
              | some (.lst ds) => some ds
              | _ => none) = some ys0 := e0
            split at e'
            · rename_i e0
              cases e'
              obtain ⟨xs, ha, q⟩ := g.lst e0 qa
              exact ⟨a, xs, rfl, SqL.of ha, q⟩
            · cases e'
          | _ => cases e0
        obtain ⟨a, ys, rfl, k, q⟩ := z
        exact ⟨a, ys, rfl, .inl ⟨k, fun l n => post_tup g p q l n⟩⟩
    · exact p.elim
  · exact p.elim
theorem oc_sum : OpC G (rSum G.K) fSum := by
  intro W π σ h H ds xs Q g dx p
  unfold fSum at p
  split at p
  · exact p.elim
  · rename_i d nt
    obtain ⟨v, vs, rfl, d1, e⟩ := dx
    obtain rfl := (show vs = [] from e)
    split at p
    · rename_i ns e0
      cases e1 : itemsD h d with
      | none => rw [e1] at e0; cases e0
      | some ds =>
        rw [e1] at e0
        have e2 := intsD_eq (show intsD ds = some ns from e0)
        subst e2
        cases d with
        | tup ds' => exact (nt ds' rfl).elim
        | rol ds' =>
          obtain ⟨a, xs, rfl, t, q⟩ := d1
          cases e1
          have e3 := q.ints
          subst e3
          exact ⟨a, ns, rfl, t.sq, post_val g p rfl⟩
        | ref i =>
          obtain ⟨a, qa, rfl⟩ := d1
          have e' : (match h[i]? with
            | some (.lst ds) => some ds
            | _ => none) = some (ns.map D.int) := e1
          split at e'
          · rename_i e0
            cases e'
            obtain ⟨xs, ha, q⟩ := g.lst e0 qa
            have e3 := q.ints
            subst e3
            exact ⟨a, ns, rfl, SqL.of ha, post_val g p rfl⟩
          · cases e'
        | _ => cases e1
    · exact p.elim
  · exact p.elim
def rStrM : List V → Hp → VK → Prop := fun xs H Q => (∃ i, xs = [.int i] ∧ i.natAbs.log2 < 1920 ∧ Q (.str (toString i)) H) ∨ ∃ a, xs = [.str a] ∧ Q (.str a) H
theorem oc_str : OpC G rStrM fStr := by
  intro W π σ h H ds xs Q g dx p
  unfold fStr at p
  split at p
  · obtain ⟨v, vs, rfl, d1, e⟩ := dx
    obtain rfl := (show vs = [] from e)
    obtain rfl := (show v = _ from d1)
    split at p
    · rename_i hl
      exact .inl ⟨_, rfl, hl, post_val g p rfl⟩
    · exact p.elim
  · obtain ⟨v, vs, rfl, d1, e⟩ := dx
    obtain rfl := (show vs = [] from e)
    obtain rfl := (show v = _ from d1)
    exact .inr ⟨_, rfl, post_val g p rfl⟩
  · exact p.elim
end

abbrev Fm := D → List D → Hm → R D
def mMeth (tg : Hm → D → Bool) (f : Fm) (mo : Ev → Hm → R D) (mr : Ev → Hm → R (List D)) : Ev → Hm → R D := fun env h => (mo env h).bind fun x h1 => if tg h1 x = true then (mr env h1).bind fun ds h2 => f x ds h2 else .bad
def isL (h : Hm) : D → Bool
  | .rol _ => true
  | .ref i => match h[i]? with
    | some (.lst _) => true
    | _ => false
  | _ => false
def isD (h : Hm) : D → Bool
  | .ref i => match h[i]? with
    | some (.dic _) => true
    | _ => false
  | _ => false
def isS (_ : Hm) : D → Bool
  | .str _ => true
  | _ => false
def OpM (G : Gx) (r : V → List V → Hp → VK → Prop) (f : Fm) : Prop := ∀ (W : WX) (π : List Addr) (σ : L2.St) (h : Hm) (H : Hp) (d : D) (x : V) (ds : List D) (xs : List V) (Q : VK), Good G π h H → DV G.K π H d x → DVs G.K π H ds xs → Post G W π σ H (f d ds h) (fun π' H' _ z => ∀ v, DV G.K π' H' z v → Q v H') → r x xs H Q
def TyM (G : Gx) (tn : String) (tg : Hm → D → Bool) : Prop := ∀ (π : List Addr) (h : Hm) (H : Hp) (d : D) (x : V), Good G π h H → DV G.K π H d x → tg h d = true → tyV G.K tn x H
theorem tyL {G : Gx} : TyM G "list" isL := by
  intro π h H d x g dx e
  cases d with
  | rol ds => obtain ⟨a, xs, rfl, t, q⟩ := dx; exact .inl ⟨rfl, xs, t.sq⟩
  | ref i =>
    obtain ⟨a, qa, rfl⟩ := dx
    have e' : (match h[i]? with
      | some (.lst _) => true
      | _ => false) = true := e
    split at e'
    · rename_i e0
      obtain ⟨xs, ha, q⟩ := g.lst e0 qa
      exact .inl ⟨rfl, xs, SqL.of ha⟩
    · cases e'
  | _ => cases e
theorem tyD {G : Gx} : TyM G "dict" isD := by
  intro π h H d x g dx e
  cases d with
  | ref i =>
    obtain ⟨a, qa, rfl⟩ := dx
    have e' : (match h[i]? with
      | some (.dic _) => true
      | _ => false) = true := e
    split at e'
    · rename_i e0
      obtain ⟨xs, ha, q⟩ := g.obj e0 qa
      exact .inr (.inr (.inl ⟨rfl, .inl ⟨xs, ha⟩⟩))
    · cases e'
  | _ => cases e
theorem tyS {G : Gx} : TyM G "str" isS := by
  intro π h H d x g dx e
  cases d with
  | str i => obtain rfl := (show x = _ from dx); rfl
  | _ => cases e
section
variable {X : Cx} {T : List (Addr × Str)} {W : WX} {o e : Expr} {es : List Expr} {mo : Ev → Hm → R D} {mr : Ev → Hm → R (List D)} {name : Str} {apos cpos : Pos} {tn id : String} {r : V → List V → Hp → VK → Prop} {f : Fm} {tg : Hm → D → Bool}
theorem em_bm (pa : PlainAttrs tn) (slot : Slot tn name id) (hty : typeOf (.builtin id) = pure (.type "method_descriptor")) (hm : MtR X id r) (ht : TyM (gx X T) tn tg) (hf : OpM (gx X T) r f) (ho : Em X T W o mo) (ha : Am X T W (e :: es) mr)
    (hbase : attributeBase o name X.env (eval o X.env) = eval o X.env := by rfl)
    (hfew : ((backTo cpos (starEach (e :: es) X.env)).all (fun x => !x.1) && (backToKw cpos (keywordEach [] X.env)).all (fun x => x.1.isSome)
      && decide ((e :: es).length + ([] : List Keyword).length + (if ([] : List Keyword).isEmpty then 0 else 1) < 30)) = true := by rfl)
    (hline : (apos.endLine == cpos.line) = true := by rfl) (hs : starEach (e :: es) X.env = (false, eval e X.env) :: starEach es X.env := by rfl) (hplain : (backTo cpos (starEach es X.env)).any (·.1) = false := by rfl) :
    Em X T W (.Call (.Attribute o name apos) (e :: es) [] cpos) (mMeth tg f mo mr) := PE.of (pe_bm pa slot hty hm ho ha hbase hfew hline hs hplain) fun σ H Q ⟨π, env, h, s, p⟩ => by
  refine ⟨π, env, h, s, p.bind.mono fun π1 H1 h1 d s1 g1 p1 x dx => ?_⟩
  by_cases q : tg h1 d = true
  · rw [if_pos q] at p1
    refine ⟨ht _ _ _ _ _ g1 dx q, π1, env, h1, s.step s1 g1, p1.bind.mono fun π2 H2 h2 ds s2 g2 p2 xs dxs => ?_⟩
    exact hf W π2 σ h2 H2 d x ds xs Q g2 (dx.step s2 _ _) dxs p2
  · rw [if_neg q] at p1
    exact p1.elim
theorem em_bm0 (pa : PlainAttrs tn) (slot : Slot tn name id) (hty : typeOf (.builtin id) = pure (.type "method_descriptor")) (hm : MtR X id r) (ht : TyM (gx X T) tn tg) (hf : OpM (gx X T) r f) (ho : Em X T W o mo)
    (hbase : attributeBase o name X.env (eval o X.env) = eval o X.env := by rfl) (hline : (apos.endLine == cpos.line) = true := by rfl) : Em X T W (.Call (.Attribute o name apos) [] [] cpos) (mMeth tg f mo mNil) := PE.of (pe_bm0 pa slot hty hm ho hbase hline) fun σ H Q ⟨π, env, h, s, p⟩ => by
  refine ⟨π, env, h, s, p.bind.mono fun π1 H1 h1 d s1 g1 p1 x dx => ?_⟩
  by_cases q : tg h1 d = true
  · rw [if_pos q] at p1
    exact ⟨ht _ _ _ _ _ g1 dx q, hf W π1 σ h1 H1 d x [] [] Q g1 dx rfl p1⟩
  · rw [if_neg q] at p1
    exact p1.elim
end
section
variable {G : Gx} {π : List Addr} {h : Hm} {H : Hp}
/-- an object of ours is written -/
theorem post_put {W : WX} {σ : L2.St} {i : Nat} {a : Addr} {u : HO} {o : O} {d : D} {v : V} {Q : VK} (g : Good G π h H) (m : π[i]? = some a) (w : OV G π (upd H a u) a o) (p : Post G W π σ H (.ok d (h.set i o)) fun π' H' _ z => ∀ v, DV G.K π' H' z v → Q v H') (dv : DV G.K π (upd H a u) d v) : Q v (upd H a u) :=
  p π _ (Step.put m) (g.put m w) v dv
theorem post_putL {W : WX} {σ : L2.St} {i : Nat} {a : Addr} {ds : List D} {ys : List V} {d : D} {v : V} {Q : VK} (g : Good G π h H) (m : π[i]? = some a) (p : Post G W π σ H (.ok d (h.set i (.lst ds))) fun π' H' _ z => ∀ v, DV G.K π' H' z v → Q v H') (q : DVs G.K π H ds ys) (dv : DV G.K π H d v) : Q v (upd H a (.lst ys)) :=
  post_put (o := .lst ds) g m ⟨ys, upd_same, q.step (Step.put m) _ _⟩ p (dv.step (Step.put m) _ _)
def fAppend : Fm := fun x ds h => match x, ds with
  | .ref i, [y] => match h[i]? with
    | some (.lst a) => if a.length < 16777216 then .ok .non (h.set i (.lst (a ++ [y]))) else .bad
    | _ => .bad
  | _, _ => .bad
theorem om_append : OpM G rAppend fAppend := by
  intro W π σ h H d x ds xs Q g dx dxs p
  unfold fAppend at p
  split at p
  · obtain ⟨a, qa, rfl⟩ := dx
    obtain ⟨v, vs, rfl, d1, e⟩ := dxs
    obtain rfl := (show vs = [] from e)
    split at p
    · rename_i e0
      split at p
      · rename_i hl
        obtain ⟨ys, ha, q⟩ := g.lst e0 qa
        exact ⟨a, ys, v, rfl, rfl, ha, szl' (by rw [q.len]; exact hl), post_putL g qa p (q.snoc d1) rfl⟩
      · exact p.elim
    · exact p.elim
  · exact p.elim
def fExtend : Fm := fun x ds h => match x, ds with
  | .ref i, [.ref j] => match h[i]?, h[j]? with
    | some (.lst a), some (.lst b) => if a.length + b.length ≤ 16777216 then .ok .non (h.set i (.lst (a ++ b))) else .bad
    | _, _ => .bad
  | _, _ => .bad
theorem om_extend : OpM G rExtend fExtend := by
  intro W π σ h H d x ds xs Q g dx dxs p
  unfold fExtend at p
  split at p
  · obtain ⟨a, qa, rfl⟩ := dx
    obtain ⟨v, vs, rfl, ⟨b, qb, rfl⟩, e⟩ := dxs
    obtain rfl := (show vs = [] from e)
    split at p
    · rename_i e0 e1
      split at p
      · rename_i hl
        obtain ⟨ys, ha, q⟩ := g.lst e0 qa
        obtain ⟨zs, hb, q2⟩ := g.lst e1 qb
        exact ⟨a, b, ys, zs, rfl, rfl, ha, hb, szl (by rw [q.len, q2.len]; exact hl), post_putL g qa p (q.app q2) rfl⟩
      · exact p.elim
    · exact p.elim
  · exact p.elim
def fPop : Fm := fun x ds h => match x, ds with
  | .ref i, [] => match h[i]? with
    | some (.lst a) => match a[a.length - 1]? with
      | some y => .ok y (h.set i (.lst a.dropLast))
      | none => .bad
    | _ => .bad
  | .ref i, [.int k] => match h[i]? with
    | some (.lst a) => match ixN a.length k with
      | some j => match a[j]? with
        | some y => if a.length ≤ 16777216 then .ok y (h.set i (.lst (a.eraseIdx j))) else .bad
        | none => .bad
      | none => .bad
    | _ => .bad
  | _, _ => .bad
theorem DVs.dropLast {K : PySem.W.Frag} {π : List Addr} {H : Hp} {ds : List D} {xs : List V} (h : DVs K π H ds xs) : DVs K π H ds.dropLast xs.dropLast := by
  rw [List.dropLast_eq_take, List.dropLast_eq_take, h.len]
  exact h.take _
theorem om_pop : OpM G (fun x xs H Q => rPop x xs H Q ∨ rPopAt x xs H Q) fPop := by
  intro W π σ h H d x ds xs Q g dx dxs p
  unfold fPop at p
  split at p
  · obtain ⟨a, qa, rfl⟩ := dx
    obtain rfl := (show xs = [] from dxs)
    split at p
    · rename_i e0
      split at p
      · rename_i y e1
        obtain ⟨ys, ha, q⟩ := g.lst e0 qa
        rw [← q.len] at e1
        obtain ⟨v, h1, h2⟩ := q.get e1
        exact .inl ⟨a, ys, v, rfl, rfl, ha, h1, post_putL g qa p q.dropLast h2⟩
      · exact p.elim
    · exact p.elim
  · obtain ⟨a, qa, rfl⟩ := dx
    obtain ⟨v, vs, rfl, d1, e⟩ := dxs
    obtain rfl := (show vs = [] from e)
    obtain rfl := (show v = _ from d1)
    split at p
    · rename_i e0
      split at p
      · rename_i j ej
        split at p
        · rename_i y ey
          split at p
          · rename_i hl
            obtain ⟨ys, ha, q⟩ := g.lst e0 qa
            rw [← q.len] at ej hl
            obtain ⟨z1, z2, z3, z4⟩ := ixN_seq ej
            obtain ⟨v, h1, h2⟩ := q.get ey
            exact .inr ⟨a, ys, _, j, v, rfl, rfl, ha, by omega, by omega, z1, h1, post_putL g qa p (q.erase j) h2⟩
          · exact p.elim
        · exact p.elim
      · exact p.elim
    · exact p.elim
  · exact p.elim
def fClear : Fm := fun x ds h => match x, ds with
  | .ref i, [] => match h[i]? with
    | some (.lst _) => .ok .non (h.set i (.lst []))
    | _ => .bad
  | _, _ => .bad
theorem om_clear : OpM G rClear fClear := by
  intro W π σ h H d x ds xs Q g dx dxs p
  unfold fClear at p
  split at p
  · obtain ⟨a, qa, rfl⟩ := dx
    obtain rfl := (show xs = [] from dxs)
    split at p
    · rename_i e0
      obtain ⟨ys, ha, q⟩ := g.lst e0 qa
      exact ⟨a, ys, rfl, rfl, ha, post_putL (ys := []) g qa p rfl rfl⟩
    · exact p.elim
  · exact p.elim
def fRemove : Fm := fun x ds h => match x, ds with
  | .ref i, [.int k] => match h[i]? with
    | some (.lst a) => match intsD a with
      | some ns => match ns.findIdx? (fun z => decide (z = k)) with
        | some j => .ok .non (h.set i (.lst ((ns.eraseIdx j).map D.int)))
        | none => .bad
      | none => .bad
    | _ => .bad
  | _, _ => .bad
theorem om_remove : OpM G rRemI fRemove := by
  intro W π σ h H d x ds xs Q g dx dxs p
  unfold fRemove at p
  split at p
  · rename_i k
    obtain ⟨a, qa, rfl⟩ := dx
    obtain ⟨v, vs, rfl, d1, e⟩ := dxs
    obtain rfl := (show vs = [] from e)
    obtain rfl := (show v = _ from d1)
    split at p
    · rename_i e0
      split at p
      · rename_i ns ens
        split at p
        · rename_i j ej
          obtain ⟨ys, ha, q⟩ := g.lst e0 qa
          rw [intsD_eq ens] at q
          have e3 := q.ints
          subst e3
          obtain ⟨hj, h1, h2⟩ := List.findIdx?_eq_some_iff_getElem.mp ej
          refine ⟨a, ns, k, j, rfl, rfl, ha, by rw [List.getElem?_eq_getElem hj, of_decide_eq_true h1], fun m hm z => ?_, post_putL g qa p DVs.ofInts rfl⟩
          have := h2 m hm
          rw [List.getElem?_eq_getElem (by omega)] at z
          exact absurd (Option.some.inj z) (by simpa using this)
        · exact p.elim
      · exact p.elim
    · exact p.elim
  · exact p.elim
def fIndex : Fm := fun x ds h => match ds with
  | [y] => match x with
    | .tup _ => .bad
    | x => match itemsD h x with
      | some zs => if flatD y = true ∧ zs.all flatD = true then match zs.findIdx? (fun z => eqF z y) with
          | some j => .ok (.int j) h
          | none => .bad else .bad
      | none => .bad
  | _ => .bad
theorem DVs.getR {K : PySem.W.Frag} {π : List Addr} {H : Hp} {ds : List D} {xs : List V} {i : Nat} {v : V} (h : DVs K π H ds xs) (e : xs[i]? = some v) : ∃ d, ds[i]? = some d ∧ DV K π H d v := by
  have hi : i < ds.length := by rw [← h.len]; exact (List.getElem?_eq_some_iff.mp e).1
  have e1 : ds[i]? = some ds[i] := List.getElem?_eq_getElem hi
  obtain ⟨w, h1, h2⟩ := h.get e1
  rw [e] at h1
  cases h1
  exact ⟨_, e1, h2⟩
theorem om_index : OpM G (rIndex G.K) fIndex := by
  intro W π σ h H d x ds xs Q g dx dxs p
  unfold fIndex at p
  split at p
  · obtain ⟨v, vs, rfl, d1, e⟩ := dxs
    obtain rfl := (show vs = [] from e)
    split at p
    · exact p.elim
    · rename_i dd nt
      split at p
      · rename_i zs ez
        split at p
        · rename_i f
          split at p
          · rename_i j ej
            have z : ∃ a xs, x = .ref a ∧ SqL G.K H a xs ∧ DVs G.K π H zs xs := by
              cases d with
              | tup ds' => exact (nt _ rfl).elim
              | rol ds' => obtain ⟨a, xs, rfl, t, q⟩ := dx; cases ez; exact ⟨a, xs, rfl, t.sq, q⟩
              | ref i =>
                obtain ⟨a, qa, rfl⟩ := dx
                have e' : (match h[i]? with
                  | some (.lst ds) => some ds
                  | _ => none) = some zs := ez
                split at e'
                · rename_i e0
                  cases e'
                  obtain ⟨xs, ha, q⟩ := g.lst e0 qa
                  exact ⟨a, xs, rfl, SqL.of ha, q⟩
                · cases e'
              | _ => cases ez
            obtain ⟨a, ys, rfl, k, q⟩ := z
            obtain ⟨hj, h1, h2⟩ := List.findIdx?_eq_some_iff_getElem.mp ej
            obtain ⟨w, w1, w2⟩ := q.get (List.getElem?_eq_getElem hj)
            have fl := List.all_eq_true.mp f.2
            refine ⟨a, ys, v, j, w, rfl, rfl, k, flatD_V f.1 d1, flatDs_V f.2 q, w1, ?_, fun m z' hm hz' => ?_, post_val g p rfl⟩
            · rw [eqF_V (fl _ (List.getElem_mem hj)) f.1 w2 d1]
              exact h1
            · obtain ⟨d', hd1, hd2⟩ := q.getR hz'
              rw [eqF_V (fl _ (List.mem_of_getElem? hd1)) f.1 hd2 d1]
              have := h2 m hm
              rw [List.getElem?_eq_getElem (by omega)] at hd1
              cases hd1
              simpa using this
          · exact p.elim
        · exact p.elim
      · exact p.elim
  · exact p.elim
end
section
variable {X : Cx} {T : List (Addr × Str)} {W : WX} {o e e2 : Expr} {mo me me2 : Ev → Hm → R D} {mr : Ev → Hm → R (List D)} {apos cpos : Pos}
theorem mt_popM {X : Cx} : MtR X "list.pop" (fun x xs H Q => rPop x xs H Q ∨ rPopAt x xs H Q) := MtR.or mt_pop mt_popAt
/-- d.get(k, x) -/
def mGet (mo a b : Ev → Hm → R D) : Ev → Hm → R D := fun env h => (mo env h).bind fun x h1 => if isD h1 x = true then (a env h1).bind fun k h2 => (b env h2).bind fun y h3 => match x, keyD k with
  | .ref i, some k => match h3[i]? with
    | some (.dic kvs) => .ok ((getK kvs k).getD y) h3
    | _ => .bad
  | _, _ => .bad else .bad
theorem em_get2 (hu : X.A.units + 1 < cLine) (ho : Em X T W o mo) (h1 : Em X T W e me) (h2 : Em X T W e2 me2) (m : M2 X o "get" apos e e2 cpos) : Em X T W (.Call (.Attribute o "get" apos) [e, e2] [] cpos) (mGet mo me me2) := PE.of (pe_dget2 hu ho h1 h2 m) fun σ H Q ⟨π, env, h, s, p⟩ => by
  refine ⟨π, env, h, s, p.bind.mono fun π1 H1 h1 d s1 g1 p1 x dx => ?_⟩
  by_cases q : isD h1 d = true
  · rw [if_pos q] at p1
    cases d with
    | ref i =>
      obtain ⟨a, qa, rfl⟩ := dx
      refine ⟨a, rfl, ?_, π1, env, h1, s.step s1 g1, p1.bind.mono fun π2 H2 h2 k s2 g2 p2 y dy => ⟨π2, env, h2, (s.step s1 g1).step s2 g2, p2.bind.mono fun π3 H3 h3 z s3 g3 p3 w dw => ?_⟩⟩
      · have e' : (match h1[i]? with
          | some (.dic _) => true
          | _ => false) = true := q
        split at e'
        · rename_i e0
          obtain ⟨xs, ha, q⟩ := g1.obj e0 qa
          exact .inl ⟨xs, .inl ha⟩
        · cases e'
      · split at p3
        · rename_i i' kk ex ek
          cases ex
          split at p3
          · rename_i kvs e0
            obtain ⟨xs, ha, q⟩ := g3.obj e0 (s3.get (s2.get qa))
            obtain rfl := keyD_V ek dy
            have z := getK_V (κ := kk) q
            refine ⟨_, DGet.k ha, ?_⟩
            cases q' : getK kvs kk with
            | none =>
              rw [q'] at z p3
              rw [show valV xs kk = none from z]
              exact post_val g3 p3 dw
            | some w =>
              rw [q'] at z p3
              obtain ⟨v, z1, z2⟩ := z
              rw [z1]
              exact post_val g3 p3 z2
          · exact p3.elim
        · exact p3.elim
    | _ => cases q
  · rw [if_neg q] at p1
    exact p1.elim
end
end MM

namespace MM
open PySem L2

/-- the class named c, and its fields f of fs that no class of it holds -/
def FOk (X : Cx) (cs : List Str) (f : Str) : Prop := ∀ c ∈ cs, ∀ C, X.mg c = some (.ref C) → Cls X.K C ∧ NoAttr X.K C f
def mFld (cs : List Str) (f : Str) (m : Ev → Hm → R D) : Ev → Hm → R D := fun env h => (m env h).bind fun x h1 => match x with
  | .ref i => match h1[i]? with
    | some (.ins c fs) => if c ∈ cs then match fs.lookup f with
        | some d => .ok d h1
        | none => .bad else .bad
    | _ => .bad
  | _ => .bad
def putD (f : Str) (v : D) : List (Str × D) → List (Str × D)
  | [] => [(f, v)]
  | (g, x) :: r => if g = f then (g, v) :: r else (g, x) :: putD f v r
section
variable {K : PySem.W.Frag} {π : List Addr} {H : Hp}
theorem DPs.lookup {f : Str} : ∀ {fs : List (Str × D)} {xs : List (Str × V)} {d : D}, DPs K π H fs xs → fs.lookup f = some d → ∃ v, xs.lookup f = some v ∧ DV K π H d v
  | p :: ps, _, d, ⟨v, vs, e, h, q⟩, l => by
    obtain ⟨k, y⟩ := p
    rw [e]
    by_cases hk : f = k
    · have hb : (f == k) = true := beq_iff_eq.mpr hk
      simp only [List.lookup, hb] at l ⊢
      cases l
      exact ⟨v, rfl, h⟩
    · have hb : (f == k) = false := beq_eq_false_iff_ne.mpr hk
      simp only [List.lookup, hb] at l ⊢
      exact DPs.lookup q l
theorem DPs.putF {f : Str} {d : D} {v : V} (dv : DV K π H d v) : ∀ {fs : List (Str × D)} {xs : List (Str × V)}, DPs K π H fs xs → DPs K π H (putD f d fs) (putF f v xs)
  | [], _, h => by rw [show _ = [] from h]; exact ⟨v, [], rfl, dv, rfl⟩
  | p :: ps, _, ⟨w, vs, e, h, q⟩ => by
    obtain ⟨k, y⟩ := p
    rw [e]
    unfold putD L2.putF
    by_cases hk : k = f
    · rw [if_pos hk, if_pos hk]
      exact ⟨v, vs, rfl, dv, q⟩
    · rw [if_neg hk, if_neg hk]
      exact ⟨w, _, rfl, h, DPs.putF dv q⟩
def putDK (kvs : List (Key × D)) (k : Key) (v : D) : List (Key × D) :=
  if (kvs.any fun kv => decide (kv.1 = k)) = true then kvs.map (fun kv => if kv.1 = k then (kv.1, v) else kv) else kvs ++ [(k, v)]
theorem DPs.anyK {k : Key} : ∀ {fs : List (Key × D)} {xs : List (Key × V)}, DPs K π H fs xs → (xs.any fun kv => decide (kv.1 = k)) = (fs.any fun kv => decide (kv.1 = k))
  | [], _, h => by rw [show _ = [] from h] <;> rfl
  | p :: ps, _, ⟨w, vs, e, h, q⟩ => by rw [e, List.any_cons, List.any_cons, DPs.anyK q]
theorem DPs.mapK {k : Key} {d : D} {v : V} (dv : DV K π H d v) : ∀ {fs : List (Key × D)} {xs : List (Key × V)}, DPs K π H fs xs → DPs K π H (fs.map fun kv => if kv.1 = k then (kv.1, d) else kv) (xs.map fun kv => if kv.1 = k then (kv.1, v) else kv)
  | [], _, h => by rw [show _ = [] from h]; rfl
  | p :: ps, _, ⟨w, vs, e, h, q⟩ => by
    rw [e, List.map_cons, List.map_cons]
    by_cases hk : p.1 = k
    · rw [if_pos hk, if_pos hk]; exact ⟨v, _, rfl, dv, DPs.mapK dv q⟩
    · rw [if_neg hk, if_neg hk]; exact ⟨w, _, rfl, h, DPs.mapK dv q⟩
theorem DPs.app {κ : Type} : ∀ {fs gs : List (κ × D)} {xs ys : List (κ × V)}, DPs K π H fs xs → DPs K π H gs ys → DPs K π H (fs ++ gs) (xs ++ ys)
  | [], _, _, _, h, q => by rw [show _ = [] from h]; exact q
  | p :: ps, _, _, _, ⟨w, vs, e, h, q⟩, r => ⟨w, vs ++ _, by rw [e] <;> rfl, h, DPs.app q r⟩
theorem DPs.putK {k : Key} {d : D} {v : V} (dv : DV K π H d v) {fs : List (Key × D)} {xs : List (Key × V)} (h : DPs K π H fs xs) : DPs K π H (putDK fs k d) (putK xs k v) := by
  unfold putDK L2.putK
  rw [h.anyK]
  by_cases hk : (fs.any fun kv => decide (kv.1 = k)) = true
  · rw [if_pos hk, if_pos hk]; exact h.mapK dv
  · rw [if_neg hk, if_neg hk]; exact h.app ⟨v, [], rfl, dv, rfl⟩
end
section
variable {X : Cx} {T : List (Addr × Str)} {W : WX} {o e : Expr} {mo me : Ev → Hm → R D} {f : Str} {cs : List Str} {pos pos' tpos : Pos}
theorem em_fld (hf : FOk X cs f) (he : Em X T W e me) (hb : attributeBase e f X.env (eval e X.env) = eval e X.env := by rfl) : Em X T W (.Attribute e f pos) (mFld cs f me) := PE.of (pe_fld he hb) fun σ H Q ⟨π, env, h, s, p⟩ => by
  refine ⟨π, env, h, s, p.bind.mono fun π1 H1 h1 d s1 g1 p1 x dx => ?_⟩
  split at p1
  · obtain ⟨a, qa, rfl⟩ := dx
    split at p1
    · rename_i c fs e0
      split at p1
      · rename_i hc
        split at p1
        · rename_i d e1
          obtain ⟨C, dx, xs, m1, ha, q⟩ := g1.obj e0 qa
          obtain ⟨c1, c2⟩ := hf c hc C m1
          obtain ⟨v, l, dv⟩ := q.lookup e1
          exact ⟨a, C, dx, xs, v, rfl, ha, c1, c2, l, post_val g1 p1 dv⟩
        · exact p1.elim
      · exact p1.elim
    · exact p1.elim
  · exact p1.elim
/-- an instance is written -/
def setF (cs : List Str) (f : Str) (x y : D) (h : Hm) : Option Hm := match x with
  | .ref i => match h[i]? with
    | some (.ins c fs) => if c ∈ cs ∧ fs.length < 1000 then some (h.set i (.ins c (putD f y fs))) else none
    | _ => none
  | _ => none
def sFldM (cs : List Str) (f : Str) (mo me : Ev → Hm → R D) : Ev → Hm → SR := fun env h => (me env h).bindS env fun y h1 => (mo env h1).bindS env fun x h2 => match setF cs f x y h2 with
  | some h3 => .next env h3
  | none => .bad
theorem setF_ok {G : Gx} {π : List Addr} {h h' : Hm} {H : Hp} {x y : D} {v w : V} (g : Good G π h H) (dx : DV G.K π H x v) (dy : DV G.K π H y w) (e : setF cs f x y h = some h') :
    ∃ c ∈ cs, ∃ a C dx fs, G.mg c = some (.ref C) ∧ v = .ref a ∧ H a = some (.ins C dx fs) ∧ fs.length < 1000 ∧ Step π H π (upd H a (.ins C dx (putF f w fs))) ∧ Good G π h' (upd H a (.ins C dx (putF f w fs))) := by
  unfold setF at e
  split at e
  · rename_i i
    obtain ⟨a, qa, rfl⟩ := dx
    split at e
    · rename_i c fs e0
      split at e
      · rename_i hc
        cases e
        obtain ⟨C, dx, xs, m1, ha, q⟩ := g.obj e0 qa
        exact ⟨c, hc.1, a, C, dx, xs, m1, rfl, ha, by rw [q.len]; exact hc.2, Step.put qa, g.put (o := .ins c (putD f y fs)) qa ⟨C, dx, _, m1, upd_same, (q.putF dy).step (Step.put qa) _ _⟩⟩
      · cases e
    · cases e
  · cases e
theorem sm_fld (hf : FOk X cs f) (ho : Em X T W o mo) (he : Em X T W e me) (hs : swapsWith e (some (.Attribute o f pos')) pos.line X.env = pure false := by rfl) : Sm X T W (.Assign [.Attribute o f pos'] e pos) (sFldM cs f mo me) := PS.of (ps_fld ho he hs) fun D σ H ⟨π, env, h, s, p⟩ =>
  ⟨π, env, h, s, (PostS.bind s p).mono fun π1 H1 h1 y s1 g1 p1 w dw => ⟨π1, env, h1, s.step s1 g1, (PostS.bind (s.step s1 g1) p1).mono fun π2 H2 h2 x s2 g2 p2 v dv => by
    split at p2
    · rename_i h3 e3
      obtain ⟨c, hc, a, C, dx, fs, m1, rfl, ha, hl, st, g3⟩ := setF_ok g2 dv (dw.step s2 _ _) e3
      obtain ⟨c1, c2⟩ := hf c hc C m1
      exact ⟨a, C, dx, fs, rfl, ha, c1, c2, hl, p2 π2 σ _ st (((s.step s1 g1).step s2 g2).step st g3)⟩
    · exact p2.elim⟩⟩
/-- o.f op= e -/
def sFldA (cs : List Str) (f : Str) (fo : F2) (mo me : Ev → Hm → R D) : Ev → Hm → SR := fun env h => (mo env h).bindS env fun x h1 => match x with
  | .ref i => match h1[i]? with
    | some (.ins c fs) => if c ∈ cs then match fs.lookup f with
        | some v => (me env h1).bindS env fun y h2 => (fo v y h2).bindS env fun z h3 => match h3[i]? with
            | some (.ins c' fs') => if c' = c ∧ fs'.length < 1000 then .next env (h3.set i (.ins c (putD f z fs'))) else .bad
            | _ => .bad
        | none => .bad else .bad
    | _ => .bad
  | _ => .bad
theorem sm_flda {op : Operator} {r : R2} {fo : F2} (hf : FOk X cs f) (hr : OpR X (inplaceOp op) r) (hop : Op2 (gx X T) r fo) (ho : Em X T W o mo) (he : Em X T W e me) : Sm X T W (.AugAssign (.Attribute o f tpos) op e pos) (sFldA cs f fo mo me) :=
  PS.of (ps_fldaug (rd := r) ho he (fun pins s σ H x y u v Q I r1 r2 h => hr pins s σ H x y u v Q I r1 r2 h)) fun D σ H ⟨π, env, h, s, p⟩ =>
  ⟨π, env, h, s, (PostS.bind s p).mono fun π1 H1 h1 x s1 g1 p1 w dw => by
    split at p1
    · rename_i i
      obtain ⟨a, qa, rfl⟩ := dw
      split at p1
      · rename_i c fs e0
        split at p1
        · rename_i hc
          split at p1
          · rename_i d e1
            obtain ⟨C, dx, xs, m1, ha, q⟩ := g1.obj e0 qa
            obtain ⟨c1, c2⟩ := hf c hc C m1
            obtain ⟨v, l, dv⟩ := q.lookup e1
            refine ⟨a, C, dx, xs, v, rfl, ha, c1, c2, l, π1, env, h1, s.step s1 g1, (PostS.bind (s.step s1 g1) p1).mono fun π2 H2 h2 y s2 g2 p2 u du => ?_⟩
            refine hop W π2 σ h2 H2 d y v u _ g2 (dv.step s2 _ _) du ((PostS.bind ((s.step s1 g1).step s2 g2) p2).mono fun π3 H3 h3 z s3 g3 p3 t dt => ?_)
            split at p3
            · rename_i c' fs' e3
              split at p3
              · rename_i hc'
                obtain ⟨rfl, hl⟩ := hc'
                have qa3 := s3.get (s2.get qa)
                obtain ⟨C', dx', xs', m1', ha', q'⟩ := g3.obj e3 qa3
                rw [m1] at m1'
                cases m1'
                refine ⟨dx', xs', ha', by rw [q'.len]; exact hl, p3 π3 σ _ (Step.put qa3) ((((s.step s1 g1).step s2 g2).step s3 g3).step (Step.put qa3) (g3.put (o := .ins c' (putD f z fs')) qa3 ⟨C, dx', _, m1, upd_same, (q'.putF dt).step (Step.put qa3) _ _⟩))⟩
              · exact p3.elim
            · exact p3.elim
          · exact p1.elim
        · exact p1.elim
      · exact p1.elim
    · exact p1.elim⟩
end

def fSet (o i v : D) (h : Hm) : Option Hm := match o with
  | .ref r => match h[r]? with
    | some (.lst ds) => match i with
      | .int k => match ixN ds.length k with
        | some j => some (h.set r (.lst (ds.set j v)))
        | none => none
      | _ => none
    | some (.dic kvs) => match keyD i with
      | some k => if kvs.length < 16777216 then some (h.set r (.dic (putDK kvs k v))) else none
      | none => none
    | _ => none
  | _ => none
def OpS (G : Gx) (r : TSet) (f : D → D → D → Hm → Option Hm) : Prop := ∀ (π : List Addr) (h h' : Hm) (H : Hp) (o i d : D) (x y v : V) (Q : Hp → Prop), Good G π h H → DV G.K π H o x → DV G.K π H i y → DV G.K π H d v → f o i d h = some h' → (∀ H', Step π H π H' → Good G π h' H' → Q H') → r x y v H Q
def rSetM : TSet := fun o i v H Q => rSetL o i v H Q ∨ rSetD o i v H Q
theorem set_m {X : Cx} (hu : X.A.units + 1 < cLine) : PSet X rSetM := by
  intro pins s σ H o i v ov iv u Q I ro ri rv h
  rcases h with h | h
  · exact set_list pins s σ H o i v ov iv u Q I ro ri rv h
  · exact set_dict hu pins s σ H o i v ov iv u Q I ro ri rv h
theorem os_set {G : Gx} : OpS G rSetM fSet := by
  intro π h h' H o i d x y v Q g dx dy dv e q
  unfold fSet at e
  split at e
  · obtain ⟨a, qa, rfl⟩ := dx
    split at e
    · rename_i ds e0
      obtain ⟨xs, ha, k⟩ := g.lst e0 qa
      split at e
      · obtain rfl := (show y = _ from dy)
        split at e
        · rename_i j ej
          cases e
          refine .inl ⟨a, xs, _, j, rfl, rfl, ha, by rw [k.len]; exact ej, q _ (Step.put qa) (g.put (o := .lst (ds.set j d)) qa ⟨_, upd_same, (k.set j dv).step (Step.put qa) _ _⟩)⟩
        · cases e
      · cases e
    · rename_i kvs e0
      obtain ⟨xs, ha, k⟩ := g.obj e0 qa
      split at e
      · rename_i κ ek
        obtain rfl := keyD_V ek dy
        split at e
        · rename_i hl
          cases e
          exact .inr ⟨a, _, rfl, DPut.k ha (szl' (by rw [k.len]; exact hl)), q _ (Step.put qa) (g.put (o := .dic (putDK kvs κ d)) qa ⟨_, upd_same, (k.putK dv).step (Step.put qa) _ _⟩)⟩
        · cases e
      · cases e
    · cases e
  · cases e
def gSubM (mo mi : Ev → Hm → R D) : Gt := fun d env h => (mo env h).bindS env fun x h1 => (mi env h1).bindS env fun y h2 => match fSet x y d h2 with
  | some h3 => .next env h3
  | none => .bad
/-- xs[a:c] = ys of another list -/
def gSlM (mo : Ev → Hm → R D) (ml mh : Ev → Hm → R (Option Int)) : Gt := fun d env h => (mo env h).bindS env fun x h1 => (ml env h1).bindS env fun lo h2 => (mh env h2).bindS env fun hi h3 => match x, d, lo, hi with
  | .ref r, .ref t, some a, some c => match h3[r]?, h3[t]? with
    | some (.lst xs), some (.lst ys) => if r ≠ t ∧ 0 ≤ a ∧ a ≤ c ∧ c ≤ xs.length ∧ xs.length + ys.length ≤ 16777216 then .next env (h3.set r (.lst (xs.take a.toNat ++ ys ++ xs.drop c.toNat))) else .bad
    | _, _ => .bad
  | _, _, _, _ => .bad
/-- o.f as a target -/
def gFldM (cs : List Str) (f : Str) (mo : Ev → Hm → R D) : Gt := fun d env h => (mo env h).bindS env fun x h1 => match setF cs f x d h1 with
  | some h2 => .next env h2
  | none => .bad
section
variable {X : Cx} {T : List (Addr × Str)} {W : WX} {o i e : Expr} {mo mi me : Ev → Hm → R D} {f : Str} {cs : List Str} {pos p2 tpos : Pos}
theorem gm_sub (hu : X.A.units + 1 < cLine) (ho : Em X T W o mo) (hi : Em X T W i mi) (ha : ∀ v, assign (.Subscript o i pos) X.env v = (do
      let ov ← holding [v] (eval o X.env)
      let iv ← holding [v, ov] (eval i X.env)
      standAt pos
      holding [v, ov, iv] (setItem ov iv v)
      release [v, ov, iv] []) := by intro _; rfl) : Gm X T W (.Subscript o i pos) (gSubM mo mi) := PG.of (pg_sub ho hi (set_m hu) ha) fun v σ H Q ⟨π, env, h, d, s, dv, p⟩ => by
  refine ⟨π, env, h, s, (PostS.bind s p).mono fun π1 H1 h1 x s1 g1 p1 u du => ⟨π1, env, h1, s.step s1 g1, (PostS.bind (s.step s1 g1) p1).mono fun π2 H2 h2 y s2 g2 p2 w dw => ?_⟩⟩
  split at p2
  · rename_i h3 e3
    exact os_set π2 h2 h3 H2 x y d u w v _ g2 (du.step s2 _ _) dw ((dv.step s1 _ _).step s2 _ _) e3 fun H' st g' => p2 π2 σ H' st (((s.step s1 g1).step s2 g2).step st g')
  · exact p2.elim
def gFld (K : PySem.W.Frag) (to : TE) (f : Str) : TG := fun y σ H Q => to σ H fun x H2 => ∃ a C dx fs, x = .ref a ∧ H2 a = some (.ins C dx fs) ∧ Cls K C ∧ NoAttr K C f ∧ fs.length < 1000 ∧ Q σ (upd H2 a (.ins C dx (putF f y fs)))
theorem pg_fld {to : TE} (ho : PE X o to) : PG X (.Attribute o f pos) (gFld X.K to f) := by
  refine ⟨fun pins s σ H v u Q I r h => ?_⟩
  rw [arm_assign_Attribute]
  refine wpAny_bind (wpAny_holding (thn (ho.run pins s σ H _ I h) fun ov s1 ⟨x, H1, I1, r1, a, C, dx, fs, ex, ea, c, n, l, q1⟩ => ?_))
  subst ex
  obtain rfl : ov = Value.ref a := r1
  refine wpAny_bind (wpAny_standAt (wpAny_bind (wpAny_holding (setattr_ok I1 ea c n l r fun s3 I3 => ?_))))
  exact wpAny_release ⟨σ, _, I3, q1⟩
theorem gm_fld (hf : FOk X cs f) (ho : Em X T W o mo) : Gm X T W (.Attribute o f pos) (gFldM cs f mo) := PG.of (pg_fld ho) fun v σ H Q ⟨π, env, h, d, s, dv, p⟩ => by
  refine ⟨π, env, h, s, (PostS.bind s p).mono fun π1 H1 h1 x s1 g1 p1 u du => ?_⟩
  split at p1
  · rename_i h3 e3
    obtain ⟨c, hc, a, C, dx, fs, m1, rfl, ha, hl, st, g3⟩ := setF_ok g1 du (dv.step s1 _ _) e3
    obtain ⟨c1, c2⟩ := hf c hc C m1
    exact ⟨a, C, dx, fs, rfl, ha, c1, c2, hl, p1 π1 σ _ st ((s.step s1 g1).step st g3)⟩
  · exact p1.elim
def gSl (to : TE) (tl th : TO) : TG := fun v σ H Q => to σ H fun x H1 => tl σ H1 fun lo H2 => th σ H2 fun hi H3 => ∃ l b xs ys a c, x = .ref l ∧ v = .ref b ∧ lo = some a ∧ hi = some c ∧ H3 l = some (.lst xs) ∧ H3 b = some (.lst ys) ∧ l ≠ b ∧ 0 ≤ a ∧ a ≤ c ∧ c ≤ xs.length ∧ xs.length + ys.length ≤ sizeLine ∧ Q σ (upd H3 l (.lst (xs.take a.toNat ++ ys ++ xs.drop c.toNat)))
theorem part_int {u : Value} {a : Int} (p : IsPart u (some a)) : RelV (.int a) u := by
  cases p
  exact ⟨_, rfl⟩
theorem pg_sl {to : TE} {tl th : TO} {lo hi : Option Expr} (ho : PE X o to) (hl : PO X lo tl) (hh : PO X hi th) : PG X (.Subscript o (.Slice lo hi none p2) pos) (gSl to tl th) := by
  refine ⟨fun pins s σ H v u Q I r h => ?_⟩
  rw [arm_assign_Subscript]
  refine wpAny_bind (wpAny_holding (thn (ho.run pins s σ H _ I h) fun ov s1 ⟨x, H1, I1, r1, q1⟩ => ?_))
  refine wpAny_bind (wpAny_holding (wpAny_Slice (thn (hl.run pins s1 σ H1 _ I1 q1) fun vl s2 ⟨l, H2, I2, pl, q2⟩ => thn (hh.run pins s2 σ H2 _ I2 q2) fun vu s3 ⟨u2, H3, I3, pu, q3⟩ => ?_)))
  rw [evalPart_none]
  refine wpAny_pure ?_
  have I4 : Inv X pins σ H3 { s3 with heap := s3.heap.push { cls := .type "slice", data := .fields #[vl, vu, .none] } } := I3.kept (t' := s3.toks) fun b ob q => Heap.get?_push_of_some _ q
  obtain ⟨l, b, xs, ys, a, c, rfl, rfl, rfl, rfl, hL, hB, ne, h0, h1, h2, hz, q⟩ := q3
  obtain rfl : ov = Value.ref l := r1
  obtain rfl : u = Value.ref b := r
  refine wpAny_bind (wpAny_standAt (wpAny_bind (wpAny_holding (set_slice I4 hL hB ne (Heap.IsSliceOf.new ..) (part_int pl) (part_int pu) h0 h1 h2 hz fun s' I' => ?_))))
  exact wpAny_release ⟨σ, _, I', q⟩
theorem gm_sl {ml mh : Ev → Hm → R (Option Int)} {lo hi : Option Expr} (ho : Em X T W o mo) (hl : Om X T W lo ml) (hh : Om X T W hi mh) : Gm X T W (.Subscript o (.Slice lo hi none p2) pos) (gSlM mo ml mh) := PG.of (pg_sl ho hl hh) fun v σ H Q ⟨π, env, h, d, s, dv, p⟩ => by
  refine ⟨π, env, h, s, (PostS.bind s p).mono fun π1 H1 h1 x s1 g1 p1 u du => ⟨π1, env, h1, s.step s1 g1, (PostS.bind (s.step s1 g1) p1).mono fun π2 H2 h2 lo s2 g2 p2 => ⟨π2, env, h2, (s.step s1 g1).step s2 g2, (PostS.bind ((s.step s1 g1).step s2 g2) p2).mono fun π3 H3 h3 hi s3 g3 p3 => ?_⟩⟩⟩
  have du' := (du.step s2 _ _).step s3 _ _
  have dv' := ((dv.step s1 _ _).step s2 _ _).step s3 _ _
  split at p3
  · rename_i r t a c
    obtain ⟨l, ql, rfl⟩ := du'
    obtain ⟨b, qb, rfl⟩ := dv'
    split at p3
    · rename_i xs ys e1 e2
      split at p3
      · rename_i hc
        obtain ⟨ws, ha, k1⟩ := g3.lst e1 ql
        obtain ⟨zs, hb, k2⟩ := g3.lst e2 qb
        refine ⟨l, b, ws, zs, a, c, rfl, rfl, rfl, rfl, ha, hb, fun z => hc.1 ?_, hc.2.1, hc.2.2.1, by rw [k1.len]; exact hc.2.2.2.1, szl (by rw [k1.len, k2.len]; exact hc.2.2.2.2), p3 π3 σ _ (Step.put ql) ((((s.step s1 g1).step s2 g2).step s3 g3).step (Step.put ql) (g3.put (o := .lst _) ql ⟨_, upd_same, (((k1.take _).app k2).app (k1.drop _)).step (Step.put ql) _ _⟩))⟩
        rw [← z] at qb
        exact nodup_ix' g3.nd ql qb
      · exact p3.elim
    · exact p3.elim
  · exact p3.elim
end
end MM

namespace MM
open PySem L2

abbrev Itr := List D × List (Nat × O)
def gdOk (gs : List (Nat × O)) (h : Hm) : Bool := gs.all fun p => decide (h[p.1]? = some p.2)
structure WalkD (G : Gx) (π0 : List Addr) (H0 : Hp) (J : It) (it : Itr) : Prop where
  go : ∀ i π h H, Step π0 H0 π H → Good G π h H → gdOk it.2 h = true → i < it.1.length → J.go i H
  stop : ∀ i π h H, Step π0 H0 π H → Good G π h H → gdOk it.2 h = true → i = it.1.length → J.stop i H
  yld : ∀ i π h H x H', Step π0 H0 π H → Good G π h H → gdOk it.2 h = true → i < it.1.length → J.yld i H x H' → Step π H π H' ∧ Good G π h H' ∧ ∃ d, it.1[i]? = some d ∧ DV G.K π H' d x
def tI (G : Gx) (W : WX) (m : Ev → Hm → R Itr) : TI := fun σ H Rr => ∃ π env h, S G π env h σ H ∧ Post G W π σ H (m env h) fun π' H' _ it => ∀ J, WalkD G π' H' J it → Rr J H'
abbrev Im (X : Cx) (T : List (Addr × Str)) (W : WX) (tg e : Expr) (m : Ev → Hm → R Itr) : Prop := PI X tg e (tI (gx X T) W m)
theorem PI.of {X : Cx} {tg e : Expr} {t t' : TI} (p : PI X tg e t) (w : ∀ σ H Q, t' σ H Q → t σ H Q) : PI X tg e t' := ⟨fun pins s σ H Q I h => p.run pins s σ H Q I (w σ H Q h)⟩
section
variable {G : Gx} {π0 : List Addr} {H0 : Hp} {a b : Addr} {i r : Nat} {ds es : List D} {xs : List V}
theorem gd1 {gs : List (Nat × O)} {h : Hm} {p : Nat × O} (e : gdOk gs h = true) (m : p ∈ gs) : h[p.1]? = some p.2 := of_decide_eq_true (List.all_eq_true.mp e p m)
theorem walk_lst (q : π0[r]? = some a) : WalkD G π0 H0 (Itl G.K a) (ds, [(r, .lst ds)]) := by
  refine ⟨fun i π h H s g e hi => ?_, fun i π h H s g e hi => ?_, fun i π h H x H' s g e hi y => ?_⟩
  · obtain ⟨xs, ha, k⟩ := g.lst (gd1 e List.mem_cons_self) (s.get q)
    obtain ⟨v, h1, _⟩ := k.get (List.getElem?_eq_getElem hi)
    exact ⟨xs, v, SqL.of ha, h1⟩
  · obtain ⟨xs, ha, k⟩ := g.lst (gd1 e List.mem_cons_self) (s.get q)
    exact ⟨xs, SqL.of ha, by rw [k.len, hi]; exact Nat.le_refl _⟩
  · obtain ⟨xs, ha, k⟩ := g.lst (gd1 e List.mem_cons_self) (s.get q)
    obtain ⟨rfl, y⟩ := y
    obtain ⟨d, h1, h2⟩ := k.getR (y xs (SqL.of ha))
    exact ⟨Step.refl, g, d, h1, h2⟩
theorem walk_rol (t : LstAt G.K π0 H0 a xs) (k : DVs G.K π0 H0 ds xs) : WalkD G π0 H0 (Itl G.K a) (ds, []) := by
  refine ⟨fun i π h H s g e hi => ?_, fun i π h H s g e hi => ?_, fun i π h H x H' s g e hi y => ?_⟩
  · obtain ⟨v, h1, _⟩ := k.get (List.getElem?_eq_getElem hi)
    exact ⟨xs, v, (t.step s).sq, h1⟩
  · exact ⟨xs, (t.step s).sq, by rw [k.len, hi]; exact Nat.le_refl _⟩
  · obtain ⟨rfl, y⟩ := y
    obtain ⟨d, h1, h2⟩ := k.getR (y xs (t.step s).sq)
    exact ⟨Step.refl, g, d, h1, h2.step s _ _⟩
theorem walk_tp (t : TupAt G.K π0 H0 a xs) (k : DVs G.K π0 H0 ds xs) : WalkD G π0 H0 (Itt G.K a) (ds, []) := by
  refine ⟨fun i π h H s g e hi => ?_, fun i π h H s g e hi => ?_, fun i π h H x H' s g e hi y => ?_⟩
  · obtain ⟨v, h1, _⟩ := k.get (List.getElem?_eq_getElem hi)
    exact ⟨xs, v, (t.step s).sq, h1⟩
  · exact ⟨xs, (t.step s).sq, by rw [k.len, hi]; exact Nat.le_refl _⟩
  · obtain ⟨rfl, y⟩ := y
    obtain ⟨d, h1, h2⟩ := k.getR (y xs (t.step s).sq)
    exact ⟨Step.refl, g, d, h1, h2.step s _ _⟩
theorem get_map_range {f : Nat → D} {n i : Nat} (hi : i < n) : ((List.range n).map f)[i]? = some (f i) := by simp [hi]
/-- lo, lo + c, .. -/
def rngD (lo c : Int) (n : Nat) : List D := (List.range n).map fun i : Nat => D.int (lo + (i : Int) * c)
def rng1 (lo : Int) (n : Nat) : List D := (List.range n).map fun i : Nat => D.int (lo + (i : Int))
theorem walk_rg {lo : Int} {n : Nat} : WalkD G π0 H0 (L2.Itr lo n) (rng1 lo n, []) := by
  refine ⟨fun i π h H s g e hi => ?_, fun i π h H s g e hi => ?_, fun i π h H x H' s g e hi y => ?_⟩
  · have hi' : i < n := by simpa [rng1] using hi
    exact hi'
  · have : n ≤ i := by simp [rng1] at hi; omega
    exact this
  · obtain ⟨rfl, y⟩ := y
    have hi' : i < n := by simpa [rng1] using hi
    exact ⟨Step.refl, g, _, get_map_range hi', y⟩
theorem walk_rgc {lo c : Int} {n : Nat} : WalkD G π0 H0 (Itc lo c n) (rngD lo c n, []) := by
  refine ⟨fun i π h H s g e hi => ?_, fun i π h H s g e hi => ?_, fun i π h H x H' s g e hi y => ?_⟩
  · have hi' : i < n := by simpa [rngD] using hi
    exact hi'
  · have : n ≤ i := by simp [rngD] at hi; omega
    exact this
  · obtain ⟨rfl, y⟩ := y
    have hi' : i < n := by simpa [rngD] using hi
    exact ⟨Step.refl, g, _, get_map_range hi', y⟩
/-- reversed(list): the length is the one at the start -/
theorem walk_rv (q : π0[r]? = some a) {n : Nat} (hn : n = ds.length) : WalkD G π0 H0 (Itv G.K a n) (ds.reverse, [(r, .lst ds)]) := by
  subst hn
  refine ⟨fun i π h H s g e hi => ?_, fun i π h H s g e hi => ?_, fun i π h H x H' s g e hi y => ?_⟩
  · rw [List.length_reverse] at hi
    obtain ⟨xs, ha, k⟩ := g.lst (gd1 e List.mem_cons_self) (s.get q)
    obtain ⟨v, h1, _⟩ := k.get (List.getElem?_eq_getElem (show ds.length - 1 - i < ds.length by omega))
    exact ⟨hi, xs, v, SqL.of ha, h1⟩
  · rw [List.length_reverse] at hi
    exact Nat.le_of_eq hi.symm
  · rw [List.length_reverse] at hi
    obtain ⟨xs, ha, k⟩ := g.lst (gd1 e List.mem_cons_self) (s.get q)
    obtain ⟨rfl, y⟩ := y
    obtain ⟨d, h1, h2⟩ := k.getR (y xs (SqL.of ha))
    exact ⟨Step.refl, g, d, by rw [List.getElem?_reverse hi]; exact h1, h2⟩
theorem walk_rvK (t : LstAt G.K π0 H0 a xs) (k : DVs G.K π0 H0 ds xs) : WalkD G π0 H0 (Itv G.K a xs.length) (ds.reverse, []) := by
  refine ⟨fun i π h H s g e hi => ?_, fun i π h H s g e hi => ?_, fun i π h H x H' s g e hi y => ?_⟩
  · rw [List.length_reverse] at hi
    obtain ⟨v, h1, _⟩ := k.get (List.getElem?_eq_getElem (show xs.length - 1 - i < ds.length by rw [k.len]; omega))
    exact ⟨by rw [k.len]; exact hi, xs, v, (t.step s).sq, h1⟩
  · rw [List.length_reverse] at hi
    show xs.length ≤ i
    rw [k.len]
    omega
  · rw [List.length_reverse] at hi
    obtain ⟨rfl, y⟩ := y
    obtain ⟨d, h1, h2⟩ := k.getR (y xs (t.step s).sq)
    rw [k.len] at h1
    exact ⟨Step.refl, g, d, by rw [List.getElem?_reverse hi]; exact h1, h2.step s _ _⟩
theorem walk_rvT (t : TupAt G.K π0 H0 a xs) (k : DVs G.K π0 H0 ds xs) : WalkD G π0 H0 (RT.ItvT G.K a xs.length) (ds.reverse, []) := by
  refine ⟨fun i π h H s g e hi => ?_, fun i π h H s g e hi => ?_, fun i π h H x H' s g e hi y => ?_⟩
  · rw [List.length_reverse] at hi
    obtain ⟨v, h1, _⟩ := k.get (List.getElem?_eq_getElem (show xs.length - 1 - i < ds.length by rw [k.len]; omega))
    exact ⟨by rw [k.len]; exact hi, xs, v, (t.step s).sq, h1⟩
  · rw [List.length_reverse] at hi
    show xs.length ≤ i
    rw [k.len]
    omega
  · rw [List.length_reverse] at hi
    obtain ⟨rfl, y⟩ := y
    obtain ⟨d, h1, h2⟩ := k.getR (y xs (t.step s).sq)
    rw [k.len] at h1
    exact ⟨Step.refl, g, d, by rw [List.getElem?_reverse hi]; exact h1, h2.step s _ _⟩
def enumD (n : Nat) : List D → List D
  | [] => []
  | d :: ds => .tup [.int n, d] :: enumD (n + 1) ds
theorem enumD_len : ∀ (ds : List D) (n : Nat), (enumD n ds).length = ds.length
  | [], _ => rfl
  | d :: ds, n => by unfold enumD; rw [List.length_cons, List.length_cons, enumD_len ds]
theorem enumD_get : ∀ (ds : List D) (n i : Nat) (d : D), ds[i]? = some d → (enumD n ds)[i]? = some (.tup [.int ((n + i : Nat) : Int), d])
  | d :: ds, n, 0, d', e => by cases e; rfl
  | d :: ds, n, i + 1, d', e => by
    have := enumD_get ds (n + 1) i d' e
    unfold enumD
    rw [List.getElem?_cons_succ, this, show n + 1 + i = n + (i + 1) by omega]
/-- a new pair -/
theorem new_pair {π : List Addr} {h : Hm} {H : Hp} (g : Good G π h H) {P : Addr} (n : H P = none) {x y : V} {d e : D} (dx : DV G.K π H d x) (ey : DV G.K π H e y) : Step π H π (upd H P (.tup [x, y])) ∧ Good G π h (upd H P (.tup [x, y])) ∧ DV G.K π (upd H P (.tup [x, y])) (.tup [d, e]) (.ref P) := by
  have s := Step.other (o := .tup [x, y]) g n
  exact ⟨s, g.other n, P, [x, y], rfl, .inl ⟨upd_same, g.free n⟩, .two (dx.step s _ _) (ey.step s _ _)⟩
theorem walk_en (q : π0[r]? = some a) : WalkD G π0 H0 (Ite G.K a) (enumD 0 ds, [(r, .lst ds)]) := by
  refine ⟨fun i π h H s g e hi => ?_, fun i π h H s g e hi => ?_, fun i π h H x H' s g e hi y => ?_⟩
  · rw [enumD_len] at hi
    obtain ⟨xs, ha, k⟩ := g.lst (gd1 e List.mem_cons_self) (s.get q)
    obtain ⟨v, h1, _⟩ := k.get (List.getElem?_eq_getElem hi)
    exact ⟨xs, v, SqL.of ha, h1⟩
  · rw [enumD_len] at hi
    obtain ⟨xs, ha, k⟩ := g.lst (gd1 e List.mem_cons_self) (s.get q)
    exact ⟨xs, SqL.of ha, by rw [k.len, hi]; exact Nat.le_refl _⟩
  · obtain ⟨xs, ha, k⟩ := g.lst (gd1 e List.mem_cons_self) (s.get q)
    obtain ⟨P, z, rfl, hn, rfl, y⟩ := y
    obtain ⟨d, h1, h2⟩ := k.getR (y xs (SqL.of ha))
    obtain ⟨p1, p2, p3⟩ := new_pair (d := .int (i : Nat)) (x := .int (i : Nat)) g hn rfl h2
    refine ⟨p1, p2, _, enumD_get ds 0 i d h1, ?_⟩
    rw [Nat.zero_add]
    exact p3
theorem walk_enK (t : LstAt G.K π0 H0 a xs) (k : DVs G.K π0 H0 ds xs) : WalkD G π0 H0 (Ite G.K a) (enumD 0 ds, []) := by
  refine ⟨fun i π h H s g e hi => ?_, fun i π h H s g e hi => ?_, fun i π h H x H' s g e hi y => ?_⟩
  · rw [enumD_len] at hi
    obtain ⟨v, h1, _⟩ := k.get (List.getElem?_eq_getElem hi)
    exact ⟨xs, v, (t.step s).sq, h1⟩
  · rw [enumD_len] at hi
    exact ⟨xs, (t.step s).sq, by rw [k.len, hi]; exact Nat.le_refl _⟩
  · obtain ⟨P, z, rfl, hn, rfl, y⟩ := y
    obtain ⟨d, h1, h2⟩ := k.getR (y xs (t.step s).sq)
    obtain ⟨p1, p2, p3⟩ := new_pair (d := .int (i : Nat)) (x := .int (i : Nat)) g hn rfl (h2.step s _ _)
    refine ⟨p1, p2, _, enumD_get ds 0 i d h1, ?_⟩
    rw [Nat.zero_add]
    exact p3
def zipD (ds es : List D) : List D := (ds.zip es).map fun p => .tup [p.1, p.2]
theorem zipD_get {i : Nat} {d e : D} (h1 : ds[i]? = some d) (h2 : es[i]? = some e) : (zipD ds es)[i]? = some (.tup [d, e]) := by
  unfold zipD
  rw [List.getElem?_map, show (ds.zip es)[i]? = some (d, e) from List.getElem?_zip_eq_some.mpr ⟨h1, h2⟩] <;> rfl
theorem zipD_len : (zipD ds es).length = min ds.length es.length := by unfold zipD; rw [List.length_map, List.length_zip]
/-- the items of a list or a tuple, at every later heap -/
def SeqA (G : Gx) (π0 : List Addr) (H0 : Hp) (tup : Bool) (a : Addr) (ds : List D) (gs : List (Nat × O)) : Prop :=
  ∀ π h H, Step π0 H0 π H → Good G π h H → gdOk gs h = true → ∃ xs, (if tup = true then SqT G.K H a xs else SqL G.K H a xs) ∧ DVs G.K π H ds xs
theorem seqA_lst (q : π0[r]? = some a) : SeqA G π0 H0 false a ds [(r, .lst ds)] := fun π h H s g e => by
  obtain ⟨xs, ha, k⟩ := g.lst (gd1 e List.mem_cons_self) (s.get q)
  exact ⟨xs, SqL.of ha, k⟩
theorem seqA_rol (t : LstAt G.K π0 H0 a xs) (k : DVs G.K π0 H0 ds xs) : SeqA G π0 H0 false a ds [] := fun π h H s g e => ⟨xs, (t.step s).sq, k.step s _ _⟩
theorem seqA_tup (t : TupAt G.K π0 H0 a xs) (k : DVs G.K π0 H0 ds xs) : SeqA G π0 H0 true a ds [] := fun π h H s g e => ⟨xs, (t.step s).sq, k.step s _ _⟩
theorem gdOk_app {g1 g2 : List (Nat × O)} {h : Hm} (e : gdOk (g1 ++ g2) h = true) : gdOk g1 h = true ∧ gdOk g2 h = true := by
  unfold gdOk at e ⊢
  rw [List.all_append, Bool.and_eq_true] at e
  exact e
theorem walk_zp {g1 g2 : List (Nat × O)} (w1 : SeqA G π0 H0 false a ds g1) (w2 : SeqA G π0 H0 false b es g2) : WalkD G π0 H0 (Itz G.K a b) (zipD ds es, g1 ++ g2) := by
  refine ⟨fun i π h H s g e hi => ?_, fun i π h H s g e hi => ?_, fun i π h H x H' s g e hi y => ?_⟩
  · obtain ⟨xs, ha, k⟩ := w1 π h H s g (gdOk_app e).1
    obtain ⟨ys, hb, k2⟩ := w2 π h H s g (gdOk_app e).2
    rw [zipD_len] at hi
    obtain ⟨v, h1, _⟩ := k.get (List.getElem?_eq_getElem (show i < ds.length by omega))
    obtain ⟨u, h2, _⟩ := k2.get (List.getElem?_eq_getElem (show i < es.length by omega))
    exact ⟨xs, ys, v, u, ha, hb, h1, h2⟩
  · obtain ⟨xs, ha, k⟩ := w1 π h H s g (gdOk_app e).1
    obtain ⟨ys, hb, k2⟩ := w2 π h H s g (gdOk_app e).2
    rw [zipD_len] at hi
    exact ⟨xs, ys, ha, hb, by rw [k.len, k2.len]; omega⟩
  · obtain ⟨xs, ha, k⟩ := w1 π h H s g (gdOk_app e).1
    obtain ⟨ys, hb, k2⟩ := w2 π h H s g (gdOk_app e).2
    obtain ⟨P, u, w, rfl, hn, rfl, y1, y2⟩ := y
    obtain ⟨d, h1, h2⟩ := k.getR (y1 xs ha)
    obtain ⟨d', h1', h2'⟩ := k2.getR (y2 ys hb)
    obtain ⟨p1, p2, p3⟩ := new_pair g hn h2 h2'
    exact ⟨p1, p2, _, zipD_get h1 h1', p3⟩
theorem walk_zpT {g1 g2 : List (Nat × O)} (w1 : SeqA G π0 H0 true a ds g1) (w2 : SeqA G π0 H0 true b es g2) : WalkD G π0 H0 (RZ.ItzT G.K a b) (zipD ds es, g1 ++ g2) := by
  refine ⟨fun i π h H s g e hi => ?_, fun i π h H s g e hi => ?_, fun i π h H x H' s g e hi y => ?_⟩
  · obtain ⟨xs, ha, k⟩ := w1 π h H s g (gdOk_app e).1
    obtain ⟨ys, hb, k2⟩ := w2 π h H s g (gdOk_app e).2
    rw [zipD_len] at hi
    obtain ⟨v, h1, _⟩ := k.get (List.getElem?_eq_getElem (show i < ds.length by omega))
    obtain ⟨u, h2, _⟩ := k2.get (List.getElem?_eq_getElem (show i < es.length by omega))
    exact ⟨xs, ys, v, u, ha, hb, h1, h2⟩
  · obtain ⟨xs, ha, k⟩ := w1 π h H s g (gdOk_app e).1
    obtain ⟨ys, hb, k2⟩ := w2 π h H s g (gdOk_app e).2
    rw [zipD_len] at hi
    exact ⟨xs, ys, ha, hb, by rw [k.len, k2.len]; omega⟩
  · obtain ⟨xs, ha, k⟩ := w1 π h H s g (gdOk_app e).1
    obtain ⟨ys, hb, k2⟩ := w2 π h H s g (gdOk_app e).2
    obtain ⟨P, u, w, rfl, hn, rfl, y1, y2⟩ := y
    obtain ⟨d, h1, h2⟩ := k.getR (y1 xs ha)
    obtain ⟨d', h1', h2'⟩ := k2.getR (y2 ys hb)
    obtain ⟨p1, p2, p3⟩ := new_pair g hn h2 h2'
    exact ⟨p1, p2, _, zipD_get h1 h1', p3⟩
end

/-- of a list, of a tuple -/
def itL (h : Hm) : D → Option Itr
  | .rol ds => some (ds, [])
  | .ref r => match h[r]? with
    | some (.lst ds) => some (ds, [(r, .lst ds)])
    | _ => none
  | _ => none
def itT : D → Option Itr
  | .tup ds => some (ds, [])
  | _ => none
def oR {α : Type} (o : Option α) (h : Hm) : R α := match o with
  | some a => .ok a h
  | none => .bad
def mItL (m : Ev → Hm → R D) : Ev → Hm → R Itr := fun env h => (m env h).bind fun x h1 => oR (itL h1 x) h1
def mItT (m : Ev → Hm → R D) : Ev → Hm → R Itr := fun env h => (m env h).bind fun x h1 => oR (itT x) h1
def sm62 (i : Int) : Bool := decide (-(2 ^ 62) ≤ i ∧ i < 2 ^ 62)
def mRg1 (m : Ev → Hm → R (List D)) : Ev → Hm → R Itr := fun env h => (m env h).bind fun ds h1 => match ds with
  | [.int j] => if sm62 j = true then .ok (rng1 0 j.toNat, []) h1 else .bad
  | _ => .bad
def mRg2 (m : Ev → Hm → R (List D)) : Ev → Hm → R Itr := fun env h => (m env h).bind fun ds h1 => match ds with
  | [.int i, .int j] => if sm62 i = true ∧ sm62 j = true then .ok (rng1 i (j - i).toNat, []) h1 else .bad
  | _ => .bad
/-- range(i, j, -1) -/
def mRg3 (m : Ev → Hm → R (List D)) : Ev → Hm → R Itr := fun env h => (m env h).bind fun ds h1 => match ds with
  | [.int i, .int j, .int c] => if sm62 i = true ∧ sm62 j = true ∧ c = -1 then .ok (rngD i (-1) (i - j).toNat, []) h1 else .bad
  | _ => .bad
/-- reversed(range(j)) -/
def mRvR (m : Ev → Hm → R (List D)) : Ev → Hm → R Itr := fun env h => (m env h).bind fun ds h1 => match ds with
  | [.int j] => if sm62 j = true then .ok (rngD (0 + (((j - 0).toNat : Nat) : Int) - 1) (-1) (j - 0).toNat, []) h1 else .bad
  | _ => .bad
def itRev (h : Hm) : D → Option Itr
  | .rol ds => some (ds.reverse, [])
  | .tup ds => some (ds.reverse, [])
  | .ref r => match h[r]? with
    | some (.lst ds) => some (ds.reverse, [(r, .lst ds)])
    | _ => none
  | _ => none
def mRev (m : Ev → Hm → R D) : Ev → Hm → R Itr := fun env h => (m env h).bind fun x h1 => oR (itRev h1 x) h1
def mEnum (m : Ev → Hm → R (List D)) : Ev → Hm → R Itr := fun env h => (m env h).bind fun ds h1 => match ds with
  | [x] => match itL h1 x with
    | some it => .ok (enumD 0 it.1, it.2) h1
    | none => .bad
  | _ => .bad
def mZip (m : Ev → Hm → R (List D)) : Ev → Hm → R Itr := fun env h => (m env h).bind fun ds h1 => match ds with
  | [x, y] => match itL h1 x, itL h1 y with
    | some a, some b => .ok (zipD a.1 b.1, a.2 ++ b.2) h1
    | _, _ => match itT x, itT y with
      | some a, some b => .ok (zipD a.1 b.1, a.2 ++ b.2) h1
      | _, _ => .bad
  | _ => .bad
section
variable {G : Gx} {π : List Addr} {h : Hm} {H : Hp}
theorem itL_ok (g : Good G π h H) {d : D} {x : V} {it : Itr} (dx : DV G.K π H d x) (e : itL h d = some it) : ∃ a, x = .ref a ∧ (∃ xs, SqL G.K H a xs) ∧ WalkD G π H (Itl G.K a) it ∧ SeqA G π H false a it.1 it.2 ∧ WalkD G π H (Ite G.K a) (enumD 0 it.1, it.2) := by
  cases d with
  | rol ds =>
    cases e
    obtain ⟨a, xs, rfl, t, q⟩ := dx
    exact ⟨a, rfl, ⟨xs, t.sq⟩, walk_rol t q, seqA_rol t q, walk_enK t q⟩
  | ref r =>
    obtain ⟨a, qa, rfl⟩ := dx
    have e' : (match h[r]? with
      | some (.lst ds) => some (ds, [(r, O.lst ds)])
      | _ => none) = some it := e
    split at e'
    · rename_i e0
      cases e'
      obtain ⟨xs, ha, q⟩ := g.lst e0 qa
      exact ⟨a, rfl, ⟨xs, SqL.of ha⟩, walk_lst qa, seqA_lst qa, walk_en qa⟩
    · cases e'
  | _ => cases e
theorem itT_ok {d : D} {x : V} {it : Itr} (dx : DV G.K π H d x) (e : itT d = some it) : ∃ a, x = .ref a ∧ (∃ xs, SqT G.K H a xs) ∧ WalkD G π H (Itt G.K a) it ∧ SeqA G π H true a it.1 it.2 := by
  cases d with
  | tup ds =>
    cases e
    obtain ⟨a, xs, rfl, t, q⟩ := dx
    exact ⟨a, rfl, ⟨xs, t.sq⟩, walk_tp t q, seqA_tup t q⟩
  | _ => cases e
end
theorem sm62_ok {i : Int} (h : sm62 i = true) : -(2 ^ 62) ≤ i ∧ i < 2 ^ 62 := of_decide_eq_true h
section
variable {X : Cx} {T : List (Addr × Str)} {W : WX} {tg e e2 e3 : Expr} {es : List Expr} {me me2 : Ev → Hm → R D} {mr : Ev → Hm → R (List D)} {p p' pos pos' tpos : Pos} {kk : Nat} {elts : List Expr}
theorem im_list (he : Em X T W e me) : Im X T W tg e (mItL me) := PI.of (pi_list he) fun σ H Q ⟨π, env, h, s, p⟩ => by
  refine ⟨π, env, h, s, p.bind.mono fun π1 H1 h1 d s1 g1 p1 x dx => ?_⟩
  cases q : itL h1 d with
  | none => rw [q] at p1; exact p1.elim
  | some it =>
    rw [q] at p1
    obtain ⟨a, e1, e2, w, _⟩ := itL_ok g1 dx q
    exact ⟨a, e1, e2, p1 π1 H1 Step.refl g1 _ w⟩
theorem im_tup (he : Em X T W e me) : Im X T W tg e (mItT me) := PI.of (pi_tup he) fun σ H Q ⟨π, env, h, s, p⟩ => by
  refine ⟨π, env, h, s, p.bind.mono fun π1 H1 h1 d s1 g1 p1 x dx => ?_⟩
  cases q : itT d with
  | none => rw [q] at p1; exact p1.elim
  | some it =>
    rw [q] at p1
    obtain ⟨a, e1, e2, w, _⟩ := itT_ok (G := gx X T) dx q
    exact ⟨a, e1, e2, p1 π1 H1 Step.refl g1 _ w⟩
theorem im_range1 (hg : Gl X "range") (hm : X.mg "range" = none) (ha : Am X T W [e] mr) (hs : starEach [e] X.env = [(false, eval e X.env)] := by rfl) : Im X T W tg (.Call (.Name "range" p) [e] [] pos) (mRg1 mr) := PI.of (pi_range1 hg hm ha hs) fun σ H Q ⟨π, env, h, s, p⟩ => by
  refine ⟨π, env, h, s, p.bind.mono fun π1 H1 h1 ds s1 g1 p1 vs dv => ?_⟩
  split at p1
  · obtain ⟨v, vs, rfl, d1, e⟩ := dv
    obtain rfl := (show vs = [] from e)
    obtain rfl := (show v = _ from d1)
    split at p1
    · rename_i hc
      exact ⟨_, rfl, (sm62_ok hc).1, (sm62_ok hc).2, p1 π1 H1 Step.refl g1 _ walk_rg⟩
    · exact p1.elim
  · exact p1.elim
theorem im_range2 (hg : Gl X "range") (hm : X.mg "range" = none) (ha : Am X T W [e, e2] mr) (hs : starEach [e, e2] X.env = [(false, eval e X.env), (false, eval e2 X.env)] := by rfl) (hs2 : starEach [e2] X.env = [(false, eval e2 X.env)] := by rfl) : Im X T W tg (.Call (.Name "range" p) [e, e2] [] pos) (mRg2 mr) := PI.of (pi_range2 hg hm ha hs hs2) fun σ H Q ⟨π, env, h, s, p⟩ => by
  refine ⟨π, env, h, s, p.bind.mono fun π1 H1 h1 ds s1 g1 p1 vs dv => ?_⟩
  split at p1
  · obtain ⟨v, vs, rfl, d1, w, ws, rfl, d2, e⟩ := dv
    obtain rfl := (show ws = [] from e)
    obtain rfl := (show v = _ from d1)
    obtain rfl := (show w = _ from d2)
    split at p1
    · rename_i hc
      exact ⟨_, _, rfl, ⟨(sm62_ok hc.1).1, (sm62_ok hc.1).2, (sm62_ok hc.2).1, (sm62_ok hc.2).2⟩, p1 π1 H1 Step.refl g1 _ walk_rg⟩
    · exact p1.elim
  · exact p1.elim
theorem im_reversed (hg : Gl X "reversed") (hm : X.mg "reversed" = none) (he : Em X T W e me) (hs : starEach [e] X.env = (false, eval e X.env) :: starEach [] X.env := by rfl) : Im X T W tg (.Call (.Name "reversed" p) [e] [] pos) (mRev me) := PI.of (RT.pi_revA hg hm he hs) fun σ H Q ⟨π, env, h, s, p⟩ => by
  refine ⟨π, env, h, s, p.bind.mono fun π1 H1 h1 d s1 g1 p1 x dx => ?_⟩
  cases q : itRev h1 d with
  | none => rw [q] at p1; exact p1.elim
  | some it =>
    rw [q] at p1
    cases d with
    | rol ds =>
      cases q
      obtain ⟨a, xs, rfl, t, q⟩ := dx
      exact ⟨a, xs, rfl, .inl ⟨t.sq, p1 π1 H1 Step.refl g1 _ (walk_rvK t q)⟩⟩
    | tup ds =>
      cases q
      obtain ⟨a, xs, rfl, t, q⟩ := dx
      exact ⟨a, xs, rfl, .inr ⟨t.sq, p1 π1 H1 Step.refl g1 _ (walk_rvT t q)⟩⟩
    | ref r =>
      obtain ⟨a, qa, rfl⟩ := dx
      have e' : (match h1[r]? with
        | some (.lst ds) => some (ds.reverse, [(r, O.lst ds)])
        | _ => none) = some it := q
      split at e'
      · rename_i e0
        cases e'
        obtain ⟨xs, ha, q⟩ := g1.lst e0 qa
        exact ⟨a, xs, rfl, .inl ⟨SqL.of ha, p1 π1 H1 Step.refl g1 _ (walk_rv qa q.len)⟩⟩
      · cases e'
    | _ => cases q
theorem im_enum (hg : Gl X "enumerate") (hm : X.mg "enumerate" = none) (ha : Am X T W [e] mr) (hs : starEach [e] X.env = [(false, eval e X.env)] := by rfl) : Im X T W (.Tuple elts kk tpos) (.Call (.Name "enumerate" p) [e] [] pos) (mEnum mr) := PI.of (pi_enum hg hm ha hs) fun σ H Q ⟨π, env, h, s, p⟩ => by
  refine ⟨π, env, h, s, p.bind.mono fun π1 H1 h1 ds s1 g1 p1 vs dv => ?_⟩
  split at p1
  · obtain ⟨v, vs, rfl, d1, e⟩ := dv
    obtain rfl := (show vs = [] from e)
    split at p1
    · rename_i it ei
      obtain ⟨a, e1, ⟨xs, e2⟩, w, w2, w3⟩ := itL_ok g1 d1 ei
      subst e1
      exact ⟨a, xs, rfl, e2, p1 π1 H1 Step.refl g1 _ w3⟩
    · exact p1.elim
  · exact p1.elim
theorem im_zip (hg : Gl X "zip") (hm : X.mg "zip" = none) (ha : Am X T W [e, e2] mr) (hs : starEach [e, e2] X.env = (false, eval e X.env) :: starEach [e2] X.env := by rfl) (hpl : (backTo pos (starEach [e2] X.env)).any (·.1) = false := by rfl) : Im X T W (.Tuple elts kk tpos) (.Call (.Name "zip" p) [e, e2] [] pos) (mZip mr) := PI.of (RZ.pi_zipA hg hm ha hs hpl) fun σ H Q ⟨π, env, h, s, p⟩ => by
  refine ⟨π, env, h, s, p.bind.mono fun π1 H1 h1 ds s1 g1 p1 vs dv => ?_⟩
  split at p1
  · rename_i x y
    obtain ⟨v, vs, rfl, d1, w, ws, rfl, d2, e⟩ := dv
    obtain rfl := (show ws = [] from e)
    split at p1
    · rename_i ia ib ea eb
      obtain ⟨a, e1, ⟨xs, e2⟩, _, w2, _⟩ := itL_ok g1 d1 ea
      obtain ⟨b, e1', ⟨ys, e2'⟩, _, w2', _⟩ := itL_ok g1 d2 eb
      subst e1 e1'
      exact ⟨a, b, xs, ys, rfl, .inl ⟨e2, e2', p1 π1 H1 Step.refl g1 _ (walk_zp w2 w2')⟩⟩
    · split at p1
      · rename_i ia ib ea eb
        obtain ⟨a, e1, ⟨xs, e2⟩, _, w2⟩ := itT_ok (G := gx X T) d1 ea
        obtain ⟨b, e1', ⟨ys, e2'⟩, _, w2'⟩ := itT_ok (G := gx X T) d2 eb
        subst e1 e1'
        exact ⟨a, b, xs, ys, rfl, .inr ⟨e2, e2', p1 π1 H1 Step.refl g1 _ (walk_zpT w2 w2')⟩⟩
      · exact p1.elim
  · exact p1.elim
end

def forL (gs : List (Nat × O)) (g : Gt) (b : Ev → Hm → SR) : List D → Ev → Hm → SR
  | [], env, h => if gdOk gs h = true then .next env h else .bad
  | d :: ds, env, h => if gdOk gs h = true then (match (g d env h).only with
      | .next e1 h1 => (match b e1 h1 with
        | .next e2 h2 => forL gs g b ds e2 h2
        | .cont e2 h2 => forL gs g b ds e2 h2
        | .brk e2 h2 => .next e2 h2
        | r => r)
      | r => r) else .bad
def sFor (m : Ev → Hm → R Itr) (g : Gt) (b : Ev → Hm → SR) : Ev → Hm → SR := fun env h => (m env h).bindS env fun it h1 => forL it.2 g b it.1 env h1
section
variable {X : Cx} {T : List (Addr × Str)} {W : WX} {tg iter : Expr} {body : List Stmt} {m : Ev → Hm → R Itr} {g : Gt} {b : Ev → Hm → SR} {pos : Pos}
theorem sm_for (hp : PassesOwn (model X.prog X.w) X.A X.env X.xe) (hc : X.calm = true) (hi : Im X T W tg iter m) (hg : Gm X T W tg g) (hb : Ssm X T W body b) (hs : ∀ x, foldedSetIterable iter X.env x = pure x := by intro _; rfl) : Sm X T W (.For tg iter body [] pos) (sFor m g b) :=
  PS.of (ps_for hp hc hi hg hb hs) fun D σ H ⟨π, env, h, s, p⟩ => ⟨π, env, h, s, (PostS.bind s p).mono fun π1 H1 h1 it s1 g1 p1 J w => by
    refine ⟨fun i n σ' H' => i + n = it.1.length ∧ ∃ π' env' h', Step π1 H1 π' H' ∧ S (gx X T) π' env' h' σ' H' ∧ PostS (gx X T) W D π' H' (forL it.2 g b (it.1.drop i) env' h'), ⟨it.1.length, by simp, π1, env, h1, Step.refl, s.step s1 g1, by rw [List.drop_zero]; exact p1⟩, ?_⟩
    rintro i n σ2 H2 ⟨hin, π2, e2, h2, s2, x2, p2⟩
    by_cases hi : i < it.1.length
    · rw [List.drop_eq_getElem_cons hi] at p2
      unfold forL at p2
      by_cases hk : gdOk it.2 h2 = true
      · rw [if_pos hk] at p2
        refine .inr ⟨w.go i π2 h2 H2 s2 x2.good hk hi, fun σ' H' => (i + 1) + (n - 1) = it.1.length ∧ ∃ π' env' h', Step π1 H1 π' H' ∧ S (gx X T) π' env' h' σ' H' ∧ PostS (gx X T) W D π' H' (forL it.2 g b (it.1.drop (i + 1)) env' h'), fun σ' H' z => ⟨n - 1, by omega, z⟩, fun x H' y => ?_⟩
        obtain ⟨s3, g3, d, ed, dv⟩ := w.yld i π2 h2 H2 x H' s2 x2.good hk hi y
        rw [List.getElem?_eq_getElem hi] at ed
        cases ed
        have p3 := PostS.step s3 p2
        refine ⟨π2, e2, h2, _, x2.step s3 g3, dv, ?_⟩
        generalize g (it.1[i]) e2 h2 = z at p3 ⊢
        cases z with
        | next e4 h4 =>
          intro π4 σ4 H4 s4 x4
          refine ⟨π4, e4, h4, x4, ?_⟩
          have p4 := PostS.step s4 p3
          unfold SR.only at p4
          simp only at p4
          generalize b e4 h4 = z at p4 ⊢
          cases z with
          | next e5 h5 => exact fun π5 σ5 H5 s5 x5 => ⟨by omega, π5, e5, h5, ((s2.trans s3).trans s4).trans s5, x5, PostS.step s5 p4⟩
          | cont e5 h5 => exact fun π5 σ5 H5 s5 x5 => ⟨by omega, π5, e5, h5, ((s2.trans s3).trans s4).trans s5, x5, PostS.step s5 p4⟩
          | brk e5 h5 => exact p4
          | ret d h => exact p4
          | exn y e h => exact p4
          | bad => exact p4
        | ret d h => exact (show False from p3).elim
        | brk env h => exact (show False from p3).elim
        | cont env h => exact (show False from p3).elim
        | exn y env h => exact p3
        | bad => exact p3
      · rw [if_neg hk] at p2
        exact p2.elim
    · have hi' : i = it.1.length := by omega
      rw [List.drop_of_length_le (by omega)] at p2
      unfold forL at p2
      by_cases hk : gdOk it.2 h2 = true
      · rw [if_pos hk] at p2
        exact .inl ⟨w.stop i π2 h2 H2 s2 x2.good hk hi', p2 π2 σ2 H2 Step.refl x2⟩
      · rw [if_neg hk] at p2
        exact p2.elim⟩
end
end MM

namespace MM
open PySem L2

/-- what data need of a step -/
structure StepV (π : List Addr) (H : Hp) (π' : List Addr) (H' : Hp) : Prop where
  ext : ∃ more, π' = π ++ more
  tup : ∀ a xs, H a = some (.tup xs) → a ∉ π → H' a = some (.tup xs) ∧ a ∉ π'
  frz : ∀ a o xs, H a = some (.frz o (.lst xs)) → a ∉ π → H' a = some (.frz o (.lst xs)) ∧ a ∉ π'
section
variable {K : PySem.W.Frag} {π π' : List Addr} {H H' : Hp}
theorem StepV.get (s : StepV π H π' H') {i : Nat} {a : Addr} (h : π[i]? = some a) : π'[i]? = some a := by
  obtain ⟨m, e⟩ := s.ext
  rw [e, List.getElem?_append_left (List.getElem?_eq_some_iff.mp h).1]
  exact h
theorem TupAt.stepV (s : StepV π H π' H') {a : Addr} {xs : List V} (h : TupAt K π H a xs) : TupAt K π' H' a xs := by
  rcases h with ⟨h, n⟩ | h
  · exact .inl (s.tup a xs h n)
  · exact .inr h
theorem LstAt.stepV (s : StepV π H π' H') {a : Addr} {xs : List V} (h : LstAt K π H a xs) : LstAt K π' H' a xs := by
  rcases h with ⟨o, h, n⟩ | h
  · exact .inl ⟨o, s.frz a o xs h n⟩
  · exact .inr h
mutual
theorem DV.stepV (s : StepV π H π' H') : ∀ (d : D) (v : V), DV K π H d v → DV K π' H' d v
  | .non, _, h => h
  | .bl _, _, h => h
  | .int _, _, h => h
  | .str _, _, h => h
  | .ref _, _, ⟨a, h, e⟩ => ⟨a, s.get h, e⟩
  | .tup ds, _, ⟨a, xs, e, h, q⟩ => ⟨a, xs, e, h.stepV s, DVs.stepV s ds xs q⟩
  | .rol ds, _, ⟨a, xs, e, h, q⟩ => ⟨a, xs, e, h.stepV s, DVs.stepV s ds xs q⟩
theorem DVs.stepV (s : StepV π H π' H') : ∀ (ds : List D) (xs : List V), DVs K π H ds xs → DVs K π' H' ds xs
  | [], _, h => h
  | d :: ds, _, ⟨v, vs, e, h, q⟩ => ⟨v, vs, e, DV.stepV s d v h, DVs.stepV s ds vs q⟩
end
theorem DPs.stepV {κ : Type} (s : StepV π H π' H') : ∀ (ps : List (κ × D)) (xs : List (κ × V)), DPs K π H ps xs → DPs K π' H' ps xs
  | [], _, h => h
  | p :: ps, _, ⟨v, vs, e, h, q⟩ => ⟨v, vs, e, h.stepV s _ _, DPs.stepV s ps vs q⟩
theorem OV.stepV {G : Gx} {a : Addr} {o : O} (s : StepV π H π' H') (e : H' a = H a) (h : OV G π H a o) : OV G π' H' a o := by
  cases o with
  | lst ds => obtain ⟨xs, h, q⟩ := h; exact ⟨xs, e.trans h, q.stepV s _ _⟩
  | dic ds => obtain ⟨xs, h, q⟩ := h; exact ⟨xs, e.trans h, q.stepV s _ _⟩
  | ins c fs => obtain ⟨C, dx, xs, g, h, q⟩ := h; exact ⟨C, dx, xs, g, e.trans h, q.stepV s _ _⟩
/-- a list that is none of ours (yet) is written -/
theorem StepV.hid {P : Addr} {xs ys : List V} (e : H P = some (.lst xs)) : StepV π H π (upd H P (.lst ys)) :=
  ⟨⟨[], by simp⟩, fun a zs h n => ⟨by rw [upd_ne (show a ≠ P from fun z => by rw [z, e] at h; cases h)]; exact h, n⟩, fun a o zs h n => ⟨by rw [upd_ne (show a ≠ P from fun z => by rw [z, e] at h; cases h)]; exact h, n⟩⟩
theorem Step.hide {P : Addr} {o : HO} (s : Step π H π' H') (n : H P = none) : Step π H π' (upd H' P o) :=
  ⟨s.ext, s.out, fun a u e m t => by rw [upd_ne (show a ≠ P from fun z => by rw [z, n] at e; cases e)]; exact s.keep a u e m t⟩
theorem Good.hid {G : Gx} {h : Hm} {P : Addr} {xs ys : List V} (g : Good G π h H) (e : H P = some (.lst xs)) (n : P ∉ π) : Good G π h (upd H P (.lst ys)) := by
  refine ⟨g.len, g.nd, fun i a o h1 h2 => (g.ob i a o h1 h2).stepV (StepV.hid e) (upd_ne (show a ≠ P from fun z => n (by rw [← z]; exact List.mem_of_getElem? h1))), g.tabs_upd (.inr ⟨_, e, fun ⟨ps, z⟩ => (by cases z), fun c q z => (by unfold LamX.CodeO at z; cases z)⟩), g.tout⟩
theorem StepV.adopt {P : Addr} {xs : List V} (e : H P = some (.lst xs)) : StepV π H (π ++ [P]) H := by
  refine ⟨⟨[P], rfl⟩, fun a zs h n => ⟨h, fun m => ?_⟩, fun a o zs h n => ⟨h, fun m => ?_⟩⟩
  · rcases List.mem_append.mp m with m | m
    · exact n m
    · rw [List.mem_singleton] at m
      rw [m, e] at h
      cases h
  · rcases List.mem_append.mp m with m | m
    · exact n m
    · rw [List.mem_singleton] at m
      rw [m, e] at h
      cases h
theorem Step.adopt {P : Addr} (s : Step π H π' H') (n : H P = none) : Step π H (π' ++ [P]) H' := by
  obtain ⟨m, e⟩ := s.ext
  refine ⟨⟨m ++ [P], by rw [e, List.append_assoc]⟩, fun a o h k t z => ?_, s.keep⟩
  rcases List.mem_append.mp z with z | z
  · exact s.out a o h k t z
  · rw [List.mem_singleton] at z
    rw [z, n] at h
    cases h
theorem Good.adopt {G : Gx} {h : Hm} {P : Addr} {ds : List D} {xs : List V} (g : Good G π h H) (e : H P = some (.lst xs)) (n : P ∉ π) (q : DVs G.K π H ds xs) : Good G (π ++ [P]) (h ++ [.lst ds]) H := by
  have s : StepV π H (π ++ [P]) H := StepV.adopt e
  refine ⟨by rw [List.length_append, List.length_append, g.len] <;> rfl, ?_, fun i b v e1 e2 => ?_, g.tabs, fun p hp m => ?_⟩
  · rw [List.nodup_append]
    refine ⟨g.nd, by simp, fun x hx y hy z => ?_⟩
    rw [List.mem_singleton] at hy
    rw [z, hy] at hx
    exact n hx
  · by_cases hi : i < π.length
    · rw [List.getElem?_append_left hi] at e1
      rw [List.getElem?_append_left (by rw [← g.len]; exact hi)] at e2
      exact (g.ob i b v e1 e2).stepV s rfl
    · have h1 := (List.getElem?_eq_some_iff.mp e1).1
      have hi' : i = π.length := by
        rw [List.length_append, List.length_singleton] at h1
        omega
      subst hi'
      rw [List.getElem?_append_right (Nat.le_refl _), Nat.sub_self] at e1
      rw [List.getElem?_append_right (by rw [g.len]; exact Nat.le_refl _), g.len, Nat.sub_self] at e2
      have e1' : P = b := Option.some.inj e1
      have e2' : O.lst ds = v := Option.some.inj e2
      subst e1' e2'
      exact ⟨xs, e, q.stepV s _ _⟩
  · rcases List.mem_append.mp m with m | m
    · exact g.tout p hp m
    · rw [List.mem_singleton] at m
      obtain ⟨ps, z⟩ := tab_at (g.tabs p hp)
      rw [m, e] at z
      cases z
theorem EnvOk.stepV {G : Gx} {env : Ev} {σ : L2.St} (s : StepV π H π' H') (e : EnvOk G π H env σ) : EnvOk G π' H' env σ := ⟨e.len, fun i d q => by
  obtain ⟨v, h1, h2⟩ := e.get i d q
  exact ⟨v, h1, h2.stepV s _ _⟩⟩
end

def wipeE (env : Ev) : List Nat → Ev
  | [] => env
  | v :: vs => (wipeE env vs).set v none
theorem EnvOk.wipe {G : Gx} {π : List Addr} {H : Hp} {env : Ev} {σ : L2.St} (e : EnvOk G π H env σ) : ∀ vs : List Nat, EnvOk G π H (wipeE env vs) (wipe σ vs)
  | [] => e
  | v :: vs => (EnvOk.wipe e vs).gone v
theorem wipe_len (σ : L2.St) : ∀ vs : List Nat, (wipe σ vs).length = σ.length := wipe_length σ
theorem wipe_get {σ : L2.St} {i : Nat} : ∀ {vs : List Nat}, i ∈ vs → i < σ.length → (wipe σ vs)[i]? = some none
  | v :: vs, m, l => by
    unfold wipe
    by_cases h : i = v
    · subst h
      rw [List.getElem?_set_self (by rw [wipe_length]; exact l)]
    · rw [List.getElem?_set_ne (Ne.symm h)]
      exact wipe_get ((List.mem_cons.mp m).resolve_left h) l
theorem wipe_set {σ : L2.St} {i : Nat} {x : Option V} {vs : List Nat} (m : i ∈ vs) : wipe (σ.set i x) vs = wipe σ vs := by
  apply List.ext_getElem?
  intro j
  by_cases hj : j ∈ vs
  · by_cases hl : j < σ.length
    · rw [wipe_get hj hl, wipe_get hj (by rw [List.length_set]; exact hl)]
    · rw [List.getElem?_eq_none (by rw [wipe_length, List.length_set]; omega), List.getElem?_eq_none (by rw [wipe_length]; omega)]
  · rw [wipe_out hj, wipe_out hj, List.getElem?_set_ne (show i ≠ j from fun z => hj (by rw [← z]; exact m))]
theorem wipe_wipe {σ : L2.St} : ∀ {vs ws : List Nat}, (∀ v ∈ vs, v ∈ ws) → wipe (wipe σ vs) ws = wipe σ ws
  | [], _, _ => rfl
  | v :: vs, ws, h => by
    show wipe ((wipe σ vs).set v none) ws = _
    rw [wipe_set (h v List.mem_cons_self), wipe_wipe fun u hu => h u (List.mem_cons_of_mem _ hu)]
/-- as tG, the slots known outside vs -/
def tGw (G : Gx) (W : WX) (vs : List Nat) (g : Gt) : TG := fun v σ H Q => ∃ π env h d, S G π env h σ H ∧ DV G.K π H d v ∧ PostS G W (nxO fun σ' H' => wipe σ' vs = wipe σ vs → Q σ' H') π H (g d env h)
def tGsw (G : Gx) (W : WX) (vs : List Nat) (g : Gts) : TGs := fun us σ H Q => ∃ π env h ds, S G π env h σ H ∧ DVs G.K π H ds us ∧ PostS G W (nxO fun σ' H' => wipe σ' vs = wipe σ vs → Q σ' H') π H (g ds env h)
abbrev Gw (X : Cx) (T : List (Addr × Str)) (W : WX) (vs : List Nat) (e : Expr) (g : Gt) : Prop := PG X e (tGw (gx X T) W vs g)
abbrev Gsw (X : Cx) (T : List (Addr × Str)) (W : WX) (vs : List Nat) (e : List Expr) (g : Gts) : Prop := PGs X e (tGsw (gx X T) W vs g)
section
variable {X : Cx} {T : List (Addr × Str)} {W : WX} {vs : List Nat} {e : Expr} {es : List Expr} {g : Gt} {r : Gts} {pos : Pos}
theorem gw_name (i : Nat) {x : Str} (hN : X.N.Nodup) (hi : X.N[i]? = some x := by rfl) (hx : Loc X.env.scope x := by first | exact .inl rfl | exact .inr rfl) (hf : X.fn x = true ∨ X.env.scope.names.lookup x = some .local := by first | exact .inl rfl | exact .inr rfl | assumption) (hm : i ∈ vs := by decide) : Gw X T W vs (.Name x pos) (gN i) :=
  PG.of (pg_name hN hi hx hf) fun v σ H Q ⟨π, env, h, d, s, dv, p⟩ => p π _ H Step.refl ⟨s.good, s.env.set dv i⟩ (wipe_set hm)
theorem gsw_nil : Gsw X T W vs [] gsNil := PGs.of pgs_nil fun v σ H Q ⟨π, env, h, ds, s, dv, p⟩ => by
  cases ds with
  | nil => exact ⟨dv, p π σ H Step.refl s rfl⟩
  | cons d ds => exact p.elim
theorem gsw_cons (h1 : Gw X T W vs e g) (h2 : Gsw X T W vs es r) (hs : (assignEach (e :: es) X.env).map (·.2) = assign e X.env :: (assignEach es X.env).map (·.2) := by rfl) : Gsw X T W vs (e :: es) (gsCons g r) := PGs.of (pgs_cons h1 h2 hs) fun v σ H Q ⟨π, env, h, ds, s, dv, p⟩ => by
  cases ds with
  | nil => exact p.elim
  | cons d ds =>
    obtain ⟨v, us, rfl, d1, d2⟩ := dv
    refine ⟨v, us, rfl, π, env, h, d, s, d1, ?_⟩
    have p' : PostS (gx X T) W (nxO fun σ' H' => wipe σ' vs = wipe σ vs → Q σ' H') π H ((g d env h).then (r ds)) := p
    generalize g d env h = z at p' ⊢
    cases z with
    | next env' h' => exact fun π2 σ2 H2 s2 x e => ⟨π2, env', h', ds, x, d2.step s2 _ _, (PostS.step s2 p').mono (fun σ3 H3 z e2 => z (e2.trans e)) (fun _ _ z => z) (fun _ _ z => z) (fun _ _ z => z)⟩
    | ret d h => exact p'
    | brk env h => exact p'
    | cont env h => exact p'
    | exn y env h => exact p'
    | bad => exact p'
theorem gw_tup {k n : Nat} (hc : X.calm = true) (hr : Gsw X T W vs es r) (hn : (assignEach es X.env).length = n := by rfl) (hst : (assignEach es X.env).findIdx? (·.1) = none := by rfl) : Gw X T W vs (.Tuple es k pos) (gT n r) :=
  PG.of (pg_tup hc hr hn hst) fun v σ H Q ⟨π, env, h, d, s, dv, p⟩ => by
    unfold gT at p
    split at p
    · obtain ⟨a, xs, rfl, t, q⟩ := dv
      split at p
      · rename_i hl
        exact ⟨a, xs, rfl, t.sq, by rw [q.len]; exact hl, π, env, h, _, s, q, p⟩
      · exact p.elim
    · exact p.elim
theorem gw_lst {k n : Nat} (hc : X.calm = true) (hr : Gsw X T W vs es r) (hn : (assignEach es X.env).length = n := by rfl) (hst : (assignEach es X.env).findIdx? (·.1) = none := by rfl) : Gw X T W vs (.Tuple es k pos) (gL n r) :=
  PG.of (pg_lst hc hr hn hst) fun v σ H Q ⟨π, env, h, d, s, dv, p⟩ => by
    unfold gL at p
    split at p
    · obtain ⟨a, qa, rfl⟩ := dv
      split at p
      · rename_i e0
        obtain ⟨xs, ha, q⟩ := s.good.lst e0 qa
        split at p
        · rename_i hl
          exact ⟨a, xs, rfl, SqL.of ha, by rw [q.len]; exact hl, π, env, h, _, s, q, p⟩
        · exact p.elim
      · exact p.elim
    · exact p.elim
end

def lcL (gs : List (Nat × O)) (g : Gt) (t : Ev → Hm → R Bool) (e : Ev → Hm → R D) (env : Ev) : List D → Hm → R (List D)
  | [], h => if gdOk gs h = true then .ok [] h else .bad
  | d :: ds, h => if gdOk gs h = true then (match g d env h with
      | .next e1 h1 => (match t e1 h1 with
        | .ok true h2 => (match e e1 h2 with
          | .ok y h3 => (match lcL gs g t e env ds h3 with
            | .ok ys h4 => .ok (y :: ys) h4
            | _ => .bad)
          | _ => .bad)
        | .ok false h2 => lcL gs g t e env ds h2
        | _ => .bad)
      | _ => .bad) else .bad
def mLc (vs : List Nat) (m : Ev → Hm → R Itr) (g : Gt) (t : Ev → Hm → R Bool) (e : Ev → Hm → R D) : Ev → Hm → R D := fun env h => (m env h).bind fun it h1 => if it.1.length ≤ 16777216 then (match lcL it.2 g t e (wipeE env vs) it.1 h1 with
  | .ok ys h2 => .ok (.ref h2.length) (h2 ++ [.lst ys])
  | _ => .bad) else .bad
def tYesM : Ev → Hm → R Bool := fun _ h => .ok true h
def WF : WX := fun _ _ _ _ => False
abbrev Tsm (X : Cx) (T : List (Addr × Str)) (W : WX) (e : List Expr) (m : Ev → Hm → R Bool) : Prop := PTs X e (tB' (gx X T) W m)
theorem tsm_nil {X : Cx} {T : List (Addr × Str)} {W : WX} : Tsm X T W [] tYesM := ⟨fun pins s σ H Q I ⟨π, env, h, x, p⟩ => pts_nil.run pins s σ H Q I (p π H Step.refl x.good)⟩
theorem tsm_one {X : Cx} {T : List (Addr × Str)} {W : WX} {c : Expr} {t : Ev → Hm → R Bool} (h : Tm X T W c t) : Tsm X T W [c] t := pts_one h
theorem lc_of {G : Gx} {W : WX} {vs : List Nat} {m : Ev → Hm → R Itr} {g : Gt} {t : Ev → Hm → R Bool} {e : Ev → Hm → R D} {σ : L2.St} {H : Hp} {Q : VK} (p : tE G W (mLc vs m g t e) σ H Q) : tLc (tI G W m) (tGw G WF vs g) (tB' G WF t) (tE G WF e) vs σ H Q := by
  obtain ⟨π, env, h, s, p⟩ := p
  refine ⟨π, env, h, s, p.bind.mono fun π1 H1 h1 it s1 g1 p1 J w P hP => ?_⟩
  by_cases hlen : it.1.length ≤ 16777216
  · rw [if_pos hlen] at p1
    cases hr : lcL it.2 g t e (wipeE env vs) it.1 h1 with
    | exn x h' => rw [hr] at p1; exact p1.elim
    | bad => rw [hr] at p1; exact p1.elim
    | ok ys hF =>
      rw [hr] at p1
      have p1' : Post G W π1 σ H1 (R.ok (D.ref hF.length) (hF ++ [O.lst ys])) (fun π' H' _ d => ∀ v, DV G.K π' H' d v → Q v H') := p1
      have eW : EnvOk G π1 H1 (wipeE env vs) (wipe σ vs) := (s.env.step s1).wipe vs
      refine ⟨fun i n H' => i + n = it.1.length ∧ ∃ π' h' acc rest xs, Step π1 H1 π' H' ∧ Good G π' h' H' ∧ EnvOk G π' H' (wipeE env vs) (wipe σ vs) ∧ H' P = some (.lst xs) ∧ P ∉ π' ∧ DVs G.K π' H' acc xs ∧ acc.length ≤ i ∧ acc ++ rest = ys ∧ lcL it.2 g t e (wipeE env vs) (it.1.drop i) h' = .ok rest hF,
        ⟨it.1.length, by simp, π1, h1, [], ys, [], Step.other g1 hP, g1.other hP, eW.step (Step.other g1 hP), upd_same, g1.free hP, rfl, Nat.le_refl _, rfl, by rw [List.drop_zero]; exact hr⟩, ?_⟩
      rintro i n H2 ⟨hin, π2, h2, acc, rest, xs, st2, g2, e2, hx2, n2, da, la, eq, run⟩
      by_cases hi : i < it.1.length
      · rw [List.drop_eq_getElem_cons hi] at run
        unfold lcL at run
        by_cases hk : gdOk it.2 h2 = true
        · rw [if_pos hk] at run
          refine .inr ⟨w.go i π2 h2 H2 st2 g2 hk hi, fun H' => (i + 1) + (n - 1) = it.1.length ∧ ∃ π' h' acc rest xs, Step π1 H1 π' H' ∧ Good G π' h' H' ∧ EnvOk G π' H' (wipeE env vs) (wipe σ vs) ∧ H' P = some (.lst xs) ∧ P ∉ π' ∧ DVs G.K π' H' acc xs ∧ acc.length ≤ i + 1 ∧ acc ++ rest = ys ∧ lcL it.2 g t e (wipeE env vs) (it.1.drop (i + 1)) h' = .ok rest hF, fun H' z => ⟨n - 1, by omega, z⟩, fun x H' y => ?_⟩
          obtain ⟨s3, g3, d, ed, dv⟩ := w.yld i π2 h2 H2 x H' st2 g2 hk hi y
          rw [List.getElem?_eq_getElem hi] at ed
          cases ed
          have np : ∀ ps, HO.lst xs ≠ .tbl ps := fun ps z => by cases z
          refine ⟨π2, wipeE env vs, h2, _, ⟨g3, e2.step s3⟩, dv, ?_⟩
          generalize g (it.1[i]) (wipeE env vs) h2 = z at run ⊢
          cases z with
          | next e4 h4 =>
            intro π4 σ4 H4 s4 x4 hw4
            have hw4' : wipe σ4 vs = wipe σ vs := hw4.trans (wipe_wipe fun v hv => hv)
            refine ⟨hw4', π4, e4, h4, x4, ?_⟩
            simp only at run
            cases ht : t e4 h4 with
            | exn x h' => rw [ht] at run; cases run
            | bad => rw [ht] at run; cases run
            | ok k h5 =>
              rw [ht] at run
              intro π5 H5 s5 g5
              have s35 := (s3.trans s4).trans s5
              have hx5 : H5 P = some (.lst xs) := s35.keep P _ hx2 n2 np
              have n5 : P ∉ π5 := s35.out P _ hx2 n2 np
              cases k with
              | false =>
                refine iteF ⟨by omega, π5, h5, acc, rest, xs, st2.trans s35, g5, (e2.step s35), hx5, n5, da.step s35 _ _, by omega, eq, run⟩
              | true =>
                refine iteT ⟨π5, e4, h5, x4.step s5 g5, ?_⟩
                simp only at run
                cases he : e e4 h5 with
                | exn x h' => rw [he] at run; cases run
                | bad => rw [he] at run; cases run
                | ok y h6 =>
                  rw [he] at run
                  simp only at run
                  cases hr2 : lcL it.2 g t e (wipeE env vs) (it.1.drop (i + 1)) h6 with
                  | exn x h' => rw [hr2] at run; cases run
                  | bad => rw [hr2] at run; cases run
                  | ok ys2 h7 =>
                    rw [hr2] at run
                    simp only [R.ok.injEq] at run
                    obtain ⟨r1, r2⟩ := run
                    subst r1 r2
                    intro π6 H6 s6 g6 v dy
                    have s36 := s35.trans s6
                    have hx6 : H6 P = some (.lst xs) := s36.keep P _ hx2 n2 np
                    have n6 : P ∉ π6 := s36.out P _ hx2 n2 np
                    have sv : StepV π6 H6 π6 (upd H6 P (.lst (xs ++ [v]))) := StepV.hid hx6
                    have da6 := da.step s36 _ _
                    refine ⟨xs, hx6, szl' (by rw [da6.len]; omega), by omega, π6, h6, acc ++ [y], ys2, xs ++ [v], (st2.trans s36).hide hP, g6.hid hx6 n6, (e2.step s36).stepV sv, upd_same, n6, (da6.snoc dy).stepV sv _ _, by rw [List.length_append, List.length_singleton]; omega, by rw [List.append_assoc]; exact eq, hr2⟩
          | ret d h => cases run
          | brk env h => cases run
          | cont env h => cases run
          | exn y env h => cases run
          | bad => cases run
        · rw [if_neg hk] at run
          cases run
      · have hi' : i = it.1.length := by omega
        rw [List.drop_of_length_le (by omega)] at run
        unfold lcL at run
        by_cases hk : gdOk it.2 h2 = true
        · rw [if_pos hk] at run
          simp only [R.ok.injEq] at run
          obtain ⟨r1, r2⟩ := run
          subst r1 r2
          rw [List.append_nil] at eq
          subst eq
          refine .inl ⟨w.stop i π2 h2 H2 st2 g2 hk hi', p1' (π2 ++ [P]) H2 (st2.adopt hP) (g2.adopt hx2 n2 da) _ ⟨P, ?_, rfl⟩⟩
          rw [List.getElem?_append_right (by rw [g2.len]; exact Nat.le_refl _), g2.len, Nat.sub_self] <;> rfl
        · rw [if_neg hk] at run
          cases run
  · rw [if_neg hlen] at p1
    exact p1.elim
section
variable {X : Cx} {T : List (Addr × Str)} {W : WX} {elt tg iter : Expr} {ifs : List Expr} {scope : Scope} {pos : Pos} {m : Ev → Hm → R Itr} {g : Gt} {t : Ev → Hm → R Bool} {e : Ev → Hm → R D}
theorem em_lc (own : List (Str × Nat)) (hc : X.calm = true) (hN : X.N.Nodup) (hi : Im X T W tg iter m) (ok : BlkOk X.N X.env.scope scope own)
    (hg : ∀ (s : Shared) (H : Hp) (C : Addr) (cl : List (Str × Addr)) (fp : List Addr), Gw (X.blk s H scope (compEnvC scope cl C X.env) fp) T WF (own.map (·.2)) tg g)
    (ht : ∀ (s : Shared) (H : Hp) (C : Addr) (cl : List (Str × Addr)) (fp : List Addr), Tsm (X.blk s H scope (compEnvC scope cl C X.env) fp) T WF ifs t)
    (he : ∀ (s : Shared) (H : Hp) (C : Addr) (cl : List (Str × Addr)) (fp : List Addr), Em (X.blk s H scope (compEnvC scope cl C X.env) fp) T WF elt e) (hs : ∀ x, foldedSetIterable iter X.env x = pure x := by intro _; rfl) :
    Em X T W (.ListComp elt [⟨tg, iter, ifs, 0⟩] scope pos) (mLc (own.map (·.2)) m g t e) :=
  PE.of (pe_lc hc hN hi ok hg ht he hs) fun σ H Q p => lc_of p
/-- name = [..] on one line -/
theorem sm_setLc (i : Nat) (own : List (Str × Nat)) {y : Str} {py spos : Pos} (hc : X.calm = true) (hN : X.N.Nodup) (hi : Im X T W tg iter m) (ok : BlkOk X.N X.env.scope scope own)
    (hg : ∀ (s : Shared) (H : Hp) (C : Addr) (cl : List (Str × Addr)) (fp : List Addr), Gw (X.blk s H scope (compEnvC scope cl C X.env) fp) T WF (own.map (·.2)) tg g)
    (ht : ∀ (s : Shared) (H : Hp) (C : Addr) (cl : List (Str × Addr)) (fp : List Addr), Tsm (X.blk s H scope (compEnvC scope cl C X.env) fp) T WF ifs t)
    (he : ∀ (s : Shared) (H : Hp) (C : Addr) (cl : List (Str × Addr)) (fp : List Addr), Em (X.blk s H scope (compEnvC scope cl C X.env) fp) T WF elt e)
    (hsw : swapsWith (.ListComp elt [⟨tg, iter, ifs, 0⟩] scope pos) (some (.Name y py)) spos.line X.env = pure true)
    (hy : X.N[i]? = some y := by rfl) (hyl : X.env.scope.names.lookup y = some .local := by rfl) (hs : ∀ x, foldedSetIterable iter X.env x = pure x := by intro _; rfl) :
    Sm X T W (.Assign [.Name y py] (.ListComp elt [⟨tg, iter, ifs, 0⟩] scope pos) spos) (sAsg (gN i) (mLc (own.map (·.2)) m g t e)) :=
  PS.of (ps_setLc hc hN hy hyl hsw hi ok hg ht he hs) fun D σ H ⟨π, env, h, s, p⟩ => lc_of (W := W) ⟨π, env, h, s, (PostS.bind s p).mono fun π1 H1 h1 d s1 g1 p1 v dv => p1 π1 _ H1 Step.refl ⟨g1, (s.step s1 g1).env.set dv i⟩⟩
end
end MM

namespace MM
open PySem L2

def startE (n : Nat) (ds : List D) : Ev := ds.map some ++ List.replicate (n - ds.length) none
def callM (n p : Nat) (m : Ev → Hm → SR) : Fc := fun ds h => if ds.length = p then (match m (startE n ds) h with
  | .next _ h' => .ok .non h'
  | .ret d h' => .ok d h'
  | .exn x _ h' => .exn x h'
  | _ => .bad) else .bad
/-- a def's promise: what the run of fn says -/
def spM (G : Gx) (fn : Fc) (n : Nat) : Sp := fun vs H Q E => ∃ π h ds, Good G π h H ∧ DVs G.K π H ds vs ∧ ds.length = n ∧ Post G (fun cls d _ H' => E cls d H') π [] H (fn ds h) fun π' H' _ d => ∀ v, DV G.K π' H' d v → Q v H'
structure FunM (P : Program) (w : World) (K : PySem.W.Frag) (mg : Str → Option Value) (base : Heap) (T : List (Addr × Str)) (k : Nat) (f : Addr) (p : Nat) (fn : Fc) : Prop where
  ex : ∃ fd ps, ps.length = p ∧ FnOk P w K mg base (L2.CX P w) k f fd ps (spM ⟨K, mg, T⟩ fn p) ∧ Binds K fd ps []
  kp : PySem.W.keepIn K (.ref f) = true
section
variable {P : Program} {w : World} {K : PySem.W.Frag} {mg : Str → Option Value} {base : Heap} {T : List (Addr × Str)}
theorem FunM.mono {j k : Nat} {f : Addr} {p : Nat} {fn : Fc} (F : FunM P w K mg base T j f p fn) (h : j ≤ k) : FunM P w K mg base T k f p fn := by
  obtain ⟨⟨fd, ps, e, F1, F2⟩, kp⟩ := F
  exact ⟨⟨fd, ps, e, F1.mono h, F2⟩, kp⟩
theorem envOk_start {G : Gx} {π : List Addr} {H : Hp} {N : List Str} {ds : List D} {vs : List V} (q : DVs G.K π H ds vs) : EnvOk G π H (startE N.length ds) (L2.start N vs) := by
  unfold startE L2.start
  refine ⟨by rw [List.length_append, List.length_append, List.length_map, List.length_map, List.length_replicate, List.length_replicate, q.len], fun i d e => ?_⟩
  by_cases hi : i < ds.length
  · rw [List.getElem?_append_left (by rw [List.length_map]; exact hi), List.getElem?_map, List.getElem?_eq_getElem hi] at e
    have e' : ds[i] = d := Option.some.inj (Option.some.inj e)
    subst e'
    obtain ⟨v, h1, h2⟩ := q.get (List.getElem?_eq_getElem hi)
    exact ⟨v, by rw [List.getElem?_append_left (by rw [List.length_map, q.len]; exact hi), List.getElem?_map, h1] <;> rfl, h2⟩
  · rw [List.getElem?_append_right (by rw [List.length_map]; omega)] at e
    have := List.mem_of_getElem? e
    rw [List.mem_replicate] at this
    cases this.2
theorem postS_fn {G : Gx} {π : List Addr} {H : Hp} {E : XK} {Q : VK} {n p : Nat} {m : Ev → Hm → SR} {ds : List D} {h : Hm} (q : Post G (fun cls d _ H' => E cls d H') π [] H (callM n p m ds h) fun π' H' _ d => ∀ v, DV G.K π' H' d v → Q v H') :
    PostS G (fun cls d _ H' => E cls d H') { nx := fun _ H' => Q .non H', rt := Q } π H (m (startE n ds) h) := by
  unfold callM at q
  by_cases hl : ds.length = p
  · rw [if_pos hl] at q
    generalize m (startE n ds) h = z at q ⊢
    cases z with
    | next env h => exact fun π2 σ2 H2 s2 x => q π2 H2 s2 x.good _ rfl
    | ret d h => exact fun π2 H2 v s2 x e => q π2 H2 s2 x _ e
    | brk env h => exact (show False from q).elim
    | cont env h => exact (show False from q).elim
    | exn y env h => exact fun π2 σ2 H2 cls d s2 x e => q π2 H2 cls d s2 x.good e
    | bad => exact q
  · rw [if_neg hl] at q
    exact q.elim
/-- THE RULE for a def -/
theorem def_m {x qual : Str} {params : Arguments} {body : List Stmt} {scope : Scope} {f : Addr} {fd : FuncData} {N ps : List Str} {k : Nat} {m : Ev → Hm → SR} (F : FunD K x qual params body scope [] [] f fd) (S : FnScope N ps scope)
    (hb : ∀ (kV doc pm : Value) (an : Option Addr) (cdv ct : Value) (us : List Value), us.length = ps.length → bindArgs (PySem.W.fnOf x qual params body scope .none kV doc pm an cdv ct) ⟨us, []⟩ = pure (ps.zip us))
    (hbody : ∀ (cdv : Value) (A : Around) (outer : List Env) (s : Shared) (H : Hp) (E : XK), Room k (cxOf (L2.CX P w) P w K mg base N qual scope f cdv A outer s H E).A → Takes (cxOf (L2.CX P w) P w K mg base N qual scope f cdv A outer s H E) (fun cls d _ H' => E cls d H') →
      PassesOwn (model P w) (cxOf (L2.CX P w) P w K mg base N qual scope f cdv A outer s H E).A (cxOf (L2.CX P w) P w K mg base N qual scope f cdv A outer s H E).env (cxOf (L2.CX P w) P w K mg base N qual scope f cdv A outer s H E).xe →
      Ssm (cxOf (L2.CX P w) P w K mg base N qual scope f cdv A outer s H E) T (fun cls d _ H' => E cls d H') body m) :
    FunM P w K mg base T (k + 1) f ps.length (callM N.length ps.length m) := by
  refine ⟨⟨fd, ps, rfl, ?_, F.bindsN hb⟩, F.kp⟩
  refine F.ok S (fun vs H Q E ⟨π, h, ds, g, q, hl, _⟩ => by rw [q.len]; exact hl) fun cdv A outer s H vs Q E hr ⟨π, h, ds, g, q, hl, p⟩ => ⟨_, hbody cdv A outer s H E hr (takes_of rfl rfl rfl rfl) (passes_of rfl), ?_⟩
  exact ⟨π, startE N.length ds, h, ⟨g, envOk_start q⟩, postS_fn p⟩
end

theorem takesF {X : Cx} : Takes X WF := takes0
section
variable {X : Cx} {T : List (Addr × Str)} {W : WX} {k j p : Nat} {f C : Addr} {fn : Fc} {x : Str} {pp pos apos : Pos} {e o : Expr} {es : List Expr} {mr : Ev → Hm → R (List D)} {mo : Ev → Hm → R D} {cn m : Str}
/-- a promise met -/
theorem sp_of {G : Gx} {π : List Addr} {σ : L2.St} {h : Hm} {H : Hp} {ds : List D} {vs : List V} {Q : VK} {n : Nat} (g : Good G π h H) (q : DVs G.K π H ds vs) (hl : ds.length = n) (p : Post G W π σ H (fn ds h) fun π' H' _ d => ∀ v, DV G.K π' H' d v → Q v H') : spM G fn n vs H Q (WE W σ) := by
  refine ⟨π, h, ds, g, q, hl, ?_⟩
  generalize fn ds h = z at p ⊢
  cases z with
  | ok a h' => exact p
  | exn x h' => exact p
  | bad => exact p
def mCallF (p : Nat) (fn : Fc) (mr : Ev → Hm → R (List D)) : Ev → Hm → R D := fun env h => (mr env h).bind fun ds h1 => if ds.length = p then fn ds h1 else .bad
theorem em_call (F : FunM X.prog X.w X.K X.mg X.base T j f p fn) (hr : Room k X.A) (hk : j ≤ k) (hg : Gl X x) (hm : X.mg x = some (.ref f)) (tk : Takes X W) (ha : Am X T W (e :: es) mr) (hdb : (x == ("__debug__" : Str)) = false := by rfl)
    (he : starEach (e :: es) X.env = (false, eval e X.env) :: starEach es X.env := by rfl) (hpl : (backTo pos (starEach es X.env)).any (·.1) = false := by rfl) : Em X T W (.Call (.Name x pp) (e :: es) [] pos) (mCallF p fn mr) := by
  obtain ⟨fd, ps, ep, F1, F2⟩ := F.ex
  refine PE.of (pe_callSD (dvs := []) (ds := []) (E := WE W) F1 (hr.mono hk) hg hm F.kp F2 .nil (fun σ => passAt tk σ) ha hdb he hpl) fun σ H Q ⟨π, env, h, s, q⟩ => ?_
  refine ⟨π, env, h, s, q.bind.mono fun π1 H1 h1 ds s1 g1 p1 vs dv => ?_⟩
  show spM _ fn p (vs ++ []) H1 Q (WE W σ)
  rw [List.append_nil]
  by_cases hl : ds.length = p
  · rw [if_pos hl] at p1
    exact sp_of g1 dv hl p1
  · rw [if_neg hl] at p1
    exact p1.elim
theorem em_call0 (F : FunM X.prog X.w X.K X.mg X.base T j f p fn) (hr : Room k X.A) (hk : j ≤ k) (hg : Gl X x) (hm : X.mg x = some (.ref f)) (tk : Takes X W) (hdb : (x == ("__debug__" : Str)) = false := by rfl) : Em X T W (.Call (.Name x pp) [] [] pos) (mCallF p fn mNil) := by
  obtain ⟨fd, ps, ep, F1, F2⟩ := F.ex
  refine ⟨fun pins s σ H Q I ⟨π, env, h, s0, q⟩ => ?_⟩
  refine wpAny_Call_Name_kw (ld_glob I hg hm ?_ hdb)
  refine PySem.W.callWith_K0 I.kIn F.kp (run_fnSD (us := []) (vs := []) (dvs := []) (ds := []) (E := WE W) F1 (hr.mono hk) F2 .nil (passAt tk σ) I .nil ?_)
  have q' : Post (gx X T) W π σ H (if ([] : List D).length = p then fn [] h else .bad) (fun π' H' _ d => ∀ v, DV (gx X T).K π' H' d v → Q v H') := q
  by_cases hl : ([] : List D).length = p
  · rw [if_pos hl] at q'
    exact sp_of (ds := []) s0.good rfl hl q'
  · rw [if_neg hl] at q'
    exact q'.elim
/-- o.m(..), o an instance of the class named cn -/
def mMethF (cn m : Str) (p : Nat) (fn : Fc) (mo : Ev → Hm → R D) (mr : Ev → Hm → R (List D)) : Ev → Hm → R D := fun env h => (mo env h).bind fun x h1 => match x with
  | .ref i => match h1[i]? with
    | some (.ins c fs) => if c = cn ∧ fs.lookup m = none then (mr env h1).bind fun ds h2 => if ds.length + 1 = p then fn (.ref i :: ds) h2 else .bad else .bad
    | _ => .bad
  | _ => .bad
theorem DPs.lookupN {K : PySem.W.Frag} {π : List Addr} {H : Hp} {f : Str} : ∀ {fs : List (Str × D)} {xs : List (Str × V)}, DPs K π H fs xs → fs.lookup f = none → xs.lookup f = none
  | [], _, h, _ => by rw [show _ = [] from h] <;> rfl
  | p :: ps, _, ⟨v, vs, e, h, q⟩, l => by
    obtain ⟨k, y⟩ := p
    rw [e]
    by_cases hk : f = k
    · have hb : (f == k) = true := beq_iff_eq.mpr hk
      simp only [List.lookup, hb] at l
      cases l
    · have hb : (f == k) = false := beq_eq_false_iff_ne.mpr hk
      simp only [List.lookup, hb] at l ⊢
      exact DPs.lookupN q l
theorem em_meth {pl : Sem Bool} (c : Cls X.K C) (hm : Meth X.K C m f) (F : FunM X.prog X.w X.K X.mg X.base T j f p fn) (hr : Room k X.A) (hk : j ≤ k) (hC : X.mg cn = some (.ref C)) (tk : Takes X W) (ho : Em X T W o mo) (ha : Am X T W (e :: es) mr)
    (hst : starEach (e :: es) X.env = (false, eval e X.env) :: starEach es X.env := by rfl) (hpl : (backTo pos (starEach es X.env)).any (·.1) = false := by rfl)
    (ht : eval (.Call (.Attribute o m apos) (e :: es) [] pos) X.env = (do
      let ov ← eval o X.env
      standAt apos.atName
      let (f, first) ← holding [ov] (getMethod ov m pl)
      callWith pos f first (backTo pos (starEach (e :: es) X.env)) (backToKw pos (keywordEach [] X.env))) := by rfl) :
    Em X T W (.Call (.Attribute o m apos) (e :: es) [] pos) (mMethF cn m p fn mo mr) := by
  obtain ⟨fd, ps, ep, F1, F2⟩ := F.ex
  refine ⟨fun pins s σ H Q I ⟨π, env, h, s0, q⟩ => ?_⟩
  refine PySem.W.methodCall_KW (pl := pl) (thn (ho.run pins s σ H (fun x H1 => ∃ a dx fs, x = V.ref a ∧ H1 a = some (.ins C dx fs) ∧ fs.lookup m = none ∧ tL (gx X T) W mr σ H1 fun vs H2 => spM (gx X T) fn p (x :: vs) H2 Q (WE W σ)) I ⟨π, env, h, s0, q.bind.mono fun π1 H1 h1 d s1 g1 p1 x dx => ?_⟩) fun u s1 ⟨x, H1, I1, rx, a, dx, fs, ex, ea, l, q⟩ => ?_) ht
  · split at p1
    · rename_i i
      obtain ⟨a, qa, rfl⟩ := dx
      split at p1
      · rename_i c' fs e0
        split at p1
        · rename_i hc
          obtain ⟨rfl, hlk⟩ := hc
          obtain ⟨C', dx, xs, m1, ha', q1⟩ := g1.obj e0 qa
          rw [show (gx X T).mg c' = some (.ref C) from hC] at m1
          cases m1
          refine ⟨a, dx, xs, rfl, ha', q1.lookupN hlk, π1, env, h1, s0.step s1 g1, p1.bind.mono fun π2 H2 h2 ds s2 g2 p2 vs dv => ?_⟩
          split at p2
          · rename_i hl
            exact sp_of (ds := .ref i :: ds) g2 ⟨_, _, rfl, ⟨a, s2.get qa, rfl⟩, dv⟩ hl p2
          · exact p2.elim
        · exact p1.elim
      · exact p1.elim
    · exact p1.elim
  · subst ex
    obtain rfl : u = Value.ref a := rx
    refine getmeth_ok I1 ea c hm l ?_
    refine PySem.W.callWith_K (first := [.ref a]) (h₀ := X.base) I.ok.mod.kin hm.kp (thn (ha.run pos pins s1 σ H1 _ I1 q) fun us s2 ⟨vs, H2, I2, r, q2⟩ => ⟨I2.kIn, ?_⟩) hst hpl
    exact run_fnSD (us := .ref a :: us) (vs := .ref a :: vs) (dvs := []) (ds := []) (E := WE W) F1 (hr.mono hk) F2 .nil (passAt tk σ) I2 (.cons rfl r) (by rw [List.append_nil]; exact q2)
theorem em_meth0 {pl : Sem Bool} (c : Cls X.K C) (hm : Meth X.K C m f) (F : FunM X.prog X.w X.K X.mg X.base T j f p fn) (hr : Room k X.A) (hk : j ≤ k) (hC : X.mg cn = some (.ref C)) (tk : Takes X W) (ho : Em X T W o mo)
    (ht : eval (.Call (.Attribute o m apos) [] [] pos) X.env = (do
      let ov ← eval o X.env
      standAt apos.atName
      let (f, first) ← holding [ov] (getMethod ov m pl)
      callWith pos f first (backTo pos (starEach [] X.env)) (backToKw pos (keywordEach [] X.env))) := by rfl) :
    Em X T W (.Call (.Attribute o m apos) [] [] pos) (mMethF cn m p fn mo mNil) := by
  obtain ⟨fd, ps, ep, F1, F2⟩ := F.ex
  refine ⟨fun pins s σ H Q I ⟨π, env, h, s0, q⟩ => ?_⟩
  refine PySem.W.methodCall_KW (pl := pl) (thn (ho.run pins s σ H (fun x H1 => ∃ a dx fs, x = V.ref a ∧ H1 a = some (.ins C dx fs) ∧ fs.lookup m = none ∧ spM (gx X T) fn p [x] H1 Q (WE W σ)) I ⟨π, env, h, s0, q.bind.mono fun π1 H1 h1 d s1 g1 p1 x dx => ?_⟩) fun u s1 ⟨x, H1, I1, rx, a, dx, fs, ex, ea, l, q⟩ => ?_) ht
  · split at p1
    · rename_i i
      obtain ⟨a, qa, rfl⟩ := dx
      split at p1
      · rename_i c' fs e0
        split at p1
        · rename_i hc
          obtain ⟨rfl, hlk⟩ := hc
          obtain ⟨C', dx, xs, m1, ha', q1⟩ := g1.obj e0 qa
          rw [show (gx X T).mg c' = some (.ref C) from hC] at m1
          cases m1
          refine ⟨a, dx, xs, rfl, ha', q1.lookupN hlk, ?_⟩
          have p2 : Post (gx X T) W π1 σ H1 (if ([] : List D).length + 1 = p then fn [.ref i] h1 else .bad) (fun π' H' _ d => ∀ v, DV (gx X T).K π' H' d v → Q v H') := p1
          split at p2
          · rename_i hl
            exact sp_of (ds := [.ref i]) g1 ⟨_, _, rfl, ⟨a, qa, rfl⟩, rfl⟩ hl p2
          · exact p2.elim
        · exact p1.elim
      · exact p1.elim
    · exact p1.elim
  · subst ex
    obtain rfl : u = Value.ref a := rx
    refine getmeth_ok I1 ea c hm l ?_
    exact PySem.W.callWith_K0 (first := [.ref a]) I1.kIn hm.kp (run_fnSD (us := [.ref a]) (vs := [.ref a]) (dvs := []) (ds := []) (E := WE W) F1 (hr.mono hk) F2 .nil (passAt tk σ) I1 (.cons rfl .nil) (by rw [List.append_nil]; exact q))
/-- C(..) of an own class with __init__ -/
def mMake (cn : Str) (p : Nat) (fn : Fc) (mr : Ev → Hm → R (List D)) : Ev → Hm → R D := fun env h => (mr env h).bind fun ds h1 => if ds.length + 1 = p then (match fn (.ref h1.length :: ds) (h1 ++ [.ins cn []]) with
  | .ok .non h2 => .ok (.ref h1.length) h2
  | .exn x h2 => .exn x h2
  | _ => .bad) else .bad
theorem run_makeS {pins : List (Addr × Obj)} {σ : L2.St} {H : Hp} {s : Shared} {Q : VK} {us : List Value} {vs : List V} {fd : FuncData} {ps : List Str} {sp : Sp} {E : XK} (M : Mk X.K C f) (F : FnOk X.prog X.w X.K X.mg X.base (L2.CX X.prog X.w) k f fd ps sp) (hr : Room (k + 1) X.A) (hb : Binds X.K fd ps [])
    (hx : PassesAt (L2.CX X.prog X.w) X σ E) (I : Inv X pins σ H s) (r : Vals vs us)
    (h : ∀ x dx, H x = none → H dx = none → dx ≠ x → sp (.ref x :: vs) (upd (upd H dx (.own x)) x (.ins C dx [])) (fun v H2 => v = .non ∧ Q (.ref x) H2) E) :
    wpAny (model X.prog X.w) X.A (call (.ref C) us) (EP X pins σ Q) X.xe s := by
  have hq := h (s.heap.objs.size + 1) s.heap.objs.size (I.hok.fresh (Nat.le_succ _)) (I.hok.fresh (Nat.le_refl _)) (Nat.ne_of_lt (Nat.lt_succ_self _))
  have I2 := Inv.made (C := C) I
  have r2 : Vals (V.ref (s.heap.objs.size + 1) :: vs) (Value.ref (s.heap.objs.size + 1) :: us) := .cons rfl r
  have hl : (Value.ref (s.heap.objs.size + 1) :: us ++ []).length = ps.length := by
    have e := r2.length
    rw [F.len _ _ _ _ hq] at e
    rw [List.append_nil]
    exact e.symm
  have hbb := hb _ (Value.ref (s.heap.objs.size + 1) :: us) I2.kIn hl
  rw [List.append_nil] at hbb
  refine wpAny_call (make_map (f := f) I.kIn M.makes M.init (beq_iff_eq.mp M.fn) (codeAny_mono (F.run _ X.stack _ _ ⟨Value.ref (s.heap.objs.size + 1) :: us, []⟩ (Value.ref (s.heap.objs.size + 1) :: us) _ _ E (hr.make C us [])
    (I2.env0.make C us []) hbb r2 hq) fun r s' hq' => ?_))
  cases r with
  | error e => exact hx pins _ _ e s' I2 hq'
  | ok fl =>
    cases fl with
    | ret u =>
      obtain ⟨v, H', I3, rv, ev, q3⟩ := I2.after hq'
      subst ev
      exact ⟨rv, ⟨V.ref (s.heap.objs.size + 1), H', I3, rfl, q3⟩⟩
    | next => exact False.elim hq'
    | brk => exact False.elim hq'
    | cont => exact False.elim hq'
theorem made_of {π : List Addr} {σ : L2.St} {h : Hm} {H : Hp} {ds : List D} {vs : List V} {Q : VK} (hC : X.mg cn = some (.ref C)) (g : Good (gx X T) π h H) (q : DVs X.K π H ds vs) (hl : ds.length + 1 = p)
    (pp : Post (gx X T) W π σ H (match fn (.ref h.length :: ds) (h ++ [.ins cn []]) with
      | .ok .non h2 => .ok (.ref h.length) h2
      | .exn x h2 => .exn x h2
      | _ => .bad) fun π' H' _ d => ∀ v, DV (gx X T).K π' H' d v → Q v H') : ∀ x dx, H x = none → H dx = none → dx ≠ x → spM (gx X T) fn p (.ref x :: vs) (upd (upd H dx (.own x)) x (.ins C dx [])) (fun v H2 => v = .non ∧ Q (.ref x) H2) (WE W σ) := by
  intro x dx nx nd ne
  have s1 := Step.other (o := .own x) g nd
  have g1 := g.other (o := .own x) nd
  have n1 : upd H dx (.own x) x = none := by rw [upd_ne (Ne.symm ne)]; exact nx
  have s2 := Step.new (u := .ins C dx []) g1 n1
  have g2 := g1.new (u := .ins C dx []) (o := .ins cn []) n1 ⟨C, dx, [], hC, upd_same, rfl⟩
  have s12 := s1.trans s2
  have ix : (π ++ [x])[h.length]? = some x := by
    rw [List.getElem?_append_right (by rw [g.len]; exact Nat.le_refl _), g.len, Nat.sub_self] <;> rfl
  refine ⟨π ++ [x], h ++ [.ins cn []], .ref h.length :: ds, g2, ⟨_, _, rfl, ⟨x, ix, rfl⟩, q.step s12 _ _⟩, hl, ?_⟩
  generalize fn (.ref h.length :: ds) (h ++ [.ins cn []]) = z at pp ⊢
  cases z with
  | ok a h' =>
    cases a <;> first
      | exact pp.elim
      | (intro π' H' s3 g3 v dv
         exact ⟨dv, pp π' H' (s12.trans s3) g3 _ ⟨x, s3.get ix, rfl⟩⟩)
  | exn y h' => exact fun π' H' cls d s3 g3 e => pp π' H' cls d (s12.trans s3) g3 e
  | bad => exact pp
theorem em_make (M : Mk X.K C f) (F : FunM X.prog X.w X.K X.mg X.base T j f p fn) (hr : Room k X.A) (hk : j + 1 ≤ k) (hg : Gl X cn) (hC : X.mg cn = some (.ref C)) (tk : Takes X W) (ha : Am X T W (e :: es) mr) (hdb : (cn == ("__debug__" : Str)) = false := by rfl)
    (he : starEach (e :: es) X.env = (false, eval e X.env) :: starEach es X.env := by rfl) (hpl : (backTo pos (starEach es X.env)).any (·.1) = false := by rfl) : Em X T W (.Call (.Name cn pp) (e :: es) [] pos) (mMake cn p fn mr) := by
  obtain ⟨fd, ps, ep, F1, F2⟩ := F.ex
  refine ⟨fun pins s σ H Q I ⟨π, env, h, s0, q⟩ => ?_⟩
  refine wpAny_Call_Name_kw (ld_glob I hg hC ?_ hdb)
  refine PySem.W.callWith_K (h₀ := X.base) I.ok.mod.kin M.kp (thn (ha.run pos pins s σ H (fun vs H1 => ∀ x dx, H1 x = none → H1 dx = none → dx ≠ x → spM (gx X T) fn p (.ref x :: vs) (upd (upd H1 dx (.own x)) x (.ins C dx [])) (fun v H2 => v = .non ∧ Q (.ref x) H2) (WE W σ)) I
    ⟨π, env, h, s0, q.bind.mono fun π1 H1 h1 ds s1 g1 p1 vs dv => ?_⟩) fun us s1 ⟨vs, H1, I1, r, q⟩ => ⟨I1.kIn, ?_⟩) he hpl
  · split at p1
    · rename_i hl
      exact made_of hC g1 dv hl p1
    · exact p1.elim
  · exact run_makeS M F1 (hr.mono hk) F2 (passAt tk σ) I1 r q
theorem em_make0 (M : Mk X.K C f) (F : FunM X.prog X.w X.K X.mg X.base T j f p fn) (hr : Room k X.A) (hk : j + 1 ≤ k) (hg : Gl X cn) (hC : X.mg cn = some (.ref C)) (tk : Takes X W) (hdb : (cn == ("__debug__" : Str)) = false := by rfl) : Em X T W (.Call (.Name cn pp) [] [] pos) (mMake cn p fn mNil) := by
  obtain ⟨fd, ps, ep, F1, F2⟩ := F.ex
  refine ⟨fun pins s σ H Q I ⟨π, env, h, s0, q⟩ => ?_⟩
  refine wpAny_Call_Name_kw (ld_glob I hg hC ?_ hdb)
  refine PySem.W.callWith_K0 I.kIn M.kp (run_makeS (us := []) (vs := []) M F1 (hr.mono hk) F2 (passAt tk σ) I .nil ?_)
  have q' : Post (gx X T) W π σ H (if ([] : List D).length + 1 = p then (match fn (.ref h.length :: []) (h ++ [.ins cn []]) with
    | .ok .non h2 => .ok (.ref h.length) h2
    | .exn x h2 => .exn x h2
    | _ => .bad) else .bad) (fun π' H' _ d => ∀ v, DV (gx X T).K π' H' d v → Q v H') := q
  by_cases hl : ([] : List D).length + 1 = p
  · rw [if_pos hl] at q'
    exact made_of (ds := []) hC s0.good rfl hl q'
  · rw [if_neg hl] at q'
    exact q'.elim
/-- raise C('..') of an own class without own __init__ -/
def sRaise (cn : Str) : Ev → Hm → SR := fun env h => .exn ⟨cn, []⟩ env h
theorem sm_raise {bmB : List Value} {B newId initId : String} {msg : Str} {jj : Nat} {p2 : Pos} (hc : X.calm = true) (tk : Takes X W) (F : ExcBaseFacts B newId initId bmB) (q : PySem.W.excIn X.K C bmB newId = true) (gC : X.mg cn = some (.ref C)) (kC : PySem.W.keepIn X.K (.ref C) = true) (r : Raises X (.ref C)) (hg : Gl X cn)
    (hdb : (cn == ("__debug__" : Str)) = false := by rfl) : Sm X T W (.Raise (some (.Call (.Name cn pp) [.Constant (.str msg) jj p2] [] pos)) none apos) (sRaise cn) :=
  PS.of (ps_raise hc tk (pmk_own F q gC kC r hg hdb)) fun D σ H ⟨π, env, h, s, p⟩ => p π σ H _ _ Step.refl s ⟨C, gC, rfl, rfl⟩
end
end MM

namespace MM
open PySem L2 PyProof.Rows

def rSumT (K : PySem.W.Frag) : List V → Hp → VK → Prop := fun vs H Q => ∃ (a : Addr) (ns : List Int), vs = [V.ref a] ∧ SqT K H a (ns.map V.int) ∧ Q (.int ns.sum) H
theorem sum_tup_raw {prog : Program} {w : World} {A : Around} {E : Value → Shared → Prop} {s : Shared} {l : Addr} {its : List Value} {ns : List Int} {Q : Value → Shared → Prop} (hh : A.handled = none) (hl : IsTup s.heap l its.toArray) (hi : IntsAre its ns)
    (h : ∀ h' tk t', (∀ b o, s.heap.get? b = some o → h'.get? b = some o) → Q (.int ns.sum t') { s with heap := h', toks := tk }) : wpAny (model prog w) A (call (.builtin "sum") [.ref l]) Q E s := by
  obtain ⟨xs, e⟩ := hi.allInts.items
  have hn : numsOf (intItems xs).toList = ns := by rw [← e]; exact hi.numsOf
  rw [nums_intItems] at hn
  rw [e] at hl
  have hlt : l < s.heap.objs.size := by obtain ⟨_, e, _⟩ := hl; exact Heap.lt_size e
  refine call_sum_walkG (wpAny_pyIter_tuple (show s.heap.IsTuple l (intItems xs) from hl) ?_)
  refine ⟨s.heap.objs.size, _, _, _, _, _, numAt xs, rfl, Walks.tuple (A := A.in1) hh s.heap.objs.size l (Nat.ne_of_lt hlt) (intItems xs), ⟨⟨_, Heap.get?_push_size _ rfl, rfl, rfl⟩, ?_⟩, fun b hb => ?_, (fun _ _ => intItems_at), fun h' tk t' hk => ?_⟩
  · exact (show s.heap.IsTuple l (intItems xs) from hl).at fun o e => Heap.get?_push_of_some _ e
  · show b < (s.heap.push _).objs.size
    rw [Heap.size_push]
    rcases List.mem_cons.mp hb with rfl | hb
    · exact Nat.lt_succ_self _
    · rcases List.mem_cons.mp hb with rfl | hb
      · exact Nat.lt_succ_of_lt hlt
      · cases hb
  · have z := h h' tk t' (fun b o e => hk b o (by
      intro m
      rw [List.mem_singleton] at m
      subst m
      exact absurd (Heap.lt_size e) (Nat.lt_irrefl _)) (Heap.get?_push_of_some _ e))
    rw [show ns.sum = preSum (numAt xs) (intItems xs).size from by rw [preSum_eq, List.take_of_length_le (by simp [intItems]), hn]] at z
    exact z
theorem cr_sumT {X : Cx} (hc : X.calm = true) : CallR X (.builtin "sum") (rSumT X.K) := by
  intro pins s σ H vs us Q I r h
  obtain ⟨a, ns, rfl, hs, q⟩ := h
  obtain ⟨its, rv, hl, _⟩ := I.tuple hs
  rw [Vals.ref1 r]
  exact sum_tup_raw (I.ok.hd hc) hl rv.ints fun h' tk t' hk => ⟨.int _, H, I.kept hk, ⟨_, rfl⟩, q⟩
def fSum2 : Fc := fun ds h => match ds with
  | [.tup xs] => match intsD xs with
    | some ns => .ok (.int ns.sum) h
    | none => .bad
  | ds => fSum ds h
theorem oc_sum2 {G : Gx} : OpC G (fun vs H Q => rSum G.K vs H Q ∨ rSumT G.K vs H Q) fSum2 := by
  intro W π σ h H ds xs Q g dx p
  unfold fSum2 at p
  split at p
  · obtain ⟨v, vs, rfl, ⟨a, ys, rfl, t, q⟩, e⟩ := dx
    obtain rfl := (show vs = [] from e)
    split at p
    · rename_i ns e0
      rw [intsD_eq e0] at q
      have e3 := q.ints
      subst e3
      exact .inr ⟨a, ns, rfl, t.sq, post_val g p rfl⟩
    · exact p.elim
  · exact .inl (oc_sum W π σ h H ds xs Q g dx p)
theorem cr_sum2 {X : Cx} (hc : X.calm = true) : CallR X (.builtin "sum") (fun vs H Q => rSum X.K vs H Q ∨ rSumT X.K vs H Q) := CallR.or (cr_sum hc) (cr_sumT hc)
/-- {} -/
def mDic0 : Ev → Hm → R D := fun _ h => .ok (.ref h.length) (h ++ [.dic []])
theorem em_dic0 {X : Cx} {T : List (Addr × Str)} {W : WX} {pos : Pos} : Em X T W (.Dict [] [] pos) mDic0 := PE.of pe_dnewK fun σ H Q ⟨π, env, h, s, p⟩ a n => by
  have st := Step.new (a := a) (u := .dK []) s.good n
  refine p (π ++ [a]) _ st (s.good.new (o := .dic []) n ⟨[], upd_same, rfl⟩) _ ⟨a, ?_, rfl⟩
  rw [List.getElem?_append_right (by rw [s.good.len]; exact Nat.le_refl _), s.good.len, Nat.sub_self] <;> rfl
end MM

namespace MM
open PySem L2

theorem pi_or {X : Cx} {tg e : Expr} {t t' : TI} (p : PI X tg e t) (q : PI X tg e t') : PI X tg e (fun σ H R => t σ H R ∨ t' σ H R) := ⟨fun pins s σ H Q I h => h.elim (p.run pins s σ H Q I) (q.run pins s σ H Q I)⟩
theorem pg_or {X : Cx} {e : Expr} {t t' : TG} (p : PG X e t) (q : PG X e t') : PG X e (fun v σ H R => t v σ H R ∨ t' v σ H R) := ⟨fun pins s σ H v u Q I r h => h.elim (p.run pins s σ H v u Q I r) (q.run pins s σ H v u Q I r)⟩
/-- a list or a tuple is walked -/
def mItA (m : Ev → Hm → R D) : Ev → Hm → R Itr := fun env h => (m env h).bind fun x h1 => match x with
  | .tup ds => .ok (ds, []) h1
  | x => oR (itL h1 x) h1
theorem im_any {X : Cx} {T : List (Addr × Str)} {W : WX} {tg e : Expr} {me : Ev → Hm → R D} (he : Em X T W e me) : Im X T W tg e (mItA me) := PI.of (pi_or (im_list he) (im_tup (tg := tg) he)) fun σ H Q ⟨π, env, h, s, p⟩ => by
  unfold mItA at p
  cases q : me env h with
  | ok d h1 =>
    rw [q] at p
    by_cases ht : ∃ ds, d = .tup ds
    · obtain ⟨ds, rfl⟩ := ht
      refine .inr ⟨π, env, h, s, ?_⟩
      unfold mItT
      rw [q]
      exact p
    · refine .inl ⟨π, env, h, s, ?_⟩
      unfold mItL
      rw [q]
      cases d with
      | tup ds => exact (ht ⟨ds, rfl⟩).elim
      | _ => exact p
  | exn x h1 =>
    refine .inl ⟨π, env, h, s, ?_⟩
    unfold mItL
    rw [q] at p ⊢
    exact p
  | bad => rw [q] at p; exact p.elim
/-- a tuple or a list is unpacked -/
def gU (n : Nat) (r : Gts) : Gt := fun d env h => match d with
  | .tup ds => if ds.length = n then r ds env h else .bad
  | .ref i => match h[i]? with
    | some (.lst ds) => if ds.length = n then r ds env h else .bad
    | _ => .bad
  | _ => .bad
section
variable {X : Cx} {T : List (Addr × Str)} {W : WX} {vs : List Nat} {e : Expr} {es : List Expr} {g : Gt} {r : Gts} {pos : Pos}
theorem gm_unp {k n : Nat} (hc : X.calm = true) (hr : Gsm X T W es r) (hn : (assignEach es X.env).length = n := by rfl) (hst : (assignEach es X.env).findIdx? (·.1) = none := by rfl) : Gm X T W (.Tuple es k pos) (gU n r) :=
  PG.of (pg_or (gm_tup hc hr hn hst) (gm_lst hc hr hn hst)) fun v σ H Q ⟨π, env, h, d, s, dv, p⟩ => by
    cases d with
    | tup ds => exact .inl ⟨π, env, h, _, s, dv, p⟩
    | ref i => exact .inr ⟨π, env, h, _, s, dv, p⟩
    | _ => exact p.elim
theorem gw_unp {k n : Nat} (hc : X.calm = true) (hr : Gsw X T W vs es r) (hn : (assignEach es X.env).length = n := by rfl) (hst : (assignEach es X.env).findIdx? (·.1) = none := by rfl) : Gw X T W vs (.Tuple es k pos) (gU n r) :=
  PG.of (pg_or (gw_tup hc hr hn hst) (gw_lst hc hr hn hst)) fun v σ H Q ⟨π, env, h, d, s, dv, p⟩ => by
    cases d with
    | tup ds => exact .inl ⟨π, env, h, _, s, dv, p⟩
    | ref i => exact .inr ⟨π, env, h, _, s, dv, p⟩
    | _ => exact p.elim
end

instance {i j : Int} : Decidable (CDiv i j) := inferInstanceAs (Decidable (0 < j ∧ j < 1073741824))
def fIDiv : F2 := fI fun i j => if CDiv i j then some (.int (i / j)) else none
def fIMod : F2 := fI fun i j => if 0 < j then some (.int (i % j)) else none
def fIAdd : F2 := fI fun i j => some (.int (i + j))
section
variable {X : Cx} {T : List (Addr × Str)} {W : WX} {e : Expr} {me : Ev → Hm → R D} {pos pos' : Pos}
theorem io_add : OpR X (inplaceOp .Add) (rI0 fun i j => .int (i + j)) ∧ Op2 (gx X T) (rI0 fun i j => .int (i + j)) fIAdd := ⟨iop_add, o2_I0⟩
theorem io_sub : OpR X (inplaceOp .Sub) (rI0 fun i j => .int (i - j)) ∧ Op2 (gx X T) (rI0 fun i j => .int (i - j)) fSub := ⟨iop_sub, o2_I0⟩
theorem io_mul : OpR X (inplaceOp .Mult) (rI CMul fun i j => .int (i * j)) ∧ Op2 (gx X T) (rI CMul fun i j => .int (i * j)) fMulI := ⟨iop_mul, o2_IC⟩
theorem io_div : OpR X (inplaceOp .FloorDiv) (rI CDiv fun i j => .int (i / j)) ∧ Op2 (gx X T) (rI CDiv fun i j => .int (i / j)) fIDiv := ⟨iop_fdiv, o2_IC⟩
theorem io_mod : OpR X (inplaceOp .Mod) (rI (fun _ j => 0 < j) fun i j => .int (i % j)) ∧ Op2 (gx X T) (rI (fun _ j => 0 < j) fun i j => .int (i % j)) fIMod := ⟨iop_mod, o2_IC⟩
end
/-- lengths of argument lists -/
def LenIs (m : Ev → Hm → R (List D)) (n : Nat) : Prop := ∀ env h ds h', m env h = .ok ds h' → ds.length = n
theorem len_nil : LenIs mNil 0 := fun env h ds h' e => by cases e; rfl
theorem len_cons {a : Ev → Hm → R D} {r : Ev → Hm → R (List D)} {n : Nat} (w : LenIs r n) : LenIs (mCons a r) (n + 1) := fun env h ds h' e => by
  unfold mCons at e
  cases q : a env h with
  | ok d h1 =>
    rw [q] at e
    cases q2 : r env h1 with
    | ok xs h2 =>
      have e' : (r env h1).bind (fun xs h2 => R.ok (d :: xs) h2) = .ok ds h' := e
      rw [q2] at e'
      cases e'
      rw [List.length_cons, w _ _ _ _ q2]
    | exn x h2 =>
      have e' : (r env h1).bind (fun xs h2 => R.ok (d :: xs) h2) = .ok ds h' := e
      rw [q2] at e'
      cases e'
    | bad =>
      have e' : (r env h1).bind (fun xs h2 => R.ok (d :: xs) h2) = .ok ds h' := e
      rw [q2] at e'
      cases e'
  | exn x h1 => rw [q] at e; cases e
  | bad => rw [q] at e; cases e
section
variable {X : Cx} {T : List (Addr × Str)} {W : WX} {es : List Expr} {mr : Ev → Hm → R (List D)} {pos : Pos}
theorem em_tup {x1} (ha : Am X T W es mr) (w : LenIs mr es.length) (hl : es.length ≤ 1000 := by decide) : Em X T W (.Tuple es x1 pos) (mTup mr) := am_tup ha hl w
theorem em_lst (ha : Am X T W es mr) (w : LenIs mr es.length) (hl : es.length ≤ 1000 := by decide) : Em X T W (.List es pos) (mLst mr) := am_lst ha hl w
end
theorem hu65 {k : Nat} {A : Around} (r : Room k A) : A.units + 65 < cLine := by have := r.un; omega
/-- a tuple of constants of the written part -/
theorem sqT_none {K : PySem.W.Frag} {a : Addr} {xs : List V} (h : SqT K (fun _ => none) a xs) : KTup K a xs := by
  rcases h with h | h
  · rcases h with h | ⟨_, h⟩ <;> cases h
  · exact h
/-- flat data -/
def flV : V → Option D
  | .non => some .non
  | .bl b => some (.bl b)
  | .int i => some (.int i)
  | .str x => some (.str x)
  | _ => none
theorem flV_ok {K : PySem.W.Frag} {π : List Addr} {H : Hp} {v : V} {d : D} (e : flV v = some d) : DV K π H d v := by
  cases v <;> first
    | (cases e; rfl)
    | cases e
def flVs : List V → Option (List D)
  | [] => some []
  | v :: vs => match flV v, flVs vs with
    | some d, some ds => some (d :: ds)
    | _, _ => none
theorem flVs_ok {K : PySem.W.Frag} {π : List Addr} {H : Hp} : ∀ {vs : List V} {ds : List D}, flVs vs = some ds → DVs K π H ds vs
  | [], ds, e => by cases e; rfl
  | v :: vs, ds, e => by
    unfold flVs at e
    cases q : flV v with
    | none => rw [q] at e; cases e
    | some d =>
      cases q2 : flVs vs with
      | none => rw [q, q2] at e; cases e
      | some es =>
        rw [q, q2] at e
        cases e
        exact ⟨v, vs, rfl, flV_ok q, flVs_ok q2⟩
theorem dv_tup {K : PySem.W.Frag} {π : List Addr} {H : Hp} {a : Addr} {xs : List V} {ds : List D} (h : SqT K (fun _ => none) a xs) (e : flVs xs = some ds) : DV K π H (.tup ds) (.ref a) := ⟨a, xs, rfl, .inr (sqT_none h), flVs_ok e⟩
section
variable {X : Cx} {T : List (Addr × Str)} {W : WX} {tg e : Expr} {mr : Ev → Hm → R (List D)} {me : Ev → Hm → R D} {p p' pos pos' : Pos}
theorem cl_eq (hu : X.A.units + 64 < cLine) : OpR X (compareOp .Eq) (rEqM X.K) ∧ Op2 (gx X T) (rEqM X.K) fEq := ⟨op_eq.or (op_eqD hu), o2_eq⟩
/-- reversed(range(j)) -/
def mRvR1 (m : Ev → Hm → R D) : Ev → Hm → R Itr := fun env h => (m env h).bind fun x h1 => match x with
  | .int j => if sm62 j = true then .ok (rngD (0 + (((j - 0).toNat : Nat) : Int) - 1) (-1) (j - 0).toNat, []) h1 else .bad
  | _ => .bad
theorem im_revR (hg : Gl X "reversed") (hm : X.mg "reversed" = none) (hg2 : Gl X "range") (hm2 : X.mg "range" = none) (he : Em X T W e me) (na : starEach [e] X.env = (false, eval e X.env) :: starEach [] X.env := by rfl) (hs : starEach [.Call (.Name "range" p) [e] [] pos] X.env = (false, eval (.Call (.Name "range" p) [e] [] pos) X.env) :: starEach [] X.env := by rfl) :
    Im X T W tg (.Call (.Name "reversed" p') [.Call (.Name "range" p) [e] [] pos] [] pos') (mRvR1 me) := PI.of (pi_revR hg hm (prg_1 hg2 hm2 he na) hs) fun σ H Q ⟨π, env, h, s, q⟩ => by
  refine ⟨π, env, h, s, q.bind.mono fun π1 H1 h1 d s1 g1 p1 x dx => ?_⟩
  split at p1
  · rename_i j
    obtain rfl := (show x = _ from dx)
    split at p1
    · rename_i hc
      obtain ⟨c1, c2⟩ := sm62_ok hc
      exact ⟨j, rfl, by decide, by decide, c1, c2, p1 π1 H1 Step.refl g1 _ walk_rgc⟩
    · exact p1.elim
  · exact p1.elim
end
end MM

namespace MM
open PySem L2

section
variable {P : Program} {w : World} {K : PySem.W.Frag} {mg : Str → Option Value} {base : Heap} {T : List (Addr × Str)}
theorem def_ok {x qual : Str} {params : Arguments} {body : List Stmt} {scope : Scope} {f : Addr} {fd : FuncData} {N ps : List Str} {k : Nat} {m : Ev → Hm → SR} (F : FunD K x qual params body scope [] [] f fd) (S : FnScope N ps scope)
    (hbody : ∀ (cdv : Value) (A : Around) (outer : List Env) (s : Shared) (H : Hp) (E : XK), Room k (cxOf (L2.CX P w) P w K mg base N qual scope f cdv A outer s H E).A → Takes (cxOf (L2.CX P w) P w K mg base N qual scope f cdv A outer s H E) (fun cls d _ H' => E cls d H') →
      PassesOwn (model P w) (cxOf (L2.CX P w) P w K mg base N qual scope f cdv A outer s H E).A (cxOf (L2.CX P w) P w K mg base N qual scope f cdv A outer s H E).env (cxOf (L2.CX P w) P w K mg base N qual scope f cdv A outer s H E).xe →
      Ssm (cxOf (L2.CX P w) P w K mg base N qual scope f cdv A outer s H E) T (fun cls d _ H' => E cls d H') body m) :
    FnOk P w K mg base (L2.CX P w) (k + 1) f fd ps (spM ⟨K, mg, T⟩ (callM N.length ps.length m) ps.length) := by
  refine F.ok S (fun vs H Q E ⟨π, h, ds, g, q, hl, _⟩ => by rw [q.len]; exact hl) fun cdv A outer s H vs Q E hr ⟨π, h, ds, g, q, hl, p⟩ => ⟨_, hbody cdv A outer s H E hr (takes_of rfl rfl rfl rfl) (passes_of rfl), ?_⟩
  exact ⟨π, startE N.length ds, h, ⟨g, envOk_start q⟩, postS_fn p⟩
end
/-- how the script comes -/
def Scr (ns : List Int) (d : D) (h : Hm) : Prop := (d = .rol (ns.map D.int) ∧ h = []) ∨ (d = .ref 0 ∧ h = [.lst (ns.map D.int)])
/-- what is to be shown of the law's run -/
def PlainLaw (f : Fc) (n : Nat) : Prop := ∀ (ns : List Int) (d : D) (h : Hm), ns.length ≤ n → Scr ns d h → ∃ h', f [d] h = .ok (.bl true) h'
theorem sp_law {G : Gx} {f : Fc} {n : Nat} (hT : G.T = []) (pl : PlainLaw f n) {ns : List Int} {a : Addr} {H : Hp} (hl : ns.length ≤ n) (hS : SqL G.K H a (ns.map V.int)) : spM G f 1 [.ref a] H (fun v _ => v = .bl true) fun _ _ _ => False := by
  have go : ∀ π d h, Good G π h H → DV G.K π H d (.ref a) → Scr ns d h → spM G f 1 [.ref a] H (fun v _ => v = .bl true) fun _ _ _ => False := fun π d h g dv sc => by
    obtain ⟨h', e⟩ := pl ns d h hl sc
    refine ⟨π, h, [d], g, ⟨_, _, rfl, dv, rfl⟩, rfl, ?_⟩
    rw [e]
    intro π' H' s g' v e'
    exact e'
  have g0 : Good G [] [] H := ⟨rfl, List.nodup_nil, fun i a o e => (by cases e), fun p hp => (by rw [hT] at hp; cases hp), fun p hp => (by rw [hT] at hp; cases hp)⟩
  have g1 : H a = some (.lst (ns.map V.int)) → Good G [a] [.lst (ns.map D.int)] H := fun e => by
    refine ⟨rfl, by simp, fun i b o e1 e2 => ?_, fun p hp => (by rw [hT] at hp; cases hp), fun p hp => (by rw [hT] at hp; cases hp)⟩
    cases i with
    | zero =>
      cases e1
      cases e2
      exact ⟨_, e, DVs.ofInts⟩
    | succ i => cases e1
  rcases hS with (h | ⟨o, h⟩) | h
  · exact go [a] (.ref 0) [.lst (ns.map D.int)] (g1 h) ⟨a, rfl, rfl⟩ (.inr ⟨rfl, rfl⟩)
  · exact go [] (.rol (ns.map D.int)) [] g0 ⟨a, _, rfl, .inl ⟨o, h, by simp⟩, DVs.ofInts⟩ (.inl ⟨rfl, rfl⟩)
  · exact go [] (.rol (ns.map D.int)) [] g0 ⟨a, _, rfl, .inr h, DVs.ofInts⟩ (.inl ⟨rfl, rfl⟩)
theorem lawAt {l : PySem.W.OpenLaw} {w : World} {K : PySem.W.Frag} {k n : Nat} {mg : Str → Option Value} {fa : Addr} {h : Heap} {f : Fc} {x qual : Str} {params : Arguments} {body : List Stmt} {scope : Scope} {fd : FuncData}
    (F : FunD K x qual params body scope [] [] fa fd) (hb : ∀ (kV doc pm : Value) (an : Option Addr) (cdv ct : Value) (us : List Value), us.length = (["script"] : List Str).length → bindArgs (PySem.W.fnOf x qual params body scope .none kV doc pm an cdv ct) ⟨us, []⟩ = pure ((["script"] : List Str).zip us))
    (pl : PlainLaw f n) (ok : ∀ base : Heap, K.In base → base.Ns mainGlobals mg → FnOk l.prog w K mg base (L2.CX l.prog w) k fa fd ["script"] (spM ⟨K, mg, []⟩ f 1)) : LamX.LawAtS l w K (L2.CX l.prog w) k n "script" mg fa h := by
  have b := FunD.bindsA (ps := ["script"]) F hb
  exact ⟨fd, [], spM ⟨K, mg, []⟩ f 1, fun p hp => (by cases hp), fun p hp => (by cases hp), fun p hp => (by cases hp), fun s v => b s [v] rfl, fun H a ns hl _ _ hS => sp_law rfl pl hl hS, fun base h1 h2 _ => ok base h1 h2⟩
theorem cx_none {P : Program} {w : World} (H : Hp) (s : Shared) (e : Value) (s' : Shared) (h : L2.CX P w [] H s (fun _ _ _ => False) e s') : False := by
  obtain ⟨_, _, _, _, _, _, _, _, _, _, _, _, z⟩ := h
  exact z.elim
end MM

namespace MM
open PySem L2

section
variable {α β : Type} {a : α} {h : Hm} {x : Ex} {k : α → Hm → R β} {ks : α → Hm → SR} {env : Ev} {b : Ev → Hm → SR} {d e : D}
@[simp] theorem bind_ok : (R.ok a h).bind k = k a h := rfl
@[simp] theorem bind_exn : (R.exn x h : R α).bind k = .exn x h := rfl
@[simp] theorem bind_bad : (R.bad : R α).bind k = .bad := rfl
@[simp] theorem bindS_ok : (R.ok a h).bindS env ks = ks a h := rfl
@[simp] theorem bindS_exn : (R.exn x h : R α).bindS env ks = .exn x env h := rfl
@[simp] theorem bindS_bad : (R.bad : R α).bindS env ks = .bad := rfl
@[simp] theorem then_next : (SR.next env h).then b = b env h := rfl
@[simp] theorem then_ret : (SR.ret d h).then b = .ret d h := rfl
@[simp] theorem then_brk : (SR.brk env h).then b = .brk env h := rfl
@[simp] theorem then_cont : (SR.cont env h).then b = .cont env h := rfl
@[simp] theorem then_exn : (SR.exn x env h).then b = .exn x env h := rfl
@[simp] theorem then_bad : (SR.bad).then b = .bad := rfl
@[simp] theorem only_next : (SR.next env h).only = .next env h := rfl
@[simp] theorem only_exn : (SR.exn x env h).only = .exn x env h := rfl
end
section
variable {i j : Nat} {env : Ev} {h : Hm} {d e : D} {x y : Int} {s t : Str} {p q : Bool} {ds es : List D} {a b c : Ev → Hm → R D} {r : Ev → Hm → R (List D)} {sa sb : Ev → Hm → SR} {f f' : F2} {g : Gt} {gs : Gts} {ta tb : Ev → Hm → R Bool}
@[simp] theorem run_seq : sSeq sa sb env h = (sa env h).then sb := rfl
@[simp] theorem run_nil : sNil env h = .next env h := rfl
@[simp] theorem run_ret : sRet a env h = (a env h).bindS env fun d h1 => .ret d h1 := rfl
@[simp] theorem run_retN : sRetN env h = .ret .non h := rfl
@[simp] theorem run_drop : sDrop a env h = (a env h).bindS env fun _ h1 => .next env h1 := rfl
@[simp] theorem run_if : sIf ta sa sb env h = (ta env h).bindS env fun k h1 => if k = true then sa env h1 else sb env h1 := rfl
@[simp] theorem run_asg : sAsg g a env h = (a env h).bindS env fun d h1 => (g d env h1).only := rfl
@[simp] theorem run_brk : sBrk env h = .brk env h := rfl
@[simp] theorem run_cont : sCont env h = .cont env h := rfl
@[simp] theorem run_raise {cn : Str} : sRaise cn env h = .exn ⟨cn, []⟩ env h := rfl
@[simp] theorem run_gN : gN i d env h = .next (env.set i (some d)) h := rfl
@[simp] theorem run_C : mC d env h = .ok d h := rfl
@[simp] theorem run_var : mVar i env h = (match env[i]? with
  | some (some d) => .ok d h
  | _ => .bad) := rfl
@[simp] theorem run_m2 : m2 f a b env h = (a env h).bind fun x h1 => (b env h1).bind fun y h2 => f x y h2 := rfl
@[simp] theorem run_lnil : mNil env h = .ok [] h := rfl
@[simp] theorem run_lcons : mCons a r env h = (a env h).bind fun x h1 => (r env h1).bind fun xs h2 => .ok (x :: xs) h2 := rfl
@[simp] theorem run_tup : mTup r env h = (r env h).bind fun xs h1 => .ok (.tup xs) h1 := rfl
@[simp] theorem run_lst : mLst r env h = (r env h).bind fun xs h1 => .ok (.ref h1.length) (h1 ++ [.lst xs]) := rfl
@[simp] theorem run_bool : mBool a env h = (a env h).bind fun x h1 => (match x with
  | .bl b => .ok b h1
  | _ => .bad) := rfl
@[simp] theorem run_tru : mTru a env h = (a env h).bind fTru := rfl
@[simp] theorem run_and : mAnd ta tb env h = (ta env h).bind fun k h1 => if k = true then tb env h1 else .ok false h1 := rfl
@[simp] theorem run_or : mOr ta tb env h = (ta env h).bind fun k h1 => if k = true then .ok true h1 else tb env h1 := rfl
@[simp] theorem run_not : mNot ta env h = (ta env h).bind fun k h1 => .ok (!k) h1 := rfl
@[simp] theorem run_andV : mAndV a b env h = (a env h).bind fun x h1 => (fTru x h1).bind fun k h2 => if k = true then b env h2 else .ok x h2 := rfl
@[simp] theorem run_orV : mOrV a b env h = (a env h).bind fun x h1 => (fTru x h1).bind fun k h2 => if k = true then .ok x h2 else b env h2 := rfl
@[simp] theorem run_notV : mNotV a env h = (a env h).bind fun x h1 => (fTru x h1).bind fun k h2 => .ok (.bl (!k)) h2 := rfl
@[simp] theorem run_ifE : mIf ta a b env h = (ta env h).bind fun k h1 => if k = true then a env h1 else b env h1 := rfl
@[simp] theorem run_chain : mChain f f' a b c env h = (a env h).bind fun x h1 => (b env h1).bind fun y h2 => (f x y h2).bind fun z h3 => (match z with
  | .bl k => if k = true then (c env h3).bind fun w h4 => f' y w h4 else .ok (.bl false) h3
  | _ => .bad) := rfl
@[simp] theorem run_neg : mNeg a env h = (a env h).bind fun x h1 => (match x with
  | .int i => .ok (.int (-i)) h1
  | _ => .bad) := rfl
@[simp] theorem run_sl {l u : Ev → Hm → R (Option Int)} : mSl a l u env h = (a env h).bind fun x h1 => (l env h1).bind fun lo h2 => (u env h2).bind fun hi h3 => fSl x lo hi h3 := rfl
@[simp] theorem run_no : mNo env h = .ok none h := rfl
@[simp] theorem run_some : mSome a env h = (a env h).bind fun x h1 => (match x with
  | .int i => .ok (some i) h1
  | _ => .bad) := rfl
@[simp] theorem run_call {fc : Fc} : mCall fc r env h = (r env h).bind fc := rfl
@[simp] theorem run_callF {fc : Fc} {p : Nat} : mCallF p fc r env h = (r env h).bind fun ds h1 => if ds.length = p then fc ds h1 else .bad := rfl
@[simp] theorem run_meth {tg : Hm → D → Bool} {fm : Fm} : mMeth tg fm a r env h = (a env h).bind fun x h1 => if tg h1 x = true then (r env h1).bind fun ds h2 => fm x ds h2 else .bad := rfl
@[simp] theorem run_subM : gSubM a b d env h = (a env h).bindS env fun x h1 => (b env h1).bindS env fun y h2 => (match fSet x y d h2 with
  | some h3 => .next env h3
  | none => .bad) := rfl
@[simp] theorem run_par : sPar i j r env h = (r env h).bindS env fun ds h1 => (match ds with
  | [a, b] => .next ((env.set i (some a)).set j (some b)) h1
  | _ => .bad) := rfl
@[simp] theorem run_par3 {l : Nat} : sPar3 i j l r env h = (r env h).bindS env fun ds h1 => (match ds with
  | [a, b, c] => .next (((env.set i (some a)).set j (some b)).set l (some c)) h1
  | _ => .bad) := rfl
@[simp] theorem run_aug : sAug i f a env h = (match env[i]? with
  | some (some x) => (a env h).bindS env fun y h1 => (f x y h1).bindS env fun z h2 => .next (env.set i (some z)) h2
  | _ => .bad) := rfl
@[simp] theorem run_itA : mItA a env h = (a env h).bind fun x h1 => (match x with
  | .tup ds => .ok (ds, []) h1
  | x => oR (itL h1 x) h1) := rfl
@[simp] theorem run_rg1 : mRg1 r env h = (r env h).bind fun ds h1 => (match ds with
  | [.int j] => if sm62 j = true then .ok (rng1 0 j.toNat, []) h1 else .bad
  | _ => .bad) := rfl
@[simp] theorem run_enum : mEnum r env h = (r env h).bind fun ds h1 => (match ds with
  | [x] => (match itL h1 x with
    | some it => .ok (enumD 0 it.1, it.2) h1
    | none => .bad)
  | _ => .bad) := rfl
@[simp] theorem run_for {m : Ev → Hm → R Itr} : sFor m g sa env h = (m env h).bindS env fun it h1 => forL it.2 g sa it.1 env h1 := rfl
@[simp] theorem run_lc {vs : List Nat} {m : Ev → Hm → R Itr} : mLc vs m g ta a env h = (m env h).bind fun it h1 => if it.1.length ≤ 16777216 then (match lcL it.2 g ta a (wipeE env vs) it.1 h1 with
  | .ok ys h2 => .ok (.ref h2.length) (h2 ++ [.lst ys])
  | _ => .bad) else .bad := rfl
@[simp] theorem run_fld {cs : List Str} {s : Str} : mFld cs s a env h = (a env h).bind fun x h1 => (match x with
  | .ref i => (match h1[i]? with
    | some (.ins c fs) => if c ∈ cs then (match fs.lookup s with
        | some d => .ok d h1
        | none => .bad) else .bad
    | _ => .bad)
  | _ => .bad) := rfl
@[simp] theorem run_fldM {cs : List Str} {s : Str} : sFldM cs s a b env h = (b env h).bindS env fun y h1 => (a env h1).bindS env fun x h2 => (match setF cs s x y h2 with
  | some h3 => .next env h3
  | none => .bad) := rfl
@[simp] theorem run_tyes : tYesM env h = .ok true h := rfl
@[simp] theorem fAdd_i : fAdd (.int x) (.int y) h = .ok (.int (x + y)) h := rfl
@[simp] theorem fSub_i : fSub (.int x) (.int y) h = .ok (.int (x - y)) h := rfl
@[simp] theorem fLt_i : fLt (.int x) (.int y) h = .ok (.bl (decide (x < y))) h := rfl
@[simp] theorem fLe_i : fLe (.int x) (.int y) h = .ok (.bl (decide (x ≤ y))) h := rfl
@[simp] theorem fGt_i : fGt (.int x) (.int y) h = .ok (.bl (decide (y < x))) h := rfl
@[simp] theorem fGe_i : fGe (.int x) (.int y) h = .ok (.bl (decide (y ≤ x))) h := rfl
theorem fMulI_ok (c : CMul x y) : fMulI (.int x) (.int y) h = .ok (.int (x * y)) h := by
  unfold fMulI fI
  simp only [if_pos c]
theorem fMul_ok (c : CMul x y) : fMul (.int x) (.int y) h = .ok (.int (x * y)) h := fMulI_ok c
theorem fDiv_ok (c : y ≠ 0 ∧ y.natAbs < 1073741824) : fDiv (.int x) (.int y) h = .ok (.int (x.fdiv y)) h := by
  unfold fDiv fI
  simp only [if_pos (show CDivN x y from c)]
theorem fMod_ok (c : y ≠ 0) : fMod (.int x) (.int y) h = .ok (.int (x.fmod y)) h := by
  unfold fMod fI
  simp only [if_pos c]
theorem fPow_ok (c : 0 ≤ y ∧ y ≤ 1000000 ∧ x.natAbs < 2 ^ 64) : fPow (.int x) (.int y) h = .ok (.int (x ^ y.toNat)) h := by
  unfold fPow fI
  simp only [if_pos (show CPow x y from c)]
@[simp] theorem fEq_i : fEq (.int x) (.int y) h = .ok (.bl (decide (x = y))) h := by
  show R.ok (D.bl (decide (D.int x = D.int y))) h = _
  simp
@[simp] theorem fNe_i : fNe (.int x) (.int y) h = .ok (.bl (!decide (x = y))) h := by
  show R.ok (D.bl (!decide (D.int x = D.int y))) h = _
  simp
@[simp] theorem fAbs_i : fAbs [.int x] h = .ok (.int (if x < 0 then -x else x)) h := rfl
@[simp] theorem fInt_i : fInt [.int x] h = .ok (.int x) h := rfl
@[simp] theorem fInt_b : fInt [.bl p] h = .ok (.int (if p then 1 else 0)) h := rfl
end
theorem ofString_inj {a b : String} : (Str.ofString a = Str.ofString b) ↔ a = b := by
  refine ⟨fun h => ?_, fun h => by rw [h]⟩
  rw [Str.ofString_eq_toList, Str.ofString_eq_toList] at h
  have h1 : a.toList.map Char.toNat = b.toList.map Char.toNat := by
    have := congrArg (fun z : Str => z.cps.toList) h
    simpa using this
  have h2 : a.toList = b.toList := by
    refine (List.map_inj_right ?_).mp h1
    intro x y hxy
    exact Char.toNat_inj.mp hxy
  exact String.toList_inj.mp h2
@[simp] theorem str_eq {a b : String} : (Str.ofString a = Str.ofString b) = (a = b) := propext ofString_inj
@[simp] theorem str_beq {a b : String} : (Str.ofString a == Str.ofString b) = (a == b) := by
  by_cases h : a = b
  · subst h
    simp
  · have h2 : ¬ Str.ofString a = Str.ofString b := fun z => h (ofString_inj.mp z)
    rw [beq_eq_false_iff_ne.mpr h, beq_eq_false_iff_ne.mpr h2]
section
variable {h : Hm} {s t : Str} {p q : Bool} {x y : Int}
@[simp] theorem fEq_s : fEq (.str s) (.str t) h = .ok (.bl (decide (s = t))) h := by
  show R.ok (D.bl (decide (D.str s = D.str t))) h = _
  simp
@[simp] theorem fNe_s : fNe (.str s) (.str t) h = .ok (.bl (!decide (s = t))) h := by
  show R.ok (D.bl (!decide (D.str s = D.str t))) h = _
  simp
@[simp] theorem fEq_b : fEq (.bl p) (.bl q) h = .ok (.bl (decide (p = q))) h := by
  show R.ok (D.bl (decide (D.bl p = D.bl q))) h = _
  simp
@[simp] theorem fMax2_i : fMax2 [.int x, .int y] h = .ok (.int (if y > x then y else x)) h := rfl
@[simp] theorem fMin2_i : fMin2 [.int x, .int y] h = .ok (.int (if y < x then y else x)) h := rfl
@[simp] theorem fIAdd_i : fIAdd (.int x) (.int y) h = .ok (.int (x + y)) h := rfl
@[simp] theorem fTru_b : fTru (.bl p) h = .ok p h := rfl
@[simp] theorem fTru_i : fTru (.int x) h = .ok (x != 0) h := rfl
@[simp] theorem fIs_n {d : D} {n : Bool} : fIs n d .non h = .ok (.bl (if n then !decide (d = .non) else decide (d = .non))) h := rfl
end
@[simp] theorem lookup_str {a k : Str} {d : D} {es : List (Str × D)} : List.lookup a ((k, d) :: es) = if a = k then some d else List.lookup a es := by
  by_cases h : a = k
  · have hb : (a == k) = true := beq_iff_eq.mpr h
    simp only [List.lookup, hb, if_pos h]
  · have hb : (a == k) = false := beq_eq_false_iff_ne.mpr h
    simp only [List.lookup, hb, if_neg h]
@[simp] theorem fIx_t {ds : List D} {x : Int} {h : Hm} : fIx (.tup ds) (.int x) h = (match L2.atI ds x with
  | some d => .ok d h
  | none => .bad) := rfl
@[simp] theorem run_methF {cn m : Str} {p : Nat} {fn : Fc} {mo : Ev → Hm → R D} {mr : Ev → Hm → R (List D)} {env : Ev} {h : Hm} : mMethF cn m p fn mo mr env h = (mo env h).bind fun x h1 => (match x with
  | .ref i => (match h1[i]? with
    | some (.ins c fs) => if c = cn ∧ fs.lookup m = none then (mr env h1).bind fun ds h2 => if ds.length + 1 = p then fn (.ref i :: ds) h2 else .bad else .bad
    | _ => .bad)
  | _ => .bad) := rfl
@[simp] theorem run_make {cn : Str} {p : Nat} {fn : Fc} {mr : Ev → Hm → R (List D)} {env : Ev} {h : Hm} : mMake cn p fn mr env h = (mr env h).bind fun ds h1 => if ds.length + 1 = p then (match fn (.ref h1.length :: ds) (h1 ++ [.ins cn []]) with
  | .ok .non h2 => .ok (.ref h1.length) h2
  | .exn x h2 => .exn x h2
  | _ => .bad) else .bad := rfl
@[simp] theorem run_get {mo a b : Ev → Hm → R D} {env : Ev} {h : Hm} : mGet mo a b env h = (mo env h).bind fun x h1 => if isD h1 x = true then (a env h1).bind fun k h2 => (b env h2).bind fun y h3 => (match x, keyD k with
  | .ref i, some k => (match h3[i]? with
    | some (.dic kvs) => .ok ((getK kvs k).getD y) h3
    | _ => .bad)
  | _, _ => .bad) else .bad := rfl
@[simp] theorem run_fldA {cs : List Str} {f : Str} {fo : F2} {mo me : Ev → Hm → R D} {env : Ev} {h : Hm} : sFldA cs f fo mo me env h = (mo env h).bindS env fun x h1 => (match x with
  | .ref i => (match h1[i]? with
    | some (.ins c fs) => if c ∈ cs then (match fs.lookup f with
        | some v => (me env h1).bindS env fun y h2 => (fo v y h2).bindS env fun z h3 => (match h3[i]? with
            | some (.ins c' fs') => if c' = c ∧ fs'.length < 1000 then .next env (h3.set i (.ins c (putD f z fs'))) else .bad
            | _ => .bad)
        | none => .bad) else .bad
    | _ => .bad)
  | _ => .bad) := rfl
end MM

namespace MM
open PySem L2
section
variable {h : Hm} {r : Nat} {ds : List D} {x y : D} {k : Int} {j : Nat}
/-- subscripts -/
theorem ixN_nat {n j : Nat} (hj : j < n) : ixN n (j : Int) = some j := by
  unfold ixN
  rw [if_pos (by omega), if_pos (by omega)]
  simp
theorem fIx_lst (e : h[r]? = some (.lst ds)) (e2 : ds[j]? = some x) : fIx (.ref r) (.int (j : Int)) h = .ok x h := by
  have hj : j < ds.length := (List.getElem?_eq_some_iff.mp e2).1
  unfold fIx
  simp only [e, L2.atI, ixN_nat hj, Option.bind_some, e2]
theorem fIx_last (e : h[r]? = some (.lst ds)) (e2 : ds.getLast? = some x) : fIx (.ref r) (.int (-1)) h = .ok x h := by
  have hj : 0 < ds.length := by cases ds with
    | nil => cases e2
    | cons a l => exact Nat.succ_pos _
  have e3 : ixN ds.length (-1) = some (ds.length - 1) := by
    unfold ixN
    rw [if_neg (by omega), if_pos (by omega)]
    congr 1
    omega
  unfold fIx
  simp only [e, L2.atI, e3, Option.bind_some]
  rw [List.getLast?_eq_getElem?] at e2
  rw [e2]
theorem fSet_lst (e : h[r]? = some (.lst ds)) (hj : j < ds.length) : fSet (.ref r) (.int (j : Int)) y h = some (h.set r (.lst (ds.set j y))) := by
  unfold fSet
  simp only [e, ixN_nat hj]
end
section
variable {h : Hm} {i : Nat} (hi : i < h.length)
include hi
theorem ix3 (p q r : D) : fIx (.ref i) (.int 0) (h.set i (.lst [p, q, r])) = .ok p (h.set i (.lst [p, q, r])) ∧ fIx (.ref i) (.int 1) (h.set i (.lst [p, q, r])) = .ok q (h.set i (.lst [p, q, r])) ∧ fIx (.ref i) (.int 2) (h.set i (.lst [p, q, r])) = .ok r (h.set i (.lst [p, q, r])) := by
  have e : (h.set i (.lst [p, q, r]))[i]? = some (.lst [p, q, r]) := List.getElem?_set_self hi
  exact ⟨fIx_lst (j := 0) e rfl, fIx_lst (j := 1) e rfl, fIx_lst (j := 2) e rfl⟩
theorem set3 (p q r y : D) : fSet (.ref i) (.int 0) y (h.set i (.lst [p, q, r])) = some (h.set i (.lst [y, q, r])) ∧ fSet (.ref i) (.int 1) y (h.set i (.lst [p, q, r])) = some (h.set i (.lst [p, y, r])) ∧ fSet (.ref i) (.int 2) y (h.set i (.lst [p, q, r])) = some (h.set i (.lst [p, q, y])) := by
  have e : (h.set i (.lst [p, q, r]))[i]? = some (.lst [p, q, r]) := List.getElem?_set_self hi
  refine ⟨(fSet_lst (j := 0) e (by simp)).trans ?_, (fSet_lst (j := 1) e (by simp)).trans ?_, (fSet_lst (j := 2) e (by simp)).trans ?_⟩ <;> simp
end
theorem set_self {h : Hm} {i : Nat} {o : O} (e : h[i]? = some o) : h.set i o = h := by
  obtain ⟨hi, e⟩ := List.getElem?_eq_some_iff.mp e
  rw [← e]
  exact List.set_getElem_self hi

def b_dice : Ev → Hm → SR := (sSeq (sIf (mBool (mChain fLt fLt (m2 fSub (mC (.int 0)) (mC (.int 10))) (mVar 0) (mC (.int 10))))
  (sRet (mLst (mCons (mCall fAbs (mCons (mVar 0) mNil)) (mCons (mC (.int 0)) (mCons (mC (.int 2)) mNil)))))
  sNil)
  (sRet (mLst (mCons (mVar 0) (mCons (m2 fAdd (mC (.int 1)) (m2 fMod (mCall fInt (mCons (mVar 0) mNil)) (mC (.int 1009)))) (mCons (mCall fInt (mCons (m2 fGe (mVar 0) (m2 fPow (mC (.int 10)) (mC (.int 18)))) mNil)) mNil))))))
def f_dice : Fc := callM 1 1 b_dice
def b_roll : Ev → Hm → SR := (sSeq (sIf (mOr (mBool (m2 fEq (m2 fIx (mVar 0) (mC (.int 2))) (mC (.int 2)))) (mAnd (mBool (m2 fEq (m2 fIx (mVar 0) (mC (.int 2))) (mC (.int 1)))) (mBool (m2 fGt (m2 fIx (mVar 0) (mC (.int 0))) (mC (.int 0))))))
  (sSeq (sAsg (gN 2) (m2 fMod (mCall fInt (mCons (m2 fIx (mVar 0) (mC (.int 0))) mNil)) (mVar 1)))
  (sSeq (sAsg (gSubM (mVar 0) (mC (.int 0))) (m2 fDiv (m2 fIx (mVar 0) (mC (.int 0))) (mVar 1)))
  (sRet (mVar 2))))
  sNil)
  (sSeq (sAsg (gSubM (mVar 0) (mC (.int 2))) (mC (.int 0)))
  (sSeq (sAsg (gSubM (mVar 0) (mC (.int 0))) (m2 fMod (mCall fInt (mCons (m2 fAdd (m2 fAdd (m2 fMul (m2 fIx (mVar 0) (mC (.int 0))) (mC (.int 48271))) (m2 fMul (m2 fIx (mVar 0) (mC (.int 1))) (mC (.int 69621)))) (mC (.int 11))) mNil)) (mC (.int 2147483647))))
  (sSeq (sAsg (gSubM (mVar 0) (mC (.int 1))) (m2 fAdd (m2 fIx (mVar 0) (mC (.int 1))) (mC (.int 1))))
  (sRet (m2 fMod (mCall fInt (mCons (m2 fAdd (m2 fDiv (m2 fIx (mVar 0) (mC (.int 0))) (mC (.int 7))) (m2 fIx (mVar 0) (mC (.int 0)))) mNil)) (mVar 1)))))))
def f_roll : Fc := callM 3 2 b_roll
def b_rounds : Ev → Hm → SR := (sSeq (sAsg (gN 2) (mSl (mVar 0) mNo (mSome (mVar 1))))
  (sSeq (sIf (mBool (m2 fEq (mVar 2) (mLst mNil)))
  (sAsg (gN 2) (mLst (mCons (mC (.int 0)) mNil)))
  sNil)
  (sRet (mLc [3] (mItA (mVar 2)) (gN 3) tYesM (mCallF 1 f_dice (mCons (mVar 3) mNil))))))
def f_rounds : Fc := callM 4 2 b_rounds
theorem dice_ok (c : Int) (h : Hm) : ∃ a b m, f_dice [.int c] h = .ok (.ref h.length) (h ++ [.lst [.int a, .int b, .int m]]) := by
  by_cases hc : -10 < c ∧ c < 10
  · refine ⟨if c < 0 then -c else c, 0, 2, ?_⟩
    simp [f_dice, callM, b_dice, startE, hc]
  · refine ⟨c, 1 + c.fmod 1009, if (10 : Int) ^ 18 ≤ c then 1 else 0, ?_⟩
    have : ¬ ((-10 < c) ∧ (c < 10)) := hc
    by_cases h1 : -10 < c
    · have h2 : ¬ c < 10 := fun z => hc ⟨h1, z⟩
      simp [f_dice, callM, b_dice, startE, h1, h2, fMod_ok, fPow_ok]
    · simp [f_dice, callM, b_dice, startE, h1, fMod_ok, fPow_ok]
theorem roll_ok {i : Nat} {h : Hm} {a b m many : Int} (e : h[i]? = some (.lst [.int a, .int b, .int m])) (h1 : 0 < many) (h2 : many < 1073741824) :
    ∃ v a' b' m' : Int, 0 ≤ v ∧ v < many ∧ f_roll [.ref i, .int many] h = .ok (.int v) (h.set i (.lst [.int a', .int b', .int m'])) := by
  have hi0 : i < h.length := (List.getElem?_eq_some_iff.mp e).1
  obtain ⟨h0, e0, hi⟩ : ∃ h0 : Hm, h = h0.set i (.lst [.int a, .int b, .int m]) ∧ i < h0.length := ⟨h, (set_self e).symm, hi0⟩
  subst e0
  have hm : many ≠ 0 := by omega
  have hd : many ≠ 0 ∧ many.natAbs < 1073741824 := ⟨hm, by omega⟩
  have v1 : ∀ z : Int, 0 ≤ z.fmod many ∧ z.fmod many < many := fun z => ⟨Int.fmod_nonneg_of_pos z h1, Int.fmod_lt_of_pos z h1⟩
  have hm1 : ∀ x : Int, CMul x 48271 := fun x => .inr ⟨by decide, by decide⟩
  have hm2 : ∀ x : Int, CMul x 69621 := fun x => .inr ⟨by decide, by decide⟩
  simp only [List.set_set]
  by_cases c : m = 2 ∨ (m = 1 ∧ 0 < a)
  · refine ⟨a.fmod many, a.fdiv many, b, m, (v1 a).1, (v1 a).2, ?_⟩
    rcases c with rfl | ⟨rfl, c⟩
    · simp [f_roll, callM, b_roll, startE, ix3 hi, set3 hi, fMod_ok hm, fDiv_ok hd]
    · simp [f_roll, callM, b_roll, startE, ix3 hi, set3 hi, fMod_ok hm, fDiv_ok hd, c]
  · have c1 : ¬ m = 2 := fun z => c (.inl z)
    refine ⟨(((a * 48271 + b * 69621 + 11).fmod 2147483647).fdiv 7 + (a * 48271 + b * 69621 + 11).fmod 2147483647).fmod many, (a * 48271 + b * 69621 + 11).fmod 2147483647, b + 1, 0, (v1 _).1, (v1 _).2, ?_⟩
    by_cases c2 : m = 1
    · have c3 : ¬ 0 < a := fun z => c (.inr ⟨c2, z⟩)
      simp [f_roll, callM, b_roll, startE, ix3 hi, set3 hi, fMod_ok, fDiv_ok, fMul_ok, hm1, hm2, c2, c3, hm]
    · simp [f_roll, callM, b_roll, startE, ix3 hi, set3 hi, fMod_ok, fDiv_ok, fMul_ok, hm1, hm2, c1, c2, hm]

def IsDice (h : Hm) (i : Nat) : Prop := ∃ a b m : Int, h[i]? = some (.lst [.int a, .int b, .int m])
/-- what stood at n stands, but at i -/
def Fr (i : Nat) (h h' : Hm) : Prop := h.length ≤ h'.length ∧ ∀ j, j < h.length → j ≠ i → h'[j]? = h[j]?
theorem Fr.refl {i : Nat} {h : Hm} : Fr i h h := ⟨Nat.le_refl _, fun _ _ _ => rfl⟩
theorem Fr.trans {i : Nat} {h h1 h2 : Hm} (a : Fr i h h1) (b : Fr i h1 h2) : Fr i h h2 := ⟨Nat.le_trans a.1 b.1, fun j hj ne => (b.2 j (Nat.lt_of_lt_of_le hj a.1) ne).trans (a.2 j hj ne)⟩
theorem Fr.app {i : Nat} {h g : Hm} : Fr i h (h ++ g) := ⟨by rw [List.length_append]; omega, fun j hj _ => List.getElem?_append_left hj⟩
theorem Fr.set {i : Nat} {h : Hm} {o : O} : Fr i h (h.set i o) := ⟨by rw [List.length_set]; exact Nat.le_refl _, fun j hj ne => List.getElem?_set_ne (Ne.symm ne)⟩
theorem Fr.get {i j : Nat} {h h' : Hm} {o : O} (f : Fr i h h') (e : h[j]? = some o) (ne : j ≠ i) : h'[j]? = some o := (f.2 j (List.getElem?_eq_some_iff.mp e).1 ne).trans e
theorem roll_fr {i : Nat} {h : Hm} {many : Int} (e : IsDice h i) (h1 : 0 < many) (h2 : many < 1073741824) : ∃ (v : Int) (h' : Hm), 0 ≤ v ∧ v < many ∧ f_roll [.ref i, .int many] h = .ok (.int v) h' ∧ IsDice h' i ∧ h'.length = h.length ∧ Fr i h h' := by
  obtain ⟨a, b, m, e⟩ := e
  have hi := (List.getElem?_eq_some_iff.mp e).1
  obtain ⟨v, a', b', m', v1, v2, run⟩ := roll_ok e h1 h2
  exact ⟨v, _, v1, v2, run, ⟨a', b', m', List.getElem?_set_self hi⟩, List.length_set .., Fr.set⟩
theorem dices_ok (env : Ev) (hE : env.length = 4) : ∀ (cs : List Int) (gs : List (Nat × O)) (h : Hm), (∀ g : Hm, gdOk gs (h ++ g) = true) → ∃ L : List O, L.length = cs.length ∧ (∀ o ∈ L, ∃ a b m : Int, o = .lst [.int a, .int b, .int m]) ∧
    lcL gs (gN 3) tYesM (mCallF 1 f_dice (mCons (mVar 3) mNil)) env (cs.map D.int) h = .ok ((List.range cs.length).map fun k => D.ref (h.length + k)) (h ++ L)
  | [], gs, h, hg => ⟨[], rfl, fun o ho => (by cases ho), by
    have := hg []
    rw [List.append_nil] at this
    simp [lcL, this]⟩
  | c :: cs, gs, h, hg => by
    obtain ⟨a, b, m, e⟩ := dice_ok c h
    obtain ⟨L, hL, h3, ih⟩ := dices_ok env hE cs gs (h ++ [.lst [.int a, .int b, .int m]]) fun g => by rw [List.append_assoc]; exact hg _
    have g0 := hg []
    rw [List.append_nil] at g0
    have e3 : (env.set 3 (some (D.int c)))[3]? = some (some (.int c)) := List.getElem?_set_self (by omega)
    refine ⟨.lst [.int a, .int b, .int m] :: L, by rw [List.length_cons, List.length_cons, hL], fun o ho => ?_, ?_⟩
    · rcases List.mem_cons.mp ho with rfl | ho
      · exact ⟨a, b, m, rfl⟩
      · exact h3 o ho
    · rw [List.map_cons]
      unfold lcL
      rw [if_pos g0]
      simp only [run_gN, run_tyes, run_callF, run_lcons, run_lnil, run_var, e3, bind_ok, List.length_cons, List.length_nil, if_pos, e, ih]
      simp only [List.length_append, List.length_cons, List.length_nil, List.range_succ_eq_map, List.map_cons, List.map_map, List.append_assoc, List.cons_append, List.nil_append, Nat.zero_add]
      congr 2
      apply List.map_congr_left
      intro k _
      show D.ref (h.length + 1 + k) = D.ref (h.length + (k + 1))
      congr 1
      omega
end MM

namespace MM
open PySem L2

theorem mapO_map {α β γ : Type} {f : β → Option γ} {g : α → β} {k : α → γ} (w : ∀ a, f (g a) = some (k a)) : ∀ l : List α, mapO f (l.map g) = some (l.map k)
  | [] => rfl
  | a :: l => by
    rw [List.map_cons, List.map_cons]
    unfold mapO
    rw [w, mapO_map w l]
theorem py_ints {h : Hm} {n : Nat} (cs : List Int) : mapO (py h (n + 1)) (cs.map D.int) = some (cs.map PyData.int) := mapO_map (g := D.int) (k := PyData.int) (fun _ => rfl) cs
theorem py_ref {h : Hm} {n i : Nat} {ds : List D} (e : h[i]? = some (.lst ds)) : py h (n + 1) (.ref i) = (mapO (py h n) ds).map .list := by
  show (match h[i]? with
    | some (.lst ds) => (mapO (py h n) ds).map PyData.list
    | _ => none) = _
  rw [e]
theorem fEq_nil {h : Hm} {i j : Nat} {cs : List Int} (e : h[i]? = some (.lst (cs.map D.int))) (e2 : h[j]? = some (.lst [])) : fEq (.ref i) (.ref j) h = .ok (.bl cs.isEmpty) h := by
  unfold fEq
  rw [if_neg (by show ¬ (false = true); simp), py_ref e, py_ref e2, py_ints]
  cases cs <;> rfl
theorem rounds_fin (d : D) (h0 : Hm) (cells : List Int) (r : Nat) (e1 e3 : Option D) (er : h0[r]? = some (.lst (cells.map D.int))) (hl : cells.length ≤ 16777216) : ∃ L : List O, L.length = cells.length ∧ (∀ o ∈ L, ∃ a b m : Int, o = .lst [.int a, .int b, .int m]) ∧
    (sRet (mLc [3] (mItA (mVar 2)) (gN 3) tYesM (mCallF 1 f_dice (mCons (mVar 3) mNil)))) [some d, e1, some (.ref r), e3] h0 = .ret (.ref (h0.length + cells.length)) (h0 ++ (L ++ [.lst ((List.range cells.length).map fun k => D.ref (h0.length + k))])) := by
  have hr := (List.getElem?_eq_some_iff.mp er).1
  have gg : ∀ g : Hm, gdOk [(r, O.lst (cells.map D.int))] (h0 ++ g) = true := fun g => by
    simp only [gdOk, List.all_cons, List.all_nil, Bool.and_true, decide_eq_true_eq]
    rw [List.getElem?_append_left hr]
    exact er
  obtain ⟨L, hL, h3, run⟩ := dices_ok (wipeE [some d, e1, some (.ref r), e3] [3]) rfl cells _ h0 gg
  refine ⟨L, hL, h3, ?_⟩
  have it : itL h0 (.ref r) = some (cells.map D.int, [(r, O.lst (cells.map D.int))]) := by
    show (match h0[r]? with
      | some (.lst ds) => some (ds, [(r, O.lst ds)])
      | _ => none) = _
    rw [er]
  have v2 : mVar 2 [some d, e1, some (.ref r), e3] h0 = .ok (.ref r) h0 := rfl
  simp only [run_ret, run_lc, run_itA, v2, bind_ok, it, oR, List.length_map, if_pos hl, run, bindS_ok]
  rw [List.length_append, hL, List.append_assoc]
theorem rounds_ok {d : D} {h : Hm} {ns : List Int} {most : Nat} (hm : most ≤ 1000) (sc : Scr ns d h) : ∃ (L : List O) (cells : List Int) (n : Nat), n + cells.length + 1 = L.length ∧
    f_rounds [d, .int most] h = .ok (.ref (h.length + n + cells.length)) (h ++ L) ∧ L[n + cells.length]? = some (.lst ((List.range cells.length).map fun k => D.ref (h.length + n + k))) ∧ ∀ k, k < cells.length → ∃ a b m : Int, L[n + k]? = some (.lst [.int a, .int b, .int m]) := by
  obtain ⟨cs, hcs, hlen⟩ : ∃ cs : List Int, fSl d none (some (most : Int)) h = .ok (.ref h.length) (h ++ [.lst (cs.map D.int)]) ∧ cs.length ≤ 1000 := by
    have hb : HT.sIx (ns.map D.int).length (ns.map D.int).length (some (most : Int)) ≤ most := by
      unfold HT.sIx
      simp only
      split <;> omega
    rcases sc with ⟨rfl, rfl⟩ | ⟨rfl, rfl⟩
    · refine ⟨(ns.drop (HT.sIx (ns.map D.int).length 0 none)).take (HT.sIx (ns.map D.int).length (ns.map D.int).length (some (most : Int)) - HT.sIx (ns.map D.int).length 0 none), ?_, ?_⟩
      · show R.ok _ _ = _
        unfold cutD
        rw [List.map_take, List.map_drop]
      · rw [List.length_take]
        omega
    · refine ⟨(ns.drop (HT.sIx (ns.map D.int).length 0 none)).take (HT.sIx (ns.map D.int).length (ns.map D.int).length (some (most : Int)) - HT.sIx (ns.map D.int).length 0 none), ?_, ?_⟩
      · show R.ok _ _ = _
        unfold cutD
        rw [List.map_take, List.map_drop]
      · rw [List.length_take]
        omega
  have q : ((h ++ [O.lst (cs.map D.int)]) ++ [O.lst []])[h.length]? = some (O.lst (cs.map D.int)) := by
    rw [List.getElem?_append_left (by simp), List.getElem?_append_right (Nat.le_refl _), Nat.sub_self]
    rfl
  have q2 : ((h ++ [O.lst (cs.map D.int)]) ++ [O.lst []])[(h ++ [O.lst (cs.map D.int)]).length]? = some (O.lst []) := by
    rw [List.getElem?_append_right (Nat.le_refl _), Nat.sub_self]
    rfl
  have eq := fEq_nil q q2
  have done : ∀ (L0 : List O) (cells : List Int) (r : Nat) (e1 e3 : Option D), (h ++ L0)[r]? = some (O.lst (cells.map D.int)) → cells.length ≤ 16777216 →
      b_rounds [some d, some (.int most), none, none] h = (sRet (mLc [3] (mItA (mVar 2)) (gN 3) tYesM (mCallF 1 f_dice (mCons (mVar 3) mNil)))) [some d, e1, some (.ref r), e3] (h ++ L0) →
      ∃ (L : List O) (cells : List Int) (n : Nat), n + cells.length + 1 = L.length ∧
        f_rounds [d, .int most] h = .ok (.ref (h.length + n + cells.length)) (h ++ L) ∧ L[n + cells.length]? = some (.lst ((List.range cells.length).map fun k => D.ref (h.length + n + k))) ∧ ∀ k, k < cells.length → ∃ a b m : Int, L[n + k]? = some (.lst [.int a, .int b, .int m]) := by
    intro L0 cells r e1 e3 er hl run
    obtain ⟨L, hL, h3, fin⟩ := rounds_fin d (h ++ L0) cells r e1 e3 er hl
    rw [fin] at run
    refine ⟨L0 ++ (L ++ [.lst ((List.range cells.length).map fun k => D.ref (h.length + L0.length + k))]), cells, L0.length, by simp [hL]; omega, ?_, ?_, fun k hk => ?_⟩
    · show (match b_rounds [some d, some (.int most), none, none] h with
        | .next _ h' => R.ok D.non h'
        | .ret d h' => .ok d h'
        | .exn x _ h' => .exn x h'
        | _ => .bad) = _
      rw [run]
      simp only [List.length_append, List.append_assoc]
    · rw [List.getElem?_append_right (by omega), show L0.length + cells.length - L0.length = L.length by omega, List.getElem?_append_right (Nat.le_refl _), Nat.sub_self]
      rfl
    · have hk2 : k < L.length := by omega
      rw [List.getElem?_append_right (by omega), show L0.length + k - L0.length = k by omega, List.getElem?_append_left hk2, List.getElem?_eq_getElem hk2]
      obtain ⟨a, b, m, e⟩ := h3 _ (List.getElem_mem hk2)
      exact ⟨a, b, m, by rw [e]⟩
  cases hc : cs with
  | nil =>
    subst hc
    refine done [.lst [], .lst [], .lst [.int 0]] [0] (h.length + 2) (some (.int most)) none ?_ (by decide) ?_
    · rw [List.getElem?_append_right (by omega), show h.length + 2 - h.length = 2 by omega]
      rfl
    · have hcs' : fSl d none (some (most : Int)) h = .ok (.ref h.length) (h ++ [O.lst []]) := hcs
      have eq' : fEq (.ref h.length) (.ref (h.length + 1)) (h ++ [O.lst [], O.lst []]) = .ok (.bl true) (h ++ [O.lst [], O.lst []]) := by
        have z := eq
        simp only [List.map_nil, List.length_append, List.length_cons, List.length_nil, List.append_assoc, List.cons_append, List.nil_append, Nat.zero_add] at z
        exact z
      simp [b_rounds, hcs', eq', -run_lc]
  | cons c cs' =>
    subst hc
    refine done [.lst ((c :: cs').map D.int), .lst []] (c :: cs') h.length (some (.int most)) none ?_ (by omega) ?_
    · rw [List.getElem?_append_right (Nat.le_refl _), Nat.sub_self]
      rfl
    · have eq' : fEq (.ref h.length) (.ref (h.length + 1)) (h ++ [O.lst ((c :: cs').map D.int), O.lst []]) = .ok (.bl false) (h ++ [O.lst ((c :: cs').map D.int), O.lst []]) := by
        have z := eq
        simp only [List.length_append, List.length_cons, List.length_nil, List.append_assoc, List.cons_append, List.nil_append, Nat.zero_add] at z
        exact z
      simp only [List.map_cons] at hcs eq' ⊢
      simp [b_rounds, hcs, eq', -run_lc]
def lawOf (most : Nat) (B : Ev → Hm → SR) : Ev → Hm → SR := sSeq (sFor (mItA (mCallF 2 f_rounds (mCons (mVar 0) (mCons (mC (.int (most : Int))) mNil)))) (gN 1) B) (sRet (mC (.bl true)))
/-- a round's body goes on, and leaves what is not its own -/
def RoundOk (N : Nat) (B : Ev → Hm → SR) : Prop := ∀ (d : D) (i : Nat) (rest : List (Option D)) (h : Hm), rest.length = N - 2 → IsDice h i → ∃ (rest' : List (Option D)) (h' : Hm), B (some d :: some (.ref i) :: rest) h = .next (some d :: some (.ref i) :: rest') h' ∧ rest'.length = N - 2 ∧ Fr i h h'
theorem rounds_loop {N : Nat} {B : Ev → Hm → SR} (hB : RoundOk N B) (d : D) (r : Nat) (all : List D) : ∀ (ks : List Nat) (e1 : Option D) (rest : List (Option D)) (h : Hm), rest.length = N - 2 → h[r]? = some (.lst all) → (∀ k ∈ ks, k ≠ r ∧ IsDice h k) → ks.Nodup →
    ∃ (env' : Ev) (h' : Hm), forL [(r, .lst all)] (gN 1) B (ks.map D.ref) (some d :: e1 :: rest) h = .next env' h'
  | [], e1, rest, h, hl, hr, hk, nd => by
    refine ⟨some d :: e1 :: rest, h, ?_⟩
    rw [List.map_nil]
    unfold forL
    rw [if_pos (by simp [gdOk, hr])]
  | k :: ks, e1, rest, h, hl, hr, hk, nd => by
    obtain ⟨nk, dk⟩ := hk k List.mem_cons_self
    obtain ⟨rest', h', run, hl', fr⟩ := hB d k rest h hl dk
    rw [List.nodup_cons] at nd
    obtain ⟨env2, h2, ih⟩ := rounds_loop hB d r all ks (some (.ref k)) rest' h' hl' (fr.get hr (Ne.symm nk)) (fun j hj => by
      obtain ⟨nj, a, b, m, dj⟩ := hk j (List.mem_cons_of_mem _ hj)
      exact ⟨nj, a, b, m, fr.get dj (fun z => nd.1 (z ▸ hj))⟩) nd.2
    refine ⟨env2, h2, ?_⟩
    rw [List.map_cons]
    unfold forL
    rw [if_pos (by simp [gdOk, hr])]
    simp only [run_gN, List.set_cons_succ, List.set_cons_zero, only_next, run]
    exact ih
theorem plain_rounds {N most n : Nat} {B : Ev → Hm → SR} (hN : 2 ≤ N) (hm : most ≤ 1000) (hB : RoundOk N B) : PlainLaw (callM N 1 (lawOf most B)) n := by
  intro ns d h _ sc
  obtain ⟨L, cells, m, hL, run, eL, ed⟩ := rounds_ok hm sc
  have hst : startE N [d] = some d :: none :: List.replicate (N - 2) none := by
    show some d :: List.replicate (N - 1) none = _
    rw [show N - 1 = (N - 2) + 1 by omega, List.replicate_succ]
  have er : (h ++ L)[h.length + m + cells.length]? = some (.lst ((List.range cells.length).map fun k => D.ref (h.length + m + k))) := by
    rw [List.getElem?_append_right (by omega), show h.length + m + cells.length - h.length = m + cells.length by omega]
    exact eL
  obtain ⟨env', h', loop⟩ := rounds_loop hB d (h.length + m + cells.length) ((List.range cells.length).map fun k => D.ref (h.length + m + k)) ((List.range cells.length).map fun k => h.length + m + k) none (List.replicate (N - 2) none) (h ++ L) (List.length_replicate ..) er (fun k hk => by
    obtain ⟨j, hj, rfl⟩ := List.mem_map.mp hk
    rw [List.mem_range] at hj
    obtain ⟨a, b, c, e⟩ := ed j hj
    refine ⟨by omega, a, b, c, ?_⟩
    rw [List.getElem?_append_right (by omega), show h.length + m + j - h.length = m + j by omega]
    exact e) (by
    refine List.nodup_iff_pairwise_ne.mpr ?_
    rw [List.pairwise_map]
    exact List.Pairwise.imp (fun hab => by omega) List.pairwise_lt_range)
  rw [List.map_map] at loop
  rw [show (fun k => D.ref (h.length + m + k)) = D.ref ∘ fun k => h.length + m + k from rfl] at loop
  refine ⟨h', ?_⟩
  have it : itL (h ++ L) (.ref (h.length + m + cells.length)) = some ((List.range cells.length).map fun k => D.ref (h.length + m + k), [(h.length + m + cells.length, .lst ((List.range cells.length).map fun k => D.ref (h.length + m + k)))]) := by
    show (match (h ++ L)[h.length + m + cells.length]? with
      | some (.lst ds) => some (ds, [(h.length + m + cells.length, O.lst ds)])
      | _ => none) = _
    rw [er]
  show (match lawOf most B (startE N [d]) h with
    | .next _ h' => R.ok D.non h'
    | .ret d h' => .ok d h'
    | .exn x _ h' => .exn x h'
    | _ => .bad) = _
  rw [hst]
  have v0 : mVar 0 (some d :: none :: List.replicate (N - 2) none) h = .ok d h := rfl
  simp only [lawOf, run_seq, run_for, run_itA, run_callF, run_lcons, run_lnil, run_C, v0, bind_ok, List.length_cons, List.length_nil, if_pos, run, it, oR, bindS_ok]
  rw [show (fun k => D.ref (h.length + m + k)) = D.ref ∘ fun k => h.length + m + k from rfl, loop]
  rfl
theorem fIx_int {h : Hm} {r : Nat} {ds : List D} {k : Int} {x : D} (e : h[r]? = some (.lst ds)) (hk : 0 ≤ k) (e2 : ds[k.toNat]? = some x) : fIx (.ref r) (.int k) h = .ok x h := by
  have := fIx_lst (j := k.toNat) e e2
  rwa [Int.toNat_of_nonneg hk] at this
theorem fSet_int {h : Hm} {r : Nat} {ds : List D} {k : Int} {y : D} (e : h[r]? = some (.lst ds)) (hk : 0 ≤ k) (hj : k.toNat < ds.length) : fSet (.ref r) (.int k) y h = some (h.set r (.lst (ds.set k.toNat y))) := by
  have := fSet_lst (y := y) e hj
  rwa [Int.toNat_of_nonneg hk] at this
/-- all that stood stands: the rest is new -/
theorem ext_app {h h' : Hm} (hl : h.length ≤ h'.length) (w : ∀ j, j < h.length → h'[j]? = h[j]?) : ∃ g, h' = h ++ g := by
  refine ⟨h'.drop h.length, ?_⟩
  apply List.ext_getElem?
  intro j
  by_cases hj : j < h.length
  · rw [w j hj, List.getElem?_append_left hj]
  · rw [List.getElem?_append_right (by omega), List.getElem?_drop]
    congr 1
    omega
section
variable {h : Hm} {r : Nat} {ds es : List D} {x y : D}
theorem isL_ok (e : h[r]? = some (.lst ds)) : isL h (.ref r) = true := by
  show (match h[r]? with
    | some (.lst _) => true
    | _ => false) = true
  rw [e]
theorem fAppend_ok (e : h[r]? = some (.lst ds)) (hl : ds.length < 16777216) : fAppend (.ref r) [y] h = .ok .non (h.set r (.lst (ds ++ [y]))) := by
  unfold fAppend
  simp only [e, if_pos hl]
theorem fLen_lst (e : h[r]? = some (.lst ds)) : fLen [.ref r] h = .ok (.int (ds.length : Int)) h := by
  unfold fLen
  simp only [lenD, e]
theorem itL_lst (e : h[r]? = some (.lst ds)) : itL h (.ref r) = some (ds, [(r, .lst ds)]) := by
  show (match h[r]? with
    | some (.lst ds) => some (ds, [(r, O.lst ds)])
    | _ => none) = _
  rw [e]
theorem fList_lst (e : h[r]? = some (.lst ds)) : fList [.ref r] h = .ok (.ref h.length) (h ++ [.lst ds]) := by
  unfold fList
  simp only [itemsD, e]
theorem fTuple_lst (e : h[r]? = some (.lst ds)) : fTuple [.ref r] h = .ok (.tup ds) h := by
  unfold fTuple
  simp only [itemsD, e]
end
def lcTurn (g : Gt) (t : Ev → Hm → R Bool) (e : Ev → Hm → R D) (env : Ev) (d : D) (h : Hm) : R (Option D) := match g d env h with
  | .next e1 h1 => (match t e1 h1 with
    | .ok true h2 => (match e e1 h2 with
      | .ok y h3 => .ok (some y) h3
      | _ => .bad)
    | .ok false h2 => .ok none h2
    | _ => .bad)
  | _ => .bad
def consO (o : Option D) (r : R (List D)) : R (List D) := match o with
  | some y => (match r with
    | .ok ys h4 => .ok (y :: ys) h4
    | _ => .bad)
  | none => r
theorem lcL_cons {gs : List (Nat × O)} {g : Gt} {t : Ev → Hm → R Bool} {e : Ev → Hm → R D} {env : Ev} {d : D} {ds : List D} {h h1 : Hm} {o : Option D} (hg : gdOk gs h = true) (e1 : lcTurn g t e env d h = .ok o h1) : lcL gs g t e env (d :: ds) h = consO o (lcL gs g t e env ds h1) := by
  unfold lcTurn at e1
  rw [lcL, if_pos hg]
  split at e1
  · rename_i e2 h2 q
    try rw [q]
    try simp only
    split at e1
    · rename_i h3 q2
      try rw [q2]
      try simp only
      split at e1
      · rename_i y h4 q3
        try rw [q3]
        cases e1
        rfl
      · cases e1
    · rename_i h3 q2
      try rw [q2]
      cases e1
      rfl
    · cases e1
  · cases e1
theorem lcL_pure {gs : List (Nat × O)} {g : Gt} {t : Ev → Hm → R Bool} {e : Ev → Hm → R D} {env : Ev} {h : Hm} (hg : gdOk gs h = true) {α : Type} (f : α → D) (y : α → Option D) : ∀ (xs : List α), (∀ a ∈ xs, lcTurn g t e env (f a) h = .ok (y a) h) → lcL gs g t e env (xs.map f) h = .ok (xs.filterMap y) h
  | [], _ => by simp [lcL, hg]
  | a :: xs, H => by
    have ih := lcL_pure hg f y xs fun b hb => H b (List.mem_cons_of_mem _ hb)
    rw [List.map_cons, lcL_cons hg (H a List.mem_cons_self), ih]
    cases q : y a with
    | none => rw [List.filterMap_cons_none q] <;> rfl
    | some z => rw [List.filterMap_cons_some q] <;> rfl
/-- [roll(dice, many) for t in ..] -/
theorem rolls_lc {i t : Nat} {many : Int} {env : Ev} (ht : t ≠ 1) (he : env[1]? = some (some (.ref i))) (m1 : 0 < many) (m2 : many < 1073741824) : ∀ (ds : List D) (h : Hm), IsDice h i → ∃ (vs : List Int) (h' : Hm), lcL [] (gN t) tYesM (mCallF 2 f_roll (mCons (mVar 1) (mCons (mC (.int many)) mNil))) env ds h = .ok (vs.map D.int) h' ∧ (∀ v ∈ vs, 0 ≤ v ∧ v < many) ∧ vs.length = ds.length ∧ IsDice h' i ∧ h'.length = h.length ∧ Fr i h h'
  | [], h, di => ⟨[], h, by simp [lcL, gdOk], fun v hv => (by cases hv), rfl, di, rfl, Fr.refl⟩
  | d :: ds, h, di => by
    obtain ⟨v, h1, v1, v2, run, d1, l1, f1⟩ := roll_fr di m1 m2
    obtain ⟨vs, h2, run2, b2, len2, d2, l2, f2⟩ := rolls_lc ht he m1 m2 ds h1 d1
    refine ⟨v :: vs, h2, ?_, fun u hu => ?_, by rw [List.length_cons, List.length_cons, len2], d2, l2.trans l1, f1.trans f2⟩
    · have e2 : (env.set t (some d))[1]? = some (some (.ref i)) := by rw [List.getElem?_set_ne ht]; exact he
      have tn : lcTurn (gN t) tYesM (mCallF 2 f_roll (mCons (mVar 1) (mCons (mC (.int many)) mNil))) env d h = .ok (some (.int v)) h1 := by
        simp [lcTurn, e2, run]
      rw [lcL_cons (by simp [gdOk]) tn, run2]
      rfl
    · rcases List.mem_cons.mp hu with rfl | hu
      · exact ⟨v1, v2⟩
      · exact b2 u hu
theorem fNe_t2 {h : Hm} {a b c e : Int} : fNe (.tup [.int a, .int b]) (.tup [.int c, .int e]) h = .ok (.bl (!(a == c && b == e))) h := by
  unfold fNe
  rw [if_neg (by show ¬ (false = true); simp)]
  simp [py, mapO, PyData.eqv, PyData.eqvAll]
theorem sm62_of {v : Int} (h1 : 0 ≤ v) (h2 : v < 1000000000) : sm62 v = true := by
  unfold sm62
  rw [decide_eq_true_eq]
  omega
theorem rng1_nat (n : Nat) : rng1 0 n = (List.range n).map fun k : Nat => D.int (0 + (k : Int)) := rfl
theorem rng1_len (lo : Int) (n : Nat) : (rng1 lo n).length = n := by simp [rng1]
theorem keep_app {h g : Hm} {r : Nat} {o : O} (e : h[r]? = some o) : (h ++ g)[r]? = some o := by
  rw [List.getElem?_append_left (List.getElem?_eq_some_iff.mp e).1]
  exact e
theorem IsDice.app {h g : Hm} {i : Nat} (d : IsDice h i) : IsDice (h ++ g) i := by
  obtain ⟨a, b, m, e⟩ := d
  exact ⟨a, b, m, keep_app e⟩
theorem IsDice.set {h : Hm} {i n : Nat} {o : O} (d : IsDice h i) (ne : n ≠ i) : IsDice (h.set n o) i := by
  obtain ⟨a, b, m, e⟩ := d
  exact ⟨a, b, m, by rw [List.getElem?_set_ne ne]; exact e⟩
theorem IsDice.lt {h : Hm} {i : Nat} (d : IsDice h i) : i < h.length := by
  obtain ⟨a, b, m, e⟩ := d
  exact (List.getElem?_eq_some_iff.mp e).1
theorem Fr.hi {i n : Nat} {h h' : Hm} {o : O} (f : Fr i h h') (hn : h.length ≤ n) : Fr i h (h'.set n o) := ⟨by rw [List.length_set]; exact f.1, fun j hj ne => by rw [List.getElem?_set_ne (by omega)]; exact f.2 j hj ne⟩
theorem Fr.app2 {i : Nat} {h h' g : Hm} (f : Fr i h h') : Fr i h (h' ++ g) := f.trans Fr.app
theorem get_new {h : Hm} {o : O} : (h ++ [o])[h.length]? = some o := by
  rw [List.getElem?_append_right (Nat.le_refl _), Nat.sub_self]
  rfl
theorem seq_next {sa sb : Ev → Hm → SR} {env e1 : Ev} {h h1 : Hm} {r : SR} (a : sa env h = .next e1 h1) (b : sb e1 h1 = r) : sSeq sa sb env h = r := by
  rw [run_seq, a]
  exact b
theorem lcL_grow {gs : List (Nat × O)} {g : Gt} {t : Ev → Hm → R Bool} {e : Ev → Hm → R D} {env : Ev} {h : Hm} (hg : ∀ w : Hm, gdOk gs (h ++ w) = true) {α : Type} (f : α → D) (y : α → Option D) : ∀ (xs : List α) (w : Hm), (∀ a ∈ xs, ∀ w : Hm, ∃ w' : Hm, lcTurn g t e env (f a) (h ++ w) = .ok (y a) (h ++ (w ++ w'))) → ∃ w' : Hm, lcL gs g t e env (xs.map f) (h ++ w) = .ok (xs.filterMap y) (h ++ (w ++ w'))
  | [], w, _ => ⟨[], by simp [lcL, hg w]⟩
  | a :: xs, w, H => by
    obtain ⟨w1, e1⟩ := H a List.mem_cons_self w
    obtain ⟨w2, e2⟩ := lcL_grow hg f y xs (w ++ w1) fun b hb => H b (List.mem_cons_of_mem _ hb)
    refine ⟨w1 ++ w2, ?_⟩
    rw [List.map_cons, lcL_cons (hg w) e1, e2]
    cases q : y a with
    | none => rw [List.filterMap_cons_none q, List.append_assoc] <;> rfl
    | some z => rw [List.filterMap_cons_some q, List.append_assoc] <;> rfl
theorem fSl_lst {h : Hm} {r : Nat} {ds : List D} (e : h[r]? = some (.lst ds)) (lo hi : Option Int) : fSl (.ref r) lo hi h = .ok (.ref h.length) (h ++ [.lst (cutD ds lo hi)]) := by
  unfold fSl
  simp only [e]
theorem sIx_nat {n k : Nat} (d : Nat) (hk : k ≤ n) : HT.sIx n d (some (k : Int)) = k := by
  unfold HT.sIx
  simp only
  split <;> omega
theorem cutD_nat {ds : List D} {a b : Nat} (h1 : a ≤ ds.length) (h2 : b ≤ ds.length) : cutD ds (some (a : Int)) (some (b : Int)) = (ds.drop a).take (b - a) := by
  unfold cutD
  rw [sIx_nat _ h1, sIx_nat _ h2]
theorem cutD_to {ds : List D} {b : Nat} (h2 : b ≤ ds.length) : cutD ds none (some (b : Int)) = ds.take b := by
  unfold cutD
  rw [sIx_nat _ h2]
  rfl
theorem fEq_nilD {h : Hm} {i j : Nat} {ds : List D} (hd : ∀ n : Nat, ∃ qs, mapO (py h (n + 1)) ds = some qs) (e : h[i]? = some (.lst ds)) (e2 : h[j]? = some (.lst [])) : fEq (.ref i) (.ref j) h = .ok (.bl ds.isEmpty) h := by
  obtain ⟨qs, q⟩ := hd 58
  unfold fEq
  rw [if_neg (by show ¬ (false = true); simp), py_ref e, py_ref e2, q]
  cases ds with
  | nil => cases q; rfl
  | cons a l =>
    cases qs with
    | nil =>
      unfold mapO at q
      split at q
      · split at q <;> cases q
      · cases q
    | cons b m => rfl
theorem lim_lt {n : Nat} (h : n ≤ 1000) : n < 16777216 := Nat.lt_of_le_of_lt h (by decide)
theorem lc_a {vs : List Nat} {m : Ev → Hm → R Itr} {g : Gt} {t : Ev → Hm → R Bool} {e : Ev → Hm → R D} {env : Ev} {h h1 h2 : Hm} {it : Itr} {ys : List D} (a : m env h = .ok it h1) (hl : it.1.length ≤ 16777216) (b : lcL it.2 g t e (wipeE env vs) it.1 h1 = .ok ys h2) : mLc vs m g t e env h = .ok (.ref h2.length) (h2 ++ [.lst ys]) := by
  rw [run_lc, a, bind_ok, if_pos hl, b]
theorem lim_le {n : Nat} (h : n ≤ 1000) : n ≤ 16777216 := Nat.le_trans h (by decide)
/-- a comprehension's run, put together -/
theorem lc_run {vs : List Nat} {m : Ev → Hm → R Itr} {g : Gt} {t : Ev → Hm → R Bool} {e : Ev → Hm → R D} {env : Ev} {h h1 h2 : Hm} {it : Itr} {ds ys : List D} {gs : List (Nat × O)} (a : m env h = .ok it h1) (hl : ds.length ≤ 1000) (b : lcL gs g t e (wipeE env vs) ds h1 = .ok ys h2) (e1 : it.1 = ds := by rfl) (e2 : it.2 = gs := by rfl) : mLc vs m g t e env h = .ok (.ref h2.length) (h2 ++ [.lst ys]) :=
  lc_a a (lim_le (by rw [e1]; exact hl)) (by rw [e1, e2]; exact b)
theorem rg1_runv {r : Ev → Hm → R (List D)} {env : Ev} {h h1 : Hm} {v : Int} (a : r env h = .ok [.int v] h1) (s : sm62 v = true) : mRg1 r env h = .ok (rng1 0 v.toNat, []) h1 := by
  rw [run_rg1, a, bind_ok]
  exact if_pos s
theorem rg1_run {r : Ev → Hm → R (List D)} {env : Ev} {h h1 : Hm} {n : Nat} (a : r env h = .ok [.int (n : Int)] h1) (hn : n ≤ 1000) : mRg1 r env h = .ok ((List.range n).map (fun k : Nat => D.int (0 + (k : Int))), []) h1 := by
  have q : ∀ v : Int, v = (n : Int) → r env h = .ok [.int v] h1 → mRg1 r env h = .ok ((List.range n).map (fun k : Nat => D.int (0 + (k : Int))), []) h1 := fun v e a => by
    have s : sm62 v = true := sm62_of (by omega) (by omega)
    have t : v.toNat = n := by omega
    rw [rg1_runv a s, t, rng1_nat]
  exact q _ rfl a
theorem asg_run {i : Nat} {m : Ev → Hm → R D} {env : Ev} {h h1 : Hm} {d : D} (a : m env h = .ok d h1) : sAsg (gN i) m env h = .next (env.set i (some d)) h1 := by
  rw [run_asg, a]
  rfl
/-- one turn of a loop that goes on -/
theorem forL_next {gs : List (Nat × O)} {g : Gt} {b : Ev → Hm → SR} {d : D} {ds : List D} {env e1 e2 : Ev} {h h1 h2 : Hm} {r : SR} (hg : gdOk gs h = true) (a : g d env h = .next e1 h1) (w : b e1 h1 = .next e2 h2) (k : forL gs g b ds e2 h2 = r) : forL gs g b (d :: ds) env h = r := by
  rw [forL, if_pos hg, a, only_next]
  simp only
  rw [w]
  exact k
theorem forL_nil {gs : List (Nat × O)} {g : Gt} {b : Ev → Hm → SR} {env : Ev} {h : Hm} (hg : gdOk gs h = true) : forL gs g b [] env h = .next env h := by
  rw [forL, if_pos hg]
theorem gdOk_nil {h : Hm} : gdOk [] h = true := rfl
theorem gdOk_one {h : Hm} {r : Nat} {o : O} (e : h[r]? = some o) : gdOk [(r, o)] h = true := by
  simp [gdOk, e]
theorem fIx_zero {h : Hm} {r : Nat} {d : D} {ds : List D} (e : h[r]? = some (.lst (d :: ds))) : fIx (.ref r) (.int 0) h = .ok d h := fIx_lst (j := 0) e rfl
theorem fPop_at {h : Hm} {r j : Nat} {ds : List D} {x : D} (e : h[r]? = some (.lst ds)) (e2 : ds[j]? = some x) (hl : ds.length ≤ 1000) : fPop (.ref r) [.int (j : Int)] h = .ok x (h.set r (.lst (ds.eraseIdx j))) := by
  have hj : j < ds.length := (List.getElem?_eq_some_iff.mp e2).1
  unfold fPop
  simp only [e, ixN_nat hj, e2, if_pos (lim_le hl)]
theorem fNe_nil {h : Hm} {i j : Nat} {cs : List Int} (e : h[i]? = some (.lst (cs.map D.int))) (e2 : h[j]? = some (.lst [])) : fNe (.ref i) (.ref j) h = .ok (.bl (!cs.isEmpty)) h := by
  unfold fNe
  rw [if_neg (by show ¬ (false = true); simp), py_ref e, py_ref e2, py_ints]
  cases cs <;> rfl
theorem seq_ret {sa sb : Ev → Hm → SR} {env : Ev} {h h1 : Hm} {d : D} (a : sa env h = .ret d h1) : sSeq sa sb env h = .ret d h1 := by
  rw [run_seq, a]
  rfl
theorem fNe_same {h : Hm} {i j : Nat} {ds : List D} {qs : List PyData} (q : mapO (py h 59) ds = some qs) (ok : PyData.canLay0 (.list qs) = true) (e : h[i]? = some (.lst ds)) (e2 : h[j]? = some (.lst ds)) : fNe (.ref i) (.ref j) h = .ok (.bl false) h := by
  have p1 : py h 60 (.ref i) = some (.list qs) := by rw [py_ref e, q]; rfl
  have p2 : py h 60 (.ref j) = some (.list qs) := by rw [py_ref e2, q]; rfl
  unfold fNe
  rw [if_neg (by show ¬ (false = true); simp), p1, p2]
  show R.ok (D.bl (!PyData.eqv (.list qs) (.list qs))) h = _
  rw [SeqAt.eqv_refl _ ok]
  rfl
end MM

namespace MM
open PySem L2

def tellL : List (Str × Str) → Str → Option Str
  | [], _ => none
  | (c, t) :: r, x => if x = c then some t else tellL r x
def mTold (cs : List (Str × Str)) (m : Ev → Hm → R D) : Ev → Hm → R D := fun env h => match m env h with
  | .exn x h1 => match tellL cs x.cls with
    | some t => .ok (.str t) h1
    | none => .bad
  | r => r
/-- what the clauses wish -/
def chainW (K : PySem.W.Frag) (Q : VK) : List (Value × Str) → Value → Hp → Prop
  | [], _, _ => False
  | (c, t) :: r, cls, H => ∃ b, PySem.W.exmOne K cls c = some b ∧ (b = true → Q (.str t) H) ∧ (b = false → chainW K Q r cls H)
def TToldM (K : PySem.W.Frag) (l : List (Value × Str)) : (XK → Hp → VK → Prop) → Hp → VK → Prop := fun tl H Q => tl (fun cls _ H' => chainW K Q l cls H') H Q
inductive Hds (mg : Str → Option Value) (sg : Scope) : List ExceptHandler → List (Value × Str) → Prop
  | nil : Hds mg sg [] []
  | cons {e ret : Str} {j : Nat} {p4 p5 p6 p7 : Pos} {CS : Addr} {hds : List ExceptHandler} {l : List (Value × Str)} (hge : sg.names.lookup e = some .globalImplicit) (hme : mg e = some (.ref CS)) (hde : (e == ("__debug__" : Str)) = false) (r : Hds mg sg hds l) :
      Hds mg sg (.ExceptHandler (some (.Name e p4)) none [.Return (some (.Constant (.str ret) j p5)) p6] p7 :: hds) ((.ref CS, ret) :: l)
def retT (ret : Str) : TS := fun D _ H => D.rt (.str ret) H
def hdsT (l : List (Value × Str)) : List (Value × (Addr → Value → Option Addr → TS)) := l.map fun p => (p.1, fun _ _ _ => retT p.2)
theorem hds_ok {X : Cx} {sg : Scope} (hs : X.env.scope = sg) {hds : List ExceptHandler} {l : List (Value × Str)} (h : Hds X.mg sg hds l) : HdsOk X hds (hdsT l) := by
  induction h with
  | nil => exact .nil
  | cons hge hme hde r ih =>
    refine HdsOk.cons ⟨?_, hde, .inl hme⟩ (fun a oe cls d pn _ _ => PSs.of (pss_one (ps_ret pe_str)) fun D σ H h => h) ih
    show X.env.scope.names.lookup _ = _
    rw [hs]
    exact hge
theorem wMany_of {K : PySem.W.Frag} {Wout : WX} {D : Ends} {cls : Value} {d : Option Addr} {σ : L2.St} {H : Hp} : ∀ {l : List (Value × Str)}, chainW K D.rt l cls H → wMany K Wout D (hdsT l) cls d σ H
  | [], h => h.elim
  | (c, t) :: r, ⟨b, e1, e2, e3⟩ => ⟨b, e1, fun hb _ _ => e2 hb, fun hb => wMany_of (e3 hb)⟩
theorem toldM_gives {X : Cx} {Ng : List Str} {x a q : Str} {sg : Scope} {g : Addr} {cdg : Value} {h₀ : ExceptHandler} {hds : List ExceptHandler} {l : List (Value × Str)} {p1 p2 p3 p8 : Pos} (hd : Hds X.mg sg (h₀ :: hds) l) (h0 : ∀ f : Addr, (L2.start Ng [V.ref f])[0]? = some (some (V.ref f))) :
    LamX.GivesTo X Ng x sg g cdg [.Try [.Return (some (.Call (.Name a p1) [] [] p2)) p3] (h₀ :: hds) [] [] p8] a q (TToldM X.K l) := by
  intro f c' s H Q tl act hc h
  refine ⟨_, pss_one (ps_try_many (X := (cxOf C8.CX0 X.prog X.w X.K X.mg X.base Ng x sg g cdg X.A X.stack s H C8.E0).nox)
      (tb := fun W D σ H => ∃ Ech : XK, (∀ cls d σ' H', Ech cls d H' → W cls d σ' H') ∧ σ[0]? = some (some (.ref f)) ∧ H c' = some (LamX.CodeO c' q) ∧ tl Ech H D.rt)
      rfl rfl LamX.takes0 (fun W pn xe tk _ => ?_) (hds_ok rfl hd)), ?_⟩
  · refine ⟨fun pins s' σ H' D I h' => ?_⟩
    obtain ⟨Ech, hW, h1, h2, h3⟩ := h'
    have hp := act W pn xe Ech p1 p2 tk hW
    have hq := pss_one (ps_ret (pos := p3) hp)
    exact hq.run pins s' σ H' D I ⟨h1, h2, h3⟩
  · exact ⟨fun cls _ H' => chainW X.K Q l cls H', fun cls d σ' H' z => wMany_of z, h0 f, hc, h⟩
/-- the def that tells -/
def ToldOk (K : PySem.W.Frag) (mg : Str → Option Value) (x : Str) (g : Addr) (cs : List (Str × Str)) : Prop :=
  ∃ (a : Str) (pg : Arguments) (p1 p2 p3 p8 : Pos) (h₀ : ExceptHandler) (hds : List ExceptHandler) (sg : Scope) (Ng : List Str) (l : List (Value × Str)) (fd : FuncData),
    FunD K x x pg [.Try [.Return (some (.Call (.Name a p1) [] [] p2)) p3] (h₀ :: hds) [] [] p8] sg [] [] g fd ∧ Binds K fd [a] [] ∧ FnScope Ng [a] sg ∧ Ng[0]? = some a ∧ Vis sg a ∧ Hds mg sg (h₀ :: hds) l ∧ (∀ f : Addr, (L2.start Ng [V.ref f])[0]? = some (some (V.ref f))) ∧
    (∀ c t, tellL cs c = some t → ∀ C, mg c = some (.ref C) → ∀ (Q : VK) (H : Hp), Q (.str t) H → chainW K Q l (.ref C) H) ∧ (a == ("__debug__" : Str)) = false ∧ (a == ("__classdict__" : Str)) = false
/-- the heap goes on, the tables have grown -/
theorem step_extN {G : Gx} {π : List Addr} {H H1 : Hp} {h : Hm} (e : LamX.ExtN H H1) : Step π H π H1 := ⟨⟨[], by simp⟩, fun _ _ _ q _ => q, fun a o h1 _ t => e a o h1 t⟩
theorem Good.extN {G : Gx} {π : List Addr} {H H1 : Hp} {h : Hm} (g : Good G π h H) (e : LamX.ExtN H H1) (t : LamX.Tabs G.T H1) : Good G π h H1 := by
  refine ⟨g.len, g.nd, fun i a o e1 e2 => ?_, t, g.tout⟩
  have w := g.ob i a o e1 e2
  refine w.step (step_extN (G := G) (h := h) e) ?_
  cases o with
  | lst ds => obtain ⟨xs, z, _⟩ := w; rw [z]; exact e _ _ z (fun ps z => by cases z)
  | dic ds => obtain ⟨xs, z, _⟩ := w; rw [z]; exact e _ _ z (fun ps z => by cases z)
  | ins c fs => obtain ⟨C, dx, xs, _, z, _⟩ := w; rw [z]; exact e _ _ z (fun ps z => by cases z)
section
variable {X : Cx} {T : List (Addr × Str)} {W : WX} {c P g : Addr} {x : Str} {cs : List (Str × Str)} {params : Arguments} {body : Expr} {scope : Scope} {p lpos pos : Pos} {k kx : Nat} {m : Ev → Hm → R D}
theorem em_told (hT : ToldOk X.K X.mg x g cs) (hg : Gl X x) (hm : X.mg x = some (.ref g)) (TB : LamX.TabB X.base X.mg c P) (hcode : X.env.code = .ref c) (hmT : (P, X.env.qual ++ "<lambda>") ∈ T) (hu : ∀ p ∈ T, p.1 = P → p.2 = X.env.qual ++ "<lambda>") (hr : Room kx X.A) (hk : k + 2 ≤ kx)
    (hbody : ∀ (A : Around) (outer : List Env) (s : Shared) (H : Hp) (E : XK) (f c' : Addr), Room k (LamX.lamCx X A outer s H E scope f c').A → Takes (LamX.lamCx X A outer s H E scope f c') (fun cls d _ H' => E cls d H') → Em (LamX.lamCx X A outer s H E scope f c') T (fun cls d _ H' => E cls d H') body m)
    (L : LamX.LamS X.env.scope scope := by exact LamX.lamS_by rfl) (hdef : defaultsOf params X.env = ([], []) := by rfl)
    (hbind : ∀ (q : Str) (cl : List (Str × Addr)) (pm cv ctv : Value), bindArgs (PySem.W.kla_fn "<lambda>" q params body scope cl pm cv ctv) ⟨[], []⟩ = pure [] := by intros; rfl)
    (hdb : (x == ("__debug__" : Str)) = false := by decide) : Em X T W (.Call (.Name x p) [.Lambda params body scope lpos] [] pos) (mTold cs m) := by
  obtain ⟨a, pg, p1, p2, p3, p8, h₀, hds, sg, Ng, l, fd, F, hb, Sg, hNg, hva, hd, h0, hcs, hd1, hd2⟩ := hT
  obtain ⟨oc, od, dV, kV, doc, pm, an, cdv, ct, osl, rfl, lk, hcd, _, _⟩ := F.ex
  refine PE.of (LamX.pe_lamcall (t := fun E => tE (gx X T) (fun cls d _ H' => E cls d H') m) hg hm F.kp lk hcd hb Sg hNg hva (toldM_gives hd h0) TB hcode hmT hu (hr.mono hk) L hdef hbind (fun A outer s H E f c' hr2 => hbody A outer s H E f c' hr2 (takes_of rfl rfl rfl rfl)) hdb hd1 hd2) fun σ H Q ⟨π, env, h, s, q⟩ => ⟨s.good.tabs, fun H1 eN T1 => ?_⟩
  have st : Step π H π H1 := step_extN (G := gx X T) (h := h) eN
  refine ⟨π, env, h, ⟨s.good.extN eN T1, s.env.step st⟩, ?_⟩
  unfold mTold at q
  generalize m env h = r at q ⊢
  cases r with
  | ok d h' => exact fun π' H' s' g' => q π' H' (st.trans s') g'
  | exn y h' =>
    simp only at q
    cases ht : tellL cs y.cls with
    | none => rw [ht] at q; exact q.elim
    | some t =>
      rw [ht] at q
      intro π' H' cls d s' g' e
      obtain ⟨C, hC, rfl, _⟩ := e
      exact hcs _ _ ht C hC Q H' (q π' H' (st.trans s') g' _ rfl)
  | bad => exact q.elim
end
section
variable {P : Program} {w : World} {K : PySem.W.Frag} {mg : Str → Option Value} {base : Heap} {T : List (Addr × Str)}
/-- a def whose code object is looked at -/
theorem def_mT {x qual : Str} {params : Arguments} {body : List Stmt} {scope : Scope} {p : He.Defn} {fd : FuncData} {N ps : List Str} {k : Nat} {m : Ev → Hm → SR} (F : FunD K x qual params body scope [] [] (He.fAd K p) fd) (S : FnScope N ps scope)
    (hb : ∀ (kV doc pm : Value) (an : Option Addr) (cdv ct : Value) (us : List Value), us.length = ps.length → bindArgs (PySem.W.fnOf x qual params body scope .none kV doc pm an cdv ct) ⟨us, []⟩ = pure (ps.zip us))
    (hbody : ∀ (cdv : Value) (hcd : cdv = .ref (He.cT K p).1) (A : Around) (outer : List Env) (s : Shared) (H : Hp) (E : XK), Room k (cxOf (L2.CX P w) P w K mg base N qual scope (He.fAd K p) cdv A outer s H E).A → Takes (cxOf (L2.CX P w) P w K mg base N qual scope (He.fAd K p) cdv A outer s H E) (fun cls d _ H' => E cls d H') →
      PassesOwn (model P w) (cxOf (L2.CX P w) P w K mg base N qual scope (He.fAd K p) cdv A outer s H E).A (cxOf (L2.CX P w) P w K mg base N qual scope (He.fAd K p) cdv A outer s H E).env (cxOf (L2.CX P w) P w K mg base N qual scope (He.fAd K p) cdv A outer s H E).xe →
      Ssm (cxOf (L2.CX P w) P w K mg base N qual scope (He.fAd K p) cdv A outer s H E) T (fun cls d _ H' => E cls d H') body m) :
    FunM P w K mg base T (k + 1) (He.fAd K p) ps.length (callM N.length ps.length m) := by
  refine ⟨⟨fd, ps, rfl, ?_, F.bindsN hb⟩, F.kp⟩
  obtain ⟨oc, od, dV, kV, doc, pm, an, cdv, ct, osl, rfl, lk, hcd, _, _⟩ := F.ex
  obtain ⟨cc, rfl⟩ := He.codeIn_ref hcd
  refine fn_of lk hcd S (fun vs H Q E ⟨π, h, ds, g, q, hl, _⟩ => by rw [q.len]; exact hl) fun A outer s H vs Q E hr ⟨π, h, ds, g, q, hl, p⟩ => ⟨_, hbody _ ?_ A outer s H E hr (takes_of rfl rfl rfl rfl) (passes_of rfl), ?_⟩
  · exact congrArg Value.ref (He.codeOf_eq lk rfl).symm
  · exact ⟨π, startE N.length ds, h, ⟨g, envOk_start q⟩, postS_fn p⟩
theorem def_okT {x qual : Str} {params : Arguments} {body : List Stmt} {scope : Scope} {p : He.Defn} {fd : FuncData} {N ps : List Str} {k : Nat} {m : Ev → Hm → SR} (F : FunD K x qual params body scope [] [] (He.fAd K p) fd) (S : FnScope N ps scope)
    (hbody : ∀ (cdv : Value) (hcd : cdv = .ref (He.cT K p).1) (A : Around) (outer : List Env) (s : Shared) (H : Hp) (E : XK), Room k (cxOf (L2.CX P w) P w K mg base N qual scope (He.fAd K p) cdv A outer s H E).A → Takes (cxOf (L2.CX P w) P w K mg base N qual scope (He.fAd K p) cdv A outer s H E) (fun cls d _ H' => E cls d H') →
      PassesOwn (model P w) (cxOf (L2.CX P w) P w K mg base N qual scope (He.fAd K p) cdv A outer s H E).A (cxOf (L2.CX P w) P w K mg base N qual scope (He.fAd K p) cdv A outer s H E).env (cxOf (L2.CX P w) P w K mg base N qual scope (He.fAd K p) cdv A outer s H E).xe →
      Ssm (cxOf (L2.CX P w) P w K mg base N qual scope (He.fAd K p) cdv A outer s H E) T (fun cls d _ H' => E cls d H') body m) :
    FnOk P w K mg base (L2.CX P w) (k + 1) (He.fAd K p) fd ps (spM ⟨K, mg, T⟩ (callM N.length ps.length m) ps.length) := by
  obtain ⟨oc, od, dV, kV, doc, pm, an, cdv, ct, osl, rfl, lk, hcd, _, _⟩ := F.ex
  obtain ⟨cc, rfl⟩ := He.codeIn_ref hcd
  refine fn_of lk hcd S (fun vs H Q E ⟨π, h, ds, g, q, hl, _⟩ => by rw [q.len]; exact hl) fun A outer s H vs Q E hr ⟨π, h, ds, g, q, hl, p⟩ => ⟨_, hbody _ ?_ A outer s H E hr (takes_of rfl rfl rfl rfl) (passes_of rfl), ?_⟩
  · exact congrArg Value.ref (He.codeOf_eq lk rfl).symm
  · exact ⟨π, startE N.length ds, h, ⟨g, envOk_start q⟩, postS_fn p⟩
/-- the tables' addresses and names -/
def tabT (K : PySem.W.Frag) (tf : List (He.Defn × Str)) : List (Addr × Str) := tf.map fun p => ((He.cT K p.1).2, p.2)
def tabNd (K : PySem.W.Frag) (tf : List (He.Defn × Str)) : Bool := decide ((tf.map fun p => (He.cT K p.1).2).Nodup)
theorem tab_mem {tf : List (He.Defn × Str)} {p : He.Defn × Str} (h : p ∈ tf) : ((He.cT K p.1).2, p.2) ∈ tabT K tf := List.mem_map.mpr ⟨p, h, rfl⟩
theorem tab_uniq {tf : List (He.Defn × Str)} (nd : tabNd K tf = true) {p : He.Defn × Str} (h : p ∈ tf) : ∀ q ∈ tabT K tf, q.1 = (He.cT K p.1).2 → q.2 = p.2 := fun q hq e => by
  obtain ⟨r, hr, rfl⟩ := List.mem_map.mp hq
  have nd' := of_decide_eq_true nd
  obtain ⟨i, hi, e1⟩ := List.mem_iff_getElem.mp h
  obtain ⟨j, hj, e2⟩ := List.mem_iff_getElem.mp hr
  have e3 : (tf.map fun p => (He.cT K p.1).2)[j]? = some (He.cT K p.1).2 := by
    rw [List.getElem?_map, List.getElem?_eq_getElem hj, e2]
    exact congrArg some e
  have e4 : (tf.map fun p => (He.cT K p.1).2)[i]? = some (He.cT K p.1).2 := by
    rw [List.getElem?_map, List.getElem?_eq_getElem hi, e1] <;> rfl
  have := nodup_ix' nd' e3 e4
  subst this
  rw [e1] at e2
  rw [← e2]
/-- the law with tables -/
theorem sp_lawT {G : Gx} {f : Fc} {n : Nat} (pl : PlainLaw f n) {ns : List Int} {a : Addr} {H : Hp} (hT : ∀ p ∈ G.T, H p.1 = some (.tbl #[])) (hl : ns.length ≤ n) (hS : SqL G.K H a (ns.map V.int)) : spM G f 1 [.ref a] H (fun v _ => v = .bl true) fun _ _ _ => False := by
  have go : ∀ π d h, Good G π h H → DV G.K π H d (.ref a) → Scr ns d h → spM G f 1 [.ref a] H (fun v _ => v = .bl true) fun _ _ _ => False := fun π d h g dv sc => by
    obtain ⟨h', e⟩ := pl ns d h hl sc
    refine ⟨π, h, [d], g, ⟨_, _, rfl, dv, rfl⟩, rfl, ?_⟩
    rw [e]
    intro π' H' s g' v e'
    exact e'
  have tb : LamX.Tabs G.T H := fun p hp => LamX.TabS.nil (hT p hp)
  have g0 : Good G [] [] H := ⟨rfl, List.nodup_nil, fun i a o e => (by cases e), tb, fun p hp => by simp⟩
  have g1 : H a = some (.lst (ns.map V.int)) → Good G [a] [.lst (ns.map D.int)] H := fun e => by
    refine ⟨rfl, by simp, fun i b o e1 e2 => ?_, tb, fun p hp m => ?_⟩
    · cases i with
      | zero =>
        cases e1
        cases e2
        exact ⟨_, e, DVs.ofInts⟩
      | succ i => cases e1
    · rw [List.mem_singleton] at m
      have := hT p hp
      rw [m, e] at this
      cases this
  rcases hS with (h | ⟨o, h⟩) | h
  · exact go [a] (.ref 0) [.lst (ns.map D.int)] (g1 h) ⟨a, rfl, rfl⟩ (.inr ⟨rfl, rfl⟩)
  · exact go [] (.rol (ns.map D.int)) [] g0 ⟨a, _, rfl, .inl ⟨o, h, by simp⟩, DVs.ofInts⟩ (.inl ⟨rfl, rfl⟩)
  · exact go [] (.rol (ns.map D.int)) [] g0 ⟨a, _, rfl, .inr h, DVs.ofInts⟩ (.inl ⟨rfl, rfl⟩)
theorem lawAtT {l : PySem.W.OpenLaw} {w : World} {K : PySem.W.Frag} {k n : Nat} {mg : Str → Option Value} {fa : Addr} {h : Heap} {f : Fc} {x qual : Str} {params : Arguments} {body : List Stmt} {scope : Scope} {fd : FuncData} {tf : List (He.Defn × Str)}
    (KX : K.In h) (hd : ∀ p ∈ tf.map (·.1), PySem.W.codeHdIn K (He.cT K p).1 (He.cT K p).2 = true) (out : ∀ p ∈ tf.map (·.1), K.lookup (He.cT K p).2 = none) (empty : ∀ p ∈ tf.map (·.1), h.get? (He.cT K p).2 = some { cls := .none, data := .fields #[] })
    (F : FunD K x qual params body scope [] [] fa fd) (hb : ∀ (kV doc pm : Value) (an : Option Addr) (cdv ct : Value) (us : List Value), us.length = (["script"] : List Str).length → bindArgs (PySem.W.fnOf x qual params body scope .none kV doc pm an cdv ct) ⟨us, []⟩ = pure ((["script"] : List Str).zip us))
    (pl : PlainLaw f n) (ok : ∀ base : Heap, K.In base → base.Ns mainGlobals mg → (∀ p ∈ tf, LamX.TabB base mg (He.cT K p.1).1 (He.cT K p.1).2) → FnOk l.prog w K mg base (L2.CX l.prog w) k fa fd ["script"] (spM ⟨K, mg, tabT K tf⟩ f 1)) : LamX.LawAtS l w K (L2.CX l.prog w) k n "script" mg fa h := by
  have b := FunD.bindsA (ps := ["script"]) F hb
  refine ⟨fd, tf.map fun p => He.cT K p.1, spM ⟨K, mg, tabT K tf⟩ f 1, fun p hp => ?_, fun p hp => ?_, fun p hp => ?_, fun s v => b s [v] rfl, fun H a ns hl _ hT hS => sp_lawT pl (fun p hp => ?_) hl hS, fun base h1 h2 h3 => ok base h1 h2 fun p hp => h3 _ (List.mem_map.mpr ⟨p, hp, rfl⟩)⟩
  · obtain ⟨q, hq, rfl⟩ := List.mem_map.mp hp
    exact empty _ (List.mem_map.mpr ⟨q, hq, rfl⟩)
  · obtain ⟨q, hq, rfl⟩ := List.mem_map.mp hp
    exact out _ (List.mem_map.mpr ⟨q, hq, rfl⟩)
  · obtain ⟨q, hq, rfl⟩ := List.mem_map.mp hp
    exact PySem.W.codeHd_of_K KX (hd _ (List.mem_map.mpr ⟨q, hq, rfl⟩))
  · obtain ⟨q, hq, rfl⟩ := List.mem_map.mp hp
    exact hT _ (List.mem_map.mpr ⟨q, hq, rfl⟩)
end
def tyN (h : Hm) : D → Option String
  | .non => some "NoneType"
  | .bl _ => some "bool"
  | .int _ => some "int"
  | .str _ => some "str"
  | .tup _ => some "tuple"
  | .rol _ => some "list"
  | .ref i => match h[i]? with
    | some (.lst _) => some "list"
    | some (.dic _) => some "dict"
    | _ => none
theorem tyN_ok {G : Gx} {π : List Addr} {h : Hm} {H : Hp} (g : Good G π h H) {d : D} {x : V} {t : String} (dx : DV G.K π H d x) (e : tyN h d = some t) : TyX G.K H x (.type t) := by
  cases d with
  | non => obtain rfl := (show x = _ from dx); cases e; exact .base .non
  | bl b => obtain rfl := (show x = _ from dx); cases e; exact .base (.bl b)
  | int b => obtain rfl := (show x = _ from dx); cases e; exact .base (.int b)
  | str b => obtain rfl := (show x = _ from dx); cases e; exact .base (.str b)
  | tup ds =>
    obtain ⟨a, xs, rfl, t, q⟩ := dx
    cases e
    rcases t with ⟨t, _⟩ | ⟨o, its, n, e1, e2, _⟩
    · exact .base (.tup t)
    · exact .kTuple e1 e2
  | rol ds =>
    obtain ⟨a, xs, rfl, t, q⟩ := dx
    cases e
    rcases t with ⟨o, t, _⟩ | ⟨o, its, n, e1, e2, _⟩
    · exact .base (.frz t)
    · exact .kList e1 e2
  | ref i =>
    obtain ⟨a, qa, rfl⟩ := dx
    have e' : (match h[i]? with
      | some (.lst _) => some "list"
      | some (.dic _) => some "dict"
      | _ => none) = some t := e
    split at e'
    · rename_i ds e0
      obtain ⟨xs, ha, ds'⟩ := g.lst e0 qa
      cases e'
      exact .base (.lst ha)
    · rename_i kvs e0
      obtain ⟨xs, ha, ds'⟩ := g.obj e0 qa
      cases e'
      exact .base (.dK ha)
    · cases e'
def isB (t n : String) : Bool := decide (t = n) || (decide (t = "bool") && decide (n = "int"))
def fIsi (n : String) (d : D) (h : Hm) : R D := match tyN h d with
  | some t => .ok (.bl (isB t n)) h
  | none => .bad
def mIsi (n : String) (m : Ev → Hm → R D) : Ev → Hm → R D := fun env h => (m env h).bind (fIsi n)
def kitAll (n : String) : Bool := ["NoneType", "bool", "int", "str", "tuple", "list", "dict"].all fun t => decide (kitB t n = some (isB t n))
theorem tyN_in {h : Hm} {d : D} {t : String} (e : tyN h d = some t) : t ∈ ["NoneType", "bool", "int", "str", "tuple", "list", "dict"] := by
  cases d with
  | ref i =>
    have e' : (match h[i]? with
      | some (.lst _) => some "list"
      | some (.dic _) => some "dict"
      | _ => none) = some t := e
    split at e' <;> cases e' <;> simp
  | _ => cases e; simp
theorem em_isi (n : String) {X : Cx} {T : List (Addr × Str)} {W : WX} {e : Expr} {me : Ev → Hm → R D} {c : Str} {pc pp pos : Pos} (hk : kitAll n = true) (hg : Gl X "isinstance") (hm : X.mg "isinstance" = none) (hgc : Gl X c) (hmc : X.mg c = none) (hvc : bootBuiltins c = some (.type n)) (ha : Em X T W e me)
    (hn : c ≠ "__name__" := by decide) (hdb : (c == ("__debug__" : Str)) = false := by decide)
    (he : starEach [e, .Name c pc] X.env = (false, eval e X.env) :: starEach [.Name c pc] X.env := by rfl) : Em X T W (.Call (.Name "isinstance" pp) [e, .Name c pc] [] pos) (mIsi n me) :=
  PE.of (pe_callB call_isi hg hm rfl (pa_cons ha (pa_cons (pe_bltn hgc hmc hvc (v := .ty n) rfl hn hdb) pa_nil rfl) he) (by decide) (by decide) he) fun σ H Q ⟨π, env, h, s, p⟩ => by
    refine ⟨π, env, h, s, p.bind.mono fun π1 H1 h1 d s1 g1 p1 x dx => ?_⟩
    unfold fIsi at p1
    cases q : tyN h1 d with
    | none => rw [q] at p1; exact p1.elim
    | some t =>
      rw [q] at p1
      have k := of_decide_eq_true (List.all_eq_true.mp hk t (tyN_in q))
      exact ⟨x, .ty n, .type t, .type n, isB t n, rfl, .ty n, tyN_ok g1 dx q, kit_ty k, p1 π1 H1 Step.refl g1 _ rfl⟩
theorem em_globI {X : Cx} {T : List (Addr × Str)} {W : WX} {x : Str} {i : Int} {pos : Pos} (hg : Gl X x) (hm : ∃ t, X.mg x = some (.int i t)) (hdb : (x == ("__debug__" : Str)) = false := by rfl) : Em X T W (.Name x pos) (mC (.int i)) := by
  obtain ⟨t, hm⟩ := hm
  exact em_glob (v := .int i) hg hm ⟨t, rfl⟩ (fun _ _ => rfl) hdb
theorem em_globS {X : Cx} {T : List (Addr × Str)} {W : WX} {x z : Str} {pos : Pos} (hg : Gl X x) (hm : ∃ t, X.mg x = some (.str z t)) (hdb : (x == ("__debug__" : Str)) = false := by rfl) : Em X T W (.Name x pos) (mC (.str z)) := by
  obtain ⟨t, hm⟩ := hm
  exact em_glob (v := .str z) hg hm ⟨t, rfl⟩ (fun _ _ => rfl) hdb
end MM

namespace MM
open PySem L2


/-- a call -/
theorem callM_ret {n p : Nat} {m : Ev → Hm → SR} {ds : List D} {h h1 : Hm} {d : D} (hl : ds.length = p) (e : m (startE n ds) h = .ret d h1) : callM n p m ds h = .ok d h1 := by
  unfold callM
  rw [if_pos hl, e]
theorem callM_next {n p : Nat} {m : Ev → Hm → SR} {ds : List D} {h h1 : Hm} {e1 : Ev} (hl : ds.length = p) (e : m (startE n ds) h = .next e1 h1) : callM n p m ds h = .ok .non h1 := by
  unfold callM
  rw [if_pos hl, e]
theorem callM_exn {n p : Nat} {m : Ev → Hm → SR} {ds : List D} {h h1 : Hm} {e1 : Ev} {x : Ex} (hl : ds.length = p) (e : m (startE n ds) h = .exn x e1 h1) : callM n p m ds h = .exn x h1 := by
  unfold callM
  rw [if_pos hl, e]
theorem call_ret {f : Fc} {n p : Nat} {m : Ev → Hm → SR} {ds : List D} {h h1 : Hm} {d : D} (ef : f = callM n p m) (hl : ds.length = p) (e : m (startE n ds) h = .ret d h1) : f ds h = .ok d h1 := by
  rw [ef]
  exact callM_ret hl e
theorem call_next {f : Fc} {n p : Nat} {m : Ev → Hm → SR} {ds : List D} {h h1 : Hm} {e1 : Ev} (ef : f = callM n p m) (hl : ds.length = p) (e : m (startE n ds) h = .next e1 h1) : f ds h = .ok .non h1 := by
  rw [ef]
  exact callM_next hl e
theorem call_exn {f : Fc} {n p : Nat} {m : Ev → Hm → SR} {ds : List D} {h h1 : Hm} {e1 : Ev} {x : Ex} (ef : f = callM n p m) (hl : ds.length = p) (e : m (startE n ds) h = .exn x e1 h1) : f ds h = .exn x h1 := by
  rw [ef]
  exact callM_exn hl e
theorem for_run {m : Ev → Hm → R Itr} {g : Gt} {b : Ev → Hm → SR} {env : Ev} {h h1 : Hm} {it : Itr} {r : SR} {ds : List D} {gs : List (Nat × O)} (a : m env h = .ok it h1) (w : forL gs g b ds env h1 = r) (e1 : it.1 = ds := by rfl) (e2 : it.2 = gs := by rfl) : sFor m g b env h = r := by
  unfold sFor
  rw [a]
  show forL it.2 g b it.1 env h1 = r
  rw [e1, e2]
  exact w
theorem seq_exn {sa sb : Ev → Hm → SR} {env e1 : Ev} {h h1 : Hm} {x : Ex} (a : sa env h = .exn x e1 h1) : sSeq sa sb env h = .exn x e1 h1 := by
  unfold sSeq
  rw [a]
  rfl
theorem told_ok {cs : List (Str × Str)} {m : Ev → Hm → R D} {env : Ev} {h h1 : Hm} {d : D} (a : m env h = .ok d h1) : mTold cs m env h = .ok d h1 := by
  unfold mTold
  rw [a]
theorem told_exn {cs : List (Str × Str)} {m : Ev → Hm → R D} {env : Ev} {h h1 : Hm} {x : Ex} {t : Str} (a : m env h = .exn x h1) (e : tellL cs x.cls = some t) : mTold cs m env h = .ok (.str t) h1 := by
  unfold mTold
  rw [a]
  simp only [e]
theorem rgc_run {n : Nat} {env : Ev} {h : Hm} (hn : n ≤ 1000) : mRg1 (mCons (mC (.int (n : Int))) mNil) env h = .ok ((List.range n).map (fun k : Nat => D.int (0 + (k : Int))), []) h := rg1_run rfl hn
/-- equal data -/
theorem fNe_py {h : Hm} {x y : D} {q : PyData} (a : py h 60 x = some q) (b : py h 60 y = some q) (c : PyData.canLay0 q = true) (f : flat2 x y = false := by rfl) : fNe x y h = .ok (.bl false) h := by
  unfold fNe
  rw [if_neg (by rw [f]; simp), a, b]
  show R.ok (D.bl (!PyData.eqv q q)) h = _
  rw [SeqAt.eqv_refl _ c]
  rfl
theorem fEq_py {h : Hm} {x y : D} {q : PyData} (a : py h 60 x = some q) (b : py h 60 y = some q) (c : PyData.canLay0 q = true) (f : flat2 x y = false := by rfl) : fEq x y h = .ok (.bl true) h := by
  unfold fEq
  rw [if_neg (by rw [f]; simp), a, b]
  show R.ok (D.bl (PyData.eqv q q)) h = _
  rw [SeqAt.eqv_refl _ c]
theorem lay_ints : ∀ l : List Int, PyData.canLayAll0 (l.map PyData.int) = true
  | [] => rfl
  | a :: l => by
    rw [List.map_cons]
    simp only [PyData.canLayAll0, lay_ints l]
    rfl
theorem py_rints {h : Hm} {r : Nat} {l : List Int} (e : h[r]? = some (.lst (l.map D.int))) : py h 60 (.ref r) = some (.list (l.map PyData.int)) := by
  rw [py_ref e, py_ints]
  rfl
theorem py_tints {h : Hm} {l : List Int} : py h 60 (.tup (l.map D.int)) = some (.tuple (l.map PyData.int)) := by
  show (mapO (py h 59) (l.map D.int)).map PyData.tuple = _
  rw [py_ints]
  rfl
theorem fNe_rints {h : Hm} {r s : Nat} {l : List Int} (a : h[r]? = some (.lst (l.map D.int))) (b : h[s]? = some (.lst (l.map D.int))) : fNe (.ref r) (.ref s) h = .ok (.bl false) h :=
  fNe_py (py_rints a) (py_rints b) (by simp only [PyData.canLay0]; exact lay_ints l)
theorem fNe_tints {h : Hm} {l : List Int} : fNe (.tup (l.map D.int)) (.tup (l.map D.int)) h = .ok (.bl false) h :=
  fNe_py py_tints py_tints (by simp only [PyData.canLay0]; exact lay_ints l)
end MM

namespace MM
open PySem L2

def Pu (m : Ev → Hm → R D) (env : Ev) (h : Hm) (P : Hm → D → Prop) : Prop := ∃ d g, m env h = .ok d (h ++ g) ∧ P (h ++ g) d
def Pt (m : Ev → Hm → R Bool) (env : Ev) (h : Hm) (b : Bool) : Prop := ∃ g, m env h = .ok b (h ++ g)
def Ps (m : Ev → Hm → SR) (env : Ev) (h : Hm) (e2 : Ev) : Prop := ∃ g, m env h = .next e2 (h ++ g)
def Is (x : D) : Hm → D → Prop := fun _ d => d = x
def IsL (ds : List D) : Hm → D → Prop := fun h d => ∃ r, d = .ref r ∧ h[r]? = some (.lst ds)
def Mono (P : Hm → D → Prop) : Prop := ∀ h g d, P h d → P (h ++ g) d
theorem mono_is {x : D} : Mono (Is x) := fun _ _ _ h => h
theorem mono_l {ds : List D} : Mono (IsL ds) := fun h g d ⟨r, e, q⟩ => ⟨r, e, keep_app q⟩
section
variable {a b c : Ev → Hm → R D} {env : Ev} {h : Hm} {d x y z : D} {P Q S : Hm → D → Prop} {f : F2} {ds es : List D} {i : Nat}
theorem pu_c : Pu (mC d) env h (Is d) := ⟨d, [], by rw [List.append_nil]; rfl, rfl⟩
theorem pu_varP (e : env[i]? = some (some d)) (p : P h d) : Pu (mVar i) env h P := ⟨d, [], by rw [List.append_nil, run_var, e], by rw [List.append_nil]; exact p⟩
theorem pu_var (e : env[i]? = some (some d)) : Pu (mVar i) env h (Is d) := pu_varP e rfl
theorem pu_varL {r : Nat} (e : env[i]? = some (some (.ref r))) (q : h[r]? = some (.lst ds)) : Pu (mVar i) env h (IsL ds) := pu_varP e ⟨r, rfl, q⟩
theorem pu_2 (ha : Pu a env h P) (hb : ∀ g, Pu b env (h ++ g) Q) (mp : Mono P) (w : ∀ h x y, P h x → Q h y → ∃ z g, f x y h = .ok z (h ++ g) ∧ S (h ++ g) z) : Pu (m2 f a b) env h S := by
  obtain ⟨x, g1, e1, p1⟩ := ha
  obtain ⟨y, g2, e2, p2⟩ := hb g1
  obtain ⟨z, g3, e3, p3⟩ := w _ x y (mp _ g2 _ p1) p2
  refine ⟨z, g1 ++ g2 ++ g3, ?_, ?_⟩
  · rw [run_m2, e1, bind_ok, e2, bind_ok, e3]
    simp
  · rw [show h ++ (g1 ++ g2 ++ g3) = h ++ g1 ++ g2 ++ g3 by simp]
    exact p3
theorem pu_op (ha : Pu a env h (Is x)) (hb : ∀ g, Pu b env (h ++ g) (Is y)) (w : ∀ h, f x y h = .ok z h) : Pu (m2 f a b) env h (Is z) :=
  pu_2 ha hb mono_is fun h x' y' e1 e2 => ⟨z, [], by rw [show x' = x from e1, show y' = y from e2, w, List.append_nil], rfl⟩
theorem pu_add (ha : Pu a env h (IsL ds)) (hb : ∀ g, Pu b env (h ++ g) (IsL es)) (l1 : ds.length ≤ 1000) (l2 : es.length ≤ 1000) : Pu (m2 fAdd a b) env h (IsL (ds ++ es)) :=
  pu_2 ha hb mono_l fun h x y ⟨r, e1, q1⟩ ⟨s, e2, q2⟩ => ⟨.ref h.length, [.lst (ds ++ es)], by
    rw [e1, e2]
    unfold fAdd
    simp only [q1, q2]
    rw [if_pos (Nat.le_trans (Nat.add_le_add l1 l2) (by decide))], ⟨h.length, rfl, get_new⟩⟩
theorem pu_rep {k : Nat} (ha : Pu a env h (IsL ds)) (hb : ∀ g, Pu b env (h ++ g) (Is (.int (k : Int)))) (l1 : ds.length ≤ 1000) (l2 : k ≤ 1000) : Pu (m2 fMul a b) env h (IsL (List.replicate k ds).flatten) :=
  pu_2 ha hb mono_l fun h x y ⟨r, e1, q1⟩ e2 => ⟨.ref h.length, [.lst (List.replicate k ds).flatten], by
    rw [e1, show y = _ from e2]
    unfold fMul
    simp only [q1]
    rw [if_pos ⟨by omega, by omega, by rw [Int.toNat_natCast]; exact Nat.le_trans (Nat.mul_le_mul l1 l2) (by decide)⟩, Int.toNat_natCast], ⟨h.length, rfl, get_new⟩⟩
theorem pu_ix {j : Nat} (ha : Pu a env h (IsL ds)) (hb : ∀ g, Pu b env (h ++ g) (Is (.int (j : Int)))) (e : ds[j]? = some z) : Pu (m2 fIx a b) env h (Is z) :=
  pu_2 ha hb mono_l fun h x y ⟨r, e1, q1⟩ e2 => ⟨z, [], by
    rw [e1, show y = _ from e2, fIx_lst q1 e, List.append_nil], rfl⟩
theorem pu_lst1 (ha : Pu a env h (Is x)) : Pu (mLst (mCons a mNil)) env h (IsL [x]) := by
  obtain ⟨x', g, e, p⟩ := ha
  obtain rfl := (show x' = x from p)
  refine ⟨.ref (h ++ g).length, g ++ [.lst [x']], ?_, ⟨_, rfl, by rw [← List.append_assoc]; exact get_new⟩⟩
  rw [run_lst, run_lcons, e, bind_ok, run_lnil, bind_ok, bind_ok, List.append_assoc]
theorem pu_lst0 : Pu (mLst mNil) env h (IsL []) := ⟨.ref h.length, [.lst []], rfl, ⟨_, rfl, get_new⟩⟩
theorem pu_to {k : Nat} (ha : Pu a env h (IsL ds)) (hb : ∀ g, Pu b env (h ++ g) (Is (.int (k : Int)))) (hk : k ≤ ds.length) : Pu (mSl a mNo (mSome b)) env h (IsL (ds.take k)) := by
  obtain ⟨x, g1, e1, ⟨r, rfl, q1⟩⟩ := ha
  obtain ⟨y, g2, e2, p2⟩ := hb g1
  obtain rfl := (show y = _ from p2)
  refine ⟨.ref (h ++ g1 ++ g2).length, g1 ++ g2 ++ [.lst (ds.take k)], ?_, ⟨_, rfl, by rw [show h ++ (g1 ++ g2 ++ [O.lst (ds.take k)]) = h ++ g1 ++ g2 ++ [O.lst (ds.take k)] by simp]; exact get_new⟩⟩
  rw [run_sl, e1, bind_ok, run_no, bind_ok, run_some, e2, bind_ok]
  show fSl (.ref r) none (some (k : Int)) (h ++ g1 ++ g2) = _
  rw [fSl_lst (keep_app q1), cutD_to hk]
  simp
theorem cutD_from {ds : List D} {k : Nat} (hk : k ≤ ds.length) : cutD ds (some (k : Int)) none = ds.drop k := by
  unfold cutD
  rw [sIx_nat _ hk]
  show (ds.drop k).take (ds.length - k) = _
  rw [List.take_of_length_le (by rw [List.length_drop]; exact Nat.le_refl _)]
theorem pu_from {k : Nat} (ha : Pu a env h (IsL ds)) (hb : ∀ g, Pu b env (h ++ g) (Is (.int (k : Int)))) (hk : k ≤ ds.length) : Pu (mSl a (mSome b) mNo) env h (IsL (ds.drop k)) := by
  obtain ⟨x, g1, e1, ⟨r, rfl, q1⟩⟩ := ha
  obtain ⟨y, g2, e2, p2⟩ := hb g1
  obtain rfl := (show y = _ from p2)
  refine ⟨.ref (h ++ g1 ++ g2).length, g1 ++ g2 ++ [.lst (ds.drop k)], ?_, ⟨_, rfl, by rw [show h ++ (g1 ++ g2 ++ [O.lst (ds.drop k)]) = h ++ g1 ++ g2 ++ [O.lst (ds.drop k)] by simp]; exact get_new⟩⟩
  rw [run_sl, e1, bind_ok, run_some, e2, bind_ok]
  show (R.ok (some (k : Int)) (h ++ g1 ++ g2)).bind (fun lo h2 => (mNo env h2).bind fun hi h3 => fSl (.ref r) lo hi h3) = _
  rw [bind_ok, run_no, bind_ok, fSl_lst (keep_app q1), cutD_from hk]
  simp
theorem pu_listT (ha : Pu a env h (Is (.tup ds))) : Pu (mCall fList (mCons a mNil)) env h (IsL ds) := by
  obtain ⟨x', g, e, p⟩ := ha
  obtain rfl := (show x' = _ from p)
  refine ⟨.ref (h ++ g).length, g ++ [.lst ds], ?_, ⟨_, rfl, by rw [← List.append_assoc]; exact get_new⟩⟩
  rw [run_call, run_lcons, e, bind_ok, run_lnil, bind_ok, bind_ok, ← List.append_assoc]
  rfl
theorem pu_tupL (ha : Pu a env h (IsL ds)) : Pu (mCall fTuple (mCons a mNil)) env h (Is (.tup ds)) := by
  obtain ⟨x', g, e, ⟨r, rfl, q⟩⟩ := ha
  refine ⟨.tup ds, g, ?_, rfl⟩
  rw [run_call, run_lcons, e, bind_ok, run_lnil, bind_ok, bind_ok]
  exact fTuple_lst q
theorem pu_call1 {fn : Fc} (ha : Pu a env h P) (w : ∀ h x, P h x → ∃ z g, fn [x] h = .ok z (h ++ g) ∧ S (h ++ g) z) : Pu (mCallF 1 fn (mCons a mNil)) env h S := by
  obtain ⟨x, g1, e1, p1⟩ := ha
  obtain ⟨z, g2, e2, p2⟩ := w _ x p1
  refine ⟨z, g1 ++ g2, ?_, by rw [← List.append_assoc]; exact p2⟩
  rw [run_callF, run_lcons, e1, bind_ok, run_lnil, bind_ok, bind_ok, if_pos (show [x].length = 1 from rfl), e2, List.append_assoc]
theorem pu_call2 {fn : Fc} (ha : Pu a env h P) (hb : ∀ g, Pu b env (h ++ g) Q) (mp : Mono P) (w : ∀ h x y, P h x → Q h y → ∃ z g, fn [x, y] h = .ok z (h ++ g) ∧ S (h ++ g) z) : Pu (mCallF 2 fn (mCons a (mCons b mNil))) env h S := by
  obtain ⟨x, g1, e1, p1⟩ := ha
  obtain ⟨y, g2, e2, p2⟩ := hb g1
  obtain ⟨z, g3, e3, p3⟩ := w _ x y (mp _ g2 _ p1) p2
  refine ⟨z, g1 ++ g2 ++ g3, ?_, by rw [show h ++ (g1 ++ g2 ++ g3) = h ++ g1 ++ g2 ++ g3 by simp]; exact p3⟩
  rw [run_callF, run_lcons, e1, bind_ok, run_lcons, e2, bind_ok, run_lnil, bind_ok, bind_ok, bind_ok, if_pos (show [x, y].length = 2 from rfl), e3]
  simp
/-- a builtin of one value -/
theorem pu_fn1 {fn : Fc} (ha : Pu a env h P) (w : ∀ h x, P h x → ∃ z g, fn [x] h = .ok z (h ++ g) ∧ S (h ++ g) z) : Pu (mCall fn (mCons a mNil)) env h S := by
  obtain ⟨x, g1, e1, p1⟩ := ha
  obtain ⟨z, g2, e2, p2⟩ := w _ x p1
  refine ⟨z, g1 ++ g2, ?_, by rw [← List.append_assoc]; exact p2⟩
  rw [run_call, run_lcons, e1, bind_ok, run_lnil, bind_ok, bind_ok, e2, List.append_assoc]
theorem pu_len (ha : Pu a env h (IsL ds)) : Pu (mCall fLen (mCons a mNil)) env h (Is (.int (ds.length : Int))) :=
  pu_fn1 ha fun h x ⟨r, e, q⟩ => ⟨_, [], by rw [e, fLen_lst q, List.append_nil], rfl⟩
/-- comparisons -/
theorem pt_bool {k : Bool} (ha : Pu a env h (Is (.bl k))) : Pt (mBool a) env h k := by
  obtain ⟨x', g, e, p⟩ := ha
  obtain rfl := (show x' = _ from p)
  exact ⟨g, by rw [run_bool, e, bind_ok]⟩
theorem pt_neL {l : List Int} (ha : Pu a env h (IsL (l.map D.int))) (hb : ∀ g, Pu b env (h ++ g) (IsL (l.map D.int))) : Pt (mBool (m2 fNe a b)) env h false :=
  pt_bool (pu_2 ha hb mono_l fun h x y ⟨r, e1, q1⟩ ⟨s, e2, q2⟩ => ⟨.bl false, [], by rw [e1, e2, fNe_rints q1 q2, List.append_nil], rfl⟩)
theorem pt_neT {l : List Int} (ha : Pu a env h (Is (.tup (l.map D.int)))) (hb : ∀ g, Pu b env (h ++ g) (Is (.tup (l.map D.int)))) : Pt (mBool (m2 fNe a b)) env h false :=
  pt_bool (pu_op ha hb fun h => fNe_tints)
theorem pt_neI {k : Int} (ha : Pu a env h (Is (.int k))) (hb : ∀ g, Pu b env (h ++ g) (Is (.int k))) : Pt (mBool (m2 fNe a b)) env h false :=
  pt_bool (pu_op ha hb fun h => by rw [fNe_i]; simp)
theorem pt_or {s t : Ev → Hm → R Bool} (hs : Pt s env h false) (ht : ∀ g, Pt t env (h ++ g) false) : Pt (mOr s t) env h false := by
  obtain ⟨g1, e1⟩ := hs
  obtain ⟨g2, e2⟩ := ht g1
  exact ⟨g1 ++ g2, by rw [run_or, e1, bind_ok, if_neg (by simp), e2, List.append_assoc]⟩
theorem ps_no {t : Ev → Hm → R Bool} {s : Ev → Hm → SR} (ht : Pt t env h false) : Ps (sIf t s sNil) env h env := by
  obtain ⟨g1, e1⟩ := ht
  exact ⟨g1, by rw [run_if, e1, bindS_ok, if_neg (by simp)]; rfl⟩
theorem ps_seq {s t : Ev → Hm → SR} {e1 e2 : Ev} (hs : Ps s env h e1) (ht : ∀ g, Ps t e1 (h ++ g) e2) : Ps (sSeq s t) env h e2 := by
  obtain ⟨g1, q1⟩ := hs
  obtain ⟨g2, q2⟩ := ht g1
  exact ⟨g1 ++ g2, seq_next q1 (by rw [q2, List.append_assoc])⟩
/-- a pure comprehension -/
theorem pu_lc {vs : List Nat} {m : Ev → Hm → R Itr} {g : Gt} {t : Ev → Hm → R Bool} {α : Type} {gs : List (Nat × O)} (fk : α → D) (yk : α → Option D) (xs : List α) (hx : xs.length ≤ 1000) (hm : ∃ g, m env h = .ok (xs.map fk, gs) (h ++ g) ∧ gdOk gs (h ++ g) = true)
    (w : ∀ g0 (k : α), k ∈ xs → lcTurn g t a (wipeE env vs) (fk k) (h ++ g0) = .ok (yk k) (h ++ g0)) : Pu (mLc vs m g t a) env h (IsL (xs.filterMap yk)) := by
  obtain ⟨g1, e1, ok⟩ := hm
  have R := lcL_pure (g := g) (t := t) (e := a) (env := wipeE env vs) ok fk yk xs (w g1)
  refine ⟨.ref (h ++ g1).length, g1 ++ [.lst (xs.filterMap yk)], ?_, ⟨_, rfl, by rw [← List.append_assoc]; exact get_new⟩⟩
  rw [← List.append_assoc]
  exact lc_run (vs := vs) (ds := xs.map fk) (gs := gs) (it := (xs.map fk, gs)) e1 (by rw [List.length_map]; exact hx) R
end
end MM

namespace MM
namespace K01
open PySem L2
noncomputable section
def told_cs : List (Str × Str) := [("BadOrder", "order"), ("BadProgram", "program"), ("NoWay", "no way"), ("TooLarge", "large")]
/-- _law_dice: 0 cell -/
def b__law_dice : Ev → Hm → SR := (sSeq (sIf (mBool (mChain fLt fLt (m2 fSub (mC (.int 0)) (mC (.int 10))) (mVar 0) (mC (.int 10))))
  (sRet (mLst (mCons (mCall fAbs (mCons (mVar 0) mNil)) (mCons (mC (.int 0)) (mCons (mC (.int 2)) mNil)))))
  sNil)
  (sRet (mLst (mCons (mVar 0) (mCons (m2 fAdd (mC (.int 1)) (m2 fMod (mCall fInt (mCons (mVar 0) mNil)) (mC (.int 1009)))) (mCons (mCall fInt (mCons (m2 fGe (mVar 0) (m2 fPow (mC (.int 10)) (mC (.int 18)))) mNil)) mNil))))))
def f__law_dice : Fc := callM 1 1 b__law_dice
/-- _law_rounds: 0 script, 1 most, 2 cells, 3 cell -/
def b__law_rounds : Ev → Hm → SR := (sSeq (sAsg (gN 2) (mSl (mVar 0) mNo (mSome (mVar 1))))
  (sSeq (sIf (mBool (m2 fEq (mVar 2) (mLst mNil)))
  (sAsg (gN 2) (mLst (mCons (mC (.int 0)) mNil)))
  sNil)
  (sRet (mLc [3] (mItA (mVar 2)) (gN 3) tYesM (mCallF 1 f__law_dice (mCons (mVar 3) mNil))))))
def f__law_rounds : Fc := callM 4 2 b__law_rounds
/-- _law_roll: 0 dice, 1 many, 2 found -/
def b__law_roll : Ev → Hm → SR := (sSeq (sIf (mOr (mBool (m2 fEq (m2 fIx (mVar 0) (mC (.int 2))) (mC (.int 2)))) (mAnd (mBool (m2 fEq (m2 fIx (mVar 0) (mC (.int 2))) (mC (.int 1)))) (mBool (m2 fGt (m2 fIx (mVar 0) (mC (.int 0))) (mC (.int 0))))))
  (sSeq (sAsg (gN 2) (m2 fMod (mCall fInt (mCons (m2 fIx (mVar 0) (mC (.int 0))) mNil)) (mVar 1)))
  (sSeq (sAsg (gSubM (mVar 0) (mC (.int 0))) (m2 fDiv (m2 fIx (mVar 0) (mC (.int 0))) (mVar 1)))
  (sRet (mVar 2))))
  sNil)
  (sSeq (sAsg (gSubM (mVar 0) (mC (.int 2))) (mC (.int 0)))
  (sSeq (sAsg (gSubM (mVar 0) (mC (.int 0))) (m2 fMod (mCall fInt (mCons (m2 fAdd (m2 fAdd (m2 fMul (m2 fIx (mVar 0) (mC (.int 0))) (mC (.int 48271))) (m2 fMul (m2 fIx (mVar 0) (mC (.int 1))) (mC (.int 69621)))) (mC (.int 11))) mNil)) (mC (.int 2147483647))))
  (sSeq (sAsg (gSubM (mVar 0) (mC (.int 1))) (m2 fAdd (m2 fIx (mVar 0) (mC (.int 1))) (mC (.int 1))))
  (sRet (m2 fMod (mCall fInt (mCons (m2 fAdd (m2 fDiv (m2 fIx (mVar 0) (mC (.int 0))) (mC (.int 7))) (m2 fIx (mVar 0) (mC (.int 0)))) mNil)) (mVar 1)))))))
def f__law_roll : Fc := callM 3 2 b__law_roll
/-- add: 0 a, 1 b -/
def b_add : Ev → Hm → SR := (sRet (m2 fMod (m2 fAdd (mVar 0) (mVar 1)) (mC (.int 65536))))
theorem o_add : ∃ f : Fc, f = callM 2 2 b_add := ⟨_, rfl⟩
def f_add : Fc := o_add.choose
theorem f_add_eq : f_add = callM 2 2 b_add := o_add.choose_spec
/-- less: 0 a, 1 b -/
def b_less : Ev → Hm → SR := (sRet (m2 fMod (m2 fSub (mVar 0) (mVar 1)) (mC (.int 65536))))
theorem o_less : ∃ f : Fc, f = callM 2 2 b_less := ⟨_, rfl⟩
def f_less : Fc := o_less.choose
theorem f_less_eq : f_less = callM 2 2 b_less := o_less.choose_spec
/-- times: 0 a, 1 b -/
def b_times : Ev → Hm → SR := (sRet (m2 fMod (m2 fMul (mVar 0) (mVar 1)) (mC (.int 65536))))
theorem o_times : ∃ f : Fc, f = callM 2 2 b_times := ⟨_, rfl⟩
def f_times : Fc := o_times.choose
theorem f_times_eq : f_times = callM 2 2 b_times := o_times.choose_spec
/-- signed: 0 word -/
def b_signed : Ev → Hm → SR := (sRet (mIf (mBool (m2 fGe (mVar 0) (mC (.int 32768)))) (m2 fSub (mVar 0) (mC (.int 65536))) (mVar 0)))
theorem o_signed : ∃ f : Fc, f = callM 1 1 b_signed := ⟨_, rfl⟩
def f_signed : Fc := o_signed.choose
theorem f_signed_eq : f_signed = callM 1 1 b_signed := o_signed.choose_spec
/-- word_of: 0 number -/
def b_word_of : Ev → Hm → SR := (sRet (m2 fMod (mVar 0) (mC (.int 65536))))
theorem o_word_of : ∃ f : Fc, f = callM 1 1 b_word_of := ⟨_, rfl⟩
def f_word_of : Fc := o_word_of.choose
theorem f_word_of_eq : f_word_of = callM 1 1 b_word_of := o_word_of.choose_spec
/-- _law_bits: 0 word, 1 found, 2 k -/
def l__law_bits_0 : Ev → Hm → SR := (sSeq (sDrop (mMeth isL fAppend (mVar 1) (mCons (m2 fMod (mVar 0) (mC (.int 2))) mNil)))
  (sAsg (gN 0) (m2 fDiv (mVar 0) (mC (.int 2)))))
def b__law_bits : Ev → Hm → SR := (sSeq (sAsg (gN 1) (mLst mNil))
  (sSeq (sFor (mRg1 (mCons (mC (.int 16)) mNil)) (gN 2)
  l__law_bits_0)
  (sRet (mVar 1))))
theorem o__law_bits : ∃ f : Fc, f = callM 3 1 b__law_bits := ⟨_, rfl⟩
def f__law_bits : Fc := o__law_bits.choose
theorem f__law_bits_eq : f__law_bits = callM 3 1 b__law_bits := o__law_bits.choose_spec
/-- bits_of: 0 word, 1 found, 2 k -/
def l_bits_of_0 : Ev → Hm → SR := (sSeq (sDrop (mMeth isL fAppend (mVar 1) (mCons (m2 fMod (mVar 0) (mC (.int 2))) mNil)))
  (sAug 0 fIDiv (mC (.int 2))))
def b_bits_of : Ev → Hm → SR := (sSeq (sAsg (gN 1) (mLst mNil))
  (sSeq (sFor (mRg1 (mCons (mC (.int 16)) mNil)) (gN 2)
  l_bits_of_0)
  (sRet (mCall fTuple (mCons (mVar 1) mNil)))))
theorem o_bits_of : ∃ f : Fc, f = callM 3 1 b_bits_of := ⟨_, rfl⟩
def f_bits_of : Fc := o_bits_of.choose
theorem f_bits_of_eq : f_bits_of = callM 3 1 b_bits_of := o_bits_of.choose_spec
/-- of_bits: 0 row, 1 found, 2 bit -/
def l_of_bits_0 : Ev → Hm → SR := (sAsg (gN 1) (m2 fAdd (m2 fMul (mC (.int 2)) (mVar 1)) (mVar 2)))
def b_of_bits : Ev → Hm → SR := (sSeq (sAsg (gN 1) (mC (.int 0)))
  (sSeq (sFor (mRev (mVar 0)) (gN 2)
  l_of_bits_0)
  (sRet (mVar 1))))
theorem o_of_bits : ∃ f : Fc, f = callM 3 1 b_of_bits := ⟨_, rfl⟩
def f_of_bits : Fc := o_of_bits.choose
theorem f_of_bits_eq : f_of_bits = callM 3 1 b_of_bits := o_of_bits.choose_spec
/-- shared: 0 a, 1 b, 2 x, 3 y -/
def b_shared : Ev → Hm → SR := (sRet (mCallF 1 f_of_bits (mCons (mLc [2, 3] (mZip (mCons (mCallF 1 f_bits_of (mCons (mVar 0) mNil)) (mCons (mCallF 1 f_bits_of (mCons (mVar 1) mNil)) mNil))) (gU 2 (gsCons (gN 2) (gsCons (gN 3) gsNil))) tYesM (m2 fMul (mVar 2) (mVar 3))) mNil)))
theorem o_shared : ∃ f : Fc, f = callM 4 2 b_shared := ⟨_, rfl⟩
def f_shared : Fc := o_shared.choose
theorem f_shared_eq : f_shared = callM 4 2 b_shared := o_shared.choose_spec
/-- either: 0 a, 1 b -/
def b_either : Ev → Hm → SR := (sRet (m2 fSub (m2 fAdd (mVar 0) (mVar 1)) (mCallF 2 f_shared (mCons (mVar 0) (mCons (mVar 1) mNil)))))
theorem o_either : ∃ f : Fc, f = callM 2 2 b_either := ⟨_, rfl⟩
def f_either : Fc := o_either.choose
theorem f_either_eq : f_either = callM 2 2 b_either := o_either.choose_spec
/-- unlike: 0 a, 1 b -/
def b_unlike : Ev → Hm → SR := (sRet (m2 fSub (m2 fAdd (mVar 0) (mVar 1)) (m2 fMul (mC (.int 2)) (mCallF 2 f_shared (mCons (mVar 0) (mCons (mVar 1) mNil))))))
theorem o_unlike : ∃ f : Fc, f = callM 2 2 b_unlike := ⟨_, rfl⟩
def f_unlike : Fc := o_unlike.choose
theorem f_unlike_eq : f_unlike = callM 2 2 b_unlike := o_unlike.choose_spec
/-- up: 0 a, 1 many, 2 k -/
def l_up_0 : Ev → Hm → SR := (sAsg (gN 0) (m2 fMod (m2 fMul (mC (.int 2)) (mVar 0)) (mC (.int 65536))))
def b_up : Ev → Hm → SR := (sSeq (sAug 1 fIMod (mC (.int 16)))
  (sSeq (sFor (mRg1 (mCons (mVar 1) mNil)) (gN 2)
  l_up_0)
  (sRet (mVar 0))))
theorem o_up : ∃ f : Fc, f = callM 3 2 b_up := ⟨_, rfl⟩
def f_up : Fc := o_up.choose
theorem f_up_eq : f_up = callM 3 2 b_up := o_up.choose_spec
/-- down: 0 a, 1 many, 2 k -/
def l_down_0 : Ev → Hm → SR := (sAug 0 fIDiv (mC (.int 2)))
def b_down : Ev → Hm → SR := (sSeq (sAug 1 fIMod (mC (.int 16)))
  (sSeq (sFor (mRg1 (mCons (mVar 1) mNil)) (gN 2)
  l_down_0)
  (sRet (mVar 0))))
theorem o_down : ∃ f : Fc, f = callM 3 2 b_down := ⟨_, rfl⟩
def f_down : Fc := o_down.choose
theorem f_down_eq : f_down = callM 3 2 b_down := o_down.choose_spec
/-- down_signed: 0 a, 1 many, 2 number, 3 k -/
def l_down_signed_0 : Ev → Hm → SR := (sAug 2 fIDiv (mC (.int 2)))
def b_down_signed : Ev → Hm → SR := (sSeq (sAsg (gN 2) (mCallF 1 f_signed (mCons (mVar 0) mNil)))
  (sSeq (sFor (mRg1 (mCons (m2 fMod (mVar 1) (mC (.int 16))) mNil)) (gN 3)
  l_down_signed_0)
  (sRet (m2 fMod (mVar 2) (mC (.int 65536))))))
theorem o_down_signed : ∃ f : Fc, f = callM 4 2 b_down_signed := ⟨_, rfl⟩
def f_down_signed : Fc := o_down_signed.choose
theorem f_down_signed_eq : f_down_signed = callM 4 2 b_down_signed := o_down_signed.choose_spec
/-- is_less: 0 a, 1 b -/
def b_is_less : Ev → Hm → SR := (sRet (mCall fInt (mCons (m2 fLt (mCallF 1 f_signed (mCons (mVar 0) mNil)) (mCallF 1 f_signed (mCons (mVar 1) mNil))) mNil)))
theorem o_is_less : ∃ f : Fc, f = callM 2 2 b_is_less := ⟨_, rfl⟩
def f_is_less : Fc := o_is_less.choose
theorem f_is_less_eq : f_is_less = callM 2 2 b_is_less := o_is_less.choose_spec
/-- is_below: 0 a, 1 b -/
def b_is_below : Ev → Hm → SR := (sRet (mCall fInt (mCons (m2 fLt (mVar 0) (mVar 1)) mNil)))
theorem o_is_below : ∃ f : Fc, f = callM 2 2 b_is_below := ⟨_, rfl⟩
def f_is_below : Fc := o_is_below.choose
theorem f_is_below_eq : f_is_below = callM 2 2 b_is_below := o_is_below.choose_spec
/-- stretched: 0 number, 1 many, 2 size, 3 k -/
def l_stretched_0 : Ev → Hm → SR := (sAug 2 fMulI (mC (.int 2)))
def b_stretched : Ev → Hm → SR := (sSeq (sAsg (gN 2) (mC (.int 1)))
  (sSeq (sFor (mRg1 (mCons (mVar 1) mNil)) (gN 3)
  l_stretched_0)
  (sRet (mIf (mBool (m2 fGe (m2 fMul (mC (.int 2)) (mVar 0)) (mVar 2))) (m2 fSub (mVar 0) (mVar 2)) (mVar 0)))))
theorem o_stretched : ∃ f : Fc, f = callM 4 2 b_stretched := ⟨_, rfl⟩
def f_stretched : Fc := o_stretched.choose
theorem f_stretched_eq : f_stretched = callM 4 2 b_stretched := o_stretched.choose_spec
/-- field: 0 number, 1 many, 2 size, 3 k -/
def l_field_0 : Ev → Hm → SR := (sAug 2 fMulI (mC (.int 2)))
def b_field : Ev → Hm → SR := (sSeq (sAsg (gN 2) (mC (.int 1)))
  (sSeq (sFor (mRg1 (mCons (mVar 1) mNil)) (gN 3)
  l_field_0)
  (sSeq (sIf (mNot (mBool (mChain fLe fLt (mNeg (mVar 2)) (m2 fMul (mC (.int 2)) (mVar 0)) (mVar 2))))
  (sRaise "BadOrder")
  sNil)
  (sRet (m2 fMod (mVar 0) (mVar 2))))))
theorem o_field : ∃ f : Fc, f = callM 4 2 b_field := ⟨_, rfl⟩
def f_field : Fc := o_field.choose
theorem f_field_eq : f_field = callM 4 2 b_field := o_field.choose_spec
/-- _law_fields: 0 dice, 1 a, 2 wide, 3 size, 4 k, 5 number -/
def l__law_fields_0 : Ev → Hm → SR := (sAsg (gN 3) (m2 fMul (mVar 3) (mC (.int 2))))
def b__law_fields : Ev → Hm → SR := (sSeq (sAsg (gN 2) (m2 fAdd (mC (.int 1)) (mCallF 2 f__law_roll (mCons (mVar 0) (mCons (mC (.int 12)) mNil)))))
  (sSeq (sAsg (gN 3) (mC (.int 1)))
  (sSeq (sFor (mRg1 (mCons (mVar 2) mNil)) (gN 4)
  l__law_fields_0)
  (sSeq (sAsg (gN 5) (m2 fMod (mVar 1) (mVar 3)))
  (sSeq (sIf (mOr (mBool (m2 fNe (m2 fMod (m2 fSub (mCallF 2 f_stretched (mCons (mVar 5) (mCons (mVar 2) mNil))) (mVar 5)) (mVar 3)) (mC (.int 0)))) (mNot (mBool (mChain fLe fLt (m2 fSub (mC (.int 0)) (mVar 3)) (m2 fMul (mC (.int 2)) (mCallF 2 f_stretched (mCons (mVar 5) (mCons (mVar 2) mNil)))) (mVar 3)))))
  (sRet (mC (.bl false)))
  sNil)
  (sSeq (sIf (mBool (m2 fNe (mCallF 2 f_field (mCons (mCallF 2 f_stretched (mCons (mVar 5) (mCons (mVar 2) mNil))) (mCons (mVar 2) mNil))) (mVar 5)))
  (sRet (mC (.bl false)))
  sNil)
  (sSeq (sIf (mBool (m2 fNe (mTold told_cs (mCallF 2 f_field (mCons (mVar 3) (mCons (mVar 2) mNil)))) (mC (.str "order"))))
  (sRet (mC (.bl false)))
  sNil)
  (sRet (mC (.bl true))))))))))
theorem o__law_fields : ∃ f : Fc, f = callM 6 2 b__law_fields := ⟨_, rfl⟩
def f__law_fields : Fc := o__law_fields.choose
theorem f__law_fields_eq : f__law_fields = callM 6 2 b__law_fields := o__law_fields.choose_spec
/-- check_word: 0 word -/
def b_check_word : Ev → Hm → SR := (sIf (mOr (mNot (mTru (mIsi "int" (mVar 0)))) (mOr (mTru (mIsi "bool" (mVar 0))) (mNot (mBool (mChain fLe fLt (mC (.int 0)) (mVar 0) (mC (.int 65536)))))))
  (sRaise "BadOrder")
  sNil)
theorem o_check_word : ∃ f : Fc, f = callM 1 1 b_check_word := ⟨_, rfl⟩
def f_check_word : Fc := o_check_word.choose
theorem f_check_word_eq : f_check_word = callM 1 1 b_check_word := o_check_word.choose_spec
/-- law: 0 script, 1 dice, 2 row, 3 a, 4 b, 5 n, 6 m, 7 x, 8 y, 9 many, 10 bad, 11 k -/
def q_0 : Ev → Hm → SR := (sAsg (gN 2) (mLst (mCons (mC (.int 0)) (mCons (mC (.int 1)) (mCons (mC (.int 32767)) (mCons (mC (.int 32768)) (mCons (mC (.int 65535)) mNil)))))))
def q_1 : Ev → Hm → SR := (sAsg (gU 2 (gsCons (gN 3) (gsCons (gN 4) gsNil))) (mLc [11] (mRg1 (mCons (mC (.int 2)) mNil)) (gN 11) tYesM (mIf (mBool (m2 fEq (mCallF 2 f__law_roll (mCons (mVar 1) (mCons (mC (.int 3)) mNil))) (mC (.int 0)))) (m2 fIx (mVar 2) (mCallF 2 f__law_roll (mCons (mVar 1) (mCons (mC (.int 5)) mNil)))) (mCallF 2 f__law_roll (mCons (mVar 1) (mCons (mC (.int 65536)) mNil))))))
def q_2 : Ev → Hm → SR := (sPar 5 6 (mCons (mIf (mBool (m2 fLt (mVar 3) (mC (.int 32768)))) (mVar 3) (m2 fSub (mVar 3) (mC (.int 65536)))) (mCons (mIf (mBool (m2 fLt (mVar 4) (mC (.int 32768)))) (mVar 4) (m2 fSub (mVar 4) (mC (.int 65536)))) mNil)))
def q_3 : Ev → Hm → SR := (sIf (mOr (mBool (m2 fNe (m2 fMod (m2 fSub (m2 fSub (mCallF 2 f_add (mCons (mVar 3) (mCons (mVar 4) mNil))) (mVar 3)) (mVar 4)) (mC (.int 65536))) (mC (.int 0)))) (mBool (m2 fNe (m2 fMod (m2 fAdd (m2 fSub (mCallF 2 f_less (mCons (mVar 3) (mCons (mVar 4) mNil))) (mVar 3)) (mVar 4)) (mC (.int 65536))) (mC (.int 0)))))
  (sRet (mC (.bl false)))
  sNil)
def q_4 : Ev → Hm → SR := (sIf (mOr (mBool (m2 fNe (mCallF 2 f_times (mCons (mVar 3) (mCons (mVar 4) mNil))) (m2 fMod (m2 fMul (mVar 3) (mVar 4)) (mC (.int 65536))))) (mOr (mBool (m2 fNe (mCallF 1 f_signed (mCons (mVar 3) mNil)) (mVar 5))) (mOr (mBool (m2 fNe (mCallF 1 f_word_of (mCons (mVar 5) mNil)) (mVar 3))) (mBool (m2 fNe (mCallF 1 f_word_of (mCons (m2 fAdd (mVar 3) (mC (.int 65536))) mNil)) (mVar 3))))))
  (sRet (mC (.bl false)))
  sNil)
def q_5 : Ev → Hm → SR := (sAsg (gU 2 (gsCons (gN 7) (gsCons (gN 8) gsNil))) (mTup (mCons (mCallF 1 f__law_bits (mCons (mVar 3) mNil)) (mCons (mCallF 1 f__law_bits (mCons (mVar 4) mNil)) mNil))))
def q_6 : Ev → Hm → SR := (sIf (mOr (mBool (m2 fNe (mCall fList (mCons (mCallF 1 f_bits_of (mCons (mVar 3) mNil)) mNil)) (mVar 7))) (mBool (m2 fNe (mCallF 1 f_of_bits (mCons (mVar 7) mNil)) (mVar 3))))
  (sRet (mC (.bl false)))
  sNil)
def q_7 : Ev → Hm → SR := (sIf (mBool (m2 fNe (mCallF 1 f_bits_of (mCons (mCallF 2 f_shared (mCons (mVar 3) (mCons (mVar 4) mNil))) mNil)) (mCall fTuple (mCons (mLc [11] (mRg1 (mCons (mC (.int 16)) mNil)) (gN 11) tYesM (m2 fMul (m2 fIx (mVar 7) (mVar 11)) (m2 fIx (mVar 8) (mVar 11)))) mNil))))
  (sRet (mC (.bl false)))
  sNil)
def q_8 : Ev → Hm → SR := (sIf (mBool (m2 fNe (mCallF 1 f_bits_of (mCons (mCallF 2 f_either (mCons (mVar 3) (mCons (mVar 4) mNil))) mNil)) (mCall fTuple (mCons (mLc [11] (mRg1 (mCons (mC (.int 16)) mNil)) (gN 11) tYesM (mCall fMax2 (mCons (m2 fIx (mVar 7) (mVar 11)) (mCons (m2 fIx (mVar 8) (mVar 11)) mNil)))) mNil))))
  (sRet (mC (.bl false)))
  sNil)
def q_9 : Ev → Hm → SR := (sIf (mBool (m2 fNe (mCallF 1 f_bits_of (mCons (mCallF 2 f_unlike (mCons (mVar 3) (mCons (mVar 4) mNil))) mNil)) (mCall fTuple (mCons (mLc [11] (mRg1 (mCons (mC (.int 16)) mNil)) (gN 11) tYesM (m2 fMod (m2 fAdd (m2 fIx (mVar 7) (mVar 11)) (m2 fIx (mVar 8) (mVar 11))) (mC (.int 2)))) mNil))))
  (sRet (mC (.bl false)))
  sNil)
def q_10 : Ev → Hm → SR := (sAsg (gN 9) (m2 fMod (mVar 4) (mC (.int 16))))
def q_11 : Ev → Hm → SR := (sIf (mBool (m2 fNe (mCall fList (mCons (mCallF 1 f_bits_of (mCons (mCallF 2 f_up (mCons (mVar 3) (mCons (mVar 4) mNil))) mNil)) mNil)) (m2 fAdd (m2 fMul (mLst (mCons (mC (.int 0)) mNil)) (mVar 9)) (mSl (mVar 7) mNo (mSome (m2 fSub (mC (.int 16)) (mVar 9)))))))
  (sRet (mC (.bl false)))
  sNil)
def q_12 : Ev → Hm → SR := (sIf (mBool (m2 fNe (mCall fList (mCons (mCallF 1 f_bits_of (mCons (mCallF 2 f_down (mCons (mVar 3) (mCons (mVar 4) mNil))) mNil)) mNil)) (m2 fAdd (mSl (mVar 7) (mSome (mVar 9)) mNo) (m2 fMul (mLst (mCons (mC (.int 0)) mNil)) (mVar 9)))))
  (sRet (mC (.bl false)))
  sNil)
def q_13 : Ev → Hm → SR := (sIf (mBool (m2 fNe (mCall fList (mCons (mCallF 1 f_bits_of (mCons (mCallF 2 f_down_signed (mCons (mVar 3) (mCons (mVar 4) mNil))) mNil)) mNil)) (m2 fAdd (mSl (mVar 7) (mSome (mVar 9)) mNo) (m2 fMul (mLst (mCons (m2 fIx (mVar 7) (mC (.int 15))) mNil)) (mVar 9)))))
  (sRet (mC (.bl false)))
  sNil)
def q_14 : Ev → Hm → SR := (sIf (mOr (mBool (m2 fNe (mCallF 2 f_is_less (mCons (mVar 3) (mCons (mVar 4) mNil))) (mCall fInt (mCons (m2 fLt (mVar 5) (mVar 6)) mNil)))) (mBool (m2 fNe (mCallF 2 f_is_below (mCons (mVar 3) (mCons (mVar 4) mNil))) (mCall fInt (mCons (m2 fLt (mVar 3) (mVar 4)) mNil)))))
  (sRet (mC (.bl false)))
  sNil)
def q_15 : Ev → Hm → SR := (sIf (mNot (mTru (mCallF 2 f__law_fields (mCons (mVar 1) (mCons (mVar 3) mNil)))))
  (sRet (mC (.bl false)))
  sNil)
def q_16 : Ev → Hm → SR := (sDrop (mCallF 1 f_check_word (mCons (mVar 3) mNil)))
def l_law_0 : Ev → Hm → SR := (sIf (mBool (m2 fNe (mTold told_cs (mCallF 1 f_check_word (mCons (mVar 10) mNil))) (mC (.str "order"))))
  (sRet (mC (.bl false)))
  sNil)
def q_17 : Ev → Hm → SR := (sFor (mItA (mLst (mCons (mC .non) (mCons (m2 fSub (mC (.int 0)) (mC (.int 1))) (mCons (mC (.int 65536)) (mCons (mC (.bl true)) (mCons (mC (.str "0")) mNil))))))) (gN 10)
  l_law_0)
def l_law_1 : Ev → Hm → SR := (sSeq q_0 (sSeq q_1 (sSeq q_2 (sSeq q_3 (sSeq q_4 (sSeq q_5 (sSeq q_6 (sSeq q_7 (sSeq q_8 (sSeq q_9 (sSeq q_10 (sSeq q_11 (sSeq q_12 (sSeq q_13 (sSeq q_14 (sSeq q_15 (sSeq q_16 q_17)))))))))))))))))
def b_law : Ev → Hm → SR := (sSeq (sFor (mItA (mCallF 2 f__law_rounds (mCons (mVar 0) (mCons (mC (.int 5)) mNil)))) (gN 1)
  l_law_1)
  (sRet (mC (.bl true))))
def f_law : Fc := callM 12 1 b_law
end
end K01
end MM

namespace MM
namespace K01
open PySem L2
def top (i : Nat) : Stmt := PySem.Challenge.pw_corehall_k01_words_of_bits.main.body.getD i (.Pass ⟨0, 0, 0, 0⟩)
def clsB (s : Stmt) : List Stmt := match s with
  | .ClassDef _ _ _ b _ _ _ _ _ _ _ => b
  | _ => []
def inC (i j : Nat) : Stmt := (clsB (top i)).getD j (.Pass ⟨0, 0, 0, 0⟩)
abbrev s__law_dice : Stmt := top 28
def df__law_dice : He.DefD := ⟨("_law_dice", none), "_law_dice", "_law_dice", defArgs s__law_dice, defBody s__law_dice, defScope s__law_dice, [], []⟩
abbrev s__law_rounds : Stmt := top 30
def df__law_rounds : He.DefD := ⟨("_law_rounds", none), "_law_rounds", "_law_rounds", defArgs s__law_rounds, defBody s__law_rounds, defScope s__law_rounds, [], []⟩
abbrev s__law_roll : Stmt := top 29
def df__law_roll : He.DefD := ⟨("_law_roll", none), "_law_roll", "_law_roll", defArgs s__law_roll, defBody s__law_roll, defScope s__law_roll, [], []⟩
abbrev s_add : Stmt := top 14
def df_add : He.DefD := ⟨("add", none), "add", "add", defArgs s_add, defBody s_add, defScope s_add, [], []⟩
abbrev s_less : Stmt := top 15
def df_less : He.DefD := ⟨("less", none), "less", "less", defArgs s_less, defBody s_less, defScope s_less, [], []⟩
abbrev s_times : Stmt := top 16
def df_times : He.DefD := ⟨("times", none), "times", "times", defArgs s_times, defBody s_times, defScope s_times, [], []⟩
abbrev s_signed : Stmt := top 11
def df_signed : He.DefD := ⟨("signed", none), "signed", "signed", defArgs s_signed, defBody s_signed, defScope s_signed, [], []⟩
abbrev s_word_of : Stmt := top 10
def df_word_of : He.DefD := ⟨("word_of", none), "word_of", "word_of", defArgs s_word_of, defBody s_word_of, defScope s_word_of, [], []⟩
abbrev s__law_bits : Stmt := top 32
def df__law_bits : He.DefD := ⟨("_law_bits", none), "_law_bits", "_law_bits", defArgs s__law_bits, defBody s__law_bits, defScope s__law_bits, [], []⟩
abbrev s_bits_of : Stmt := top 12
def df_bits_of : He.DefD := ⟨("bits_of", none), "bits_of", "bits_of", defArgs s_bits_of, defBody s_bits_of, defScope s_bits_of, [], []⟩
abbrev s_of_bits : Stmt := top 13
def df_of_bits : He.DefD := ⟨("of_bits", none), "of_bits", "of_bits", defArgs s_of_bits, defBody s_of_bits, defScope s_of_bits, [], []⟩
abbrev s_shared : Stmt := top 17
def df_shared : He.DefD := ⟨("shared", none), "shared", "shared", defArgs s_shared, defBody s_shared, defScope s_shared, [], []⟩
abbrev s_either : Stmt := top 18
def df_either : He.DefD := ⟨("either", none), "either", "either", defArgs s_either, defBody s_either, defScope s_either, [], []⟩
abbrev s_unlike : Stmt := top 19
def df_unlike : He.DefD := ⟨("unlike", none), "unlike", "unlike", defArgs s_unlike, defBody s_unlike, defScope s_unlike, [], []⟩
abbrev s_up : Stmt := top 20
def df_up : He.DefD := ⟨("up", none), "up", "up", defArgs s_up, defBody s_up, defScope s_up, [], []⟩
abbrev s_down : Stmt := top 21
def df_down : He.DefD := ⟨("down", none), "down", "down", defArgs s_down, defBody s_down, defScope s_down, [], []⟩
abbrev s_down_signed : Stmt := top 22
def df_down_signed : He.DefD := ⟨("down_signed", none), "down_signed", "down_signed", defArgs s_down_signed, defBody s_down_signed, defScope s_down_signed, [], []⟩
abbrev s_is_less : Stmt := top 23
def df_is_less : He.DefD := ⟨("is_less", none), "is_less", "is_less", defArgs s_is_less, defBody s_is_less, defScope s_is_less, [], []⟩
abbrev s_is_below : Stmt := top 24
def df_is_below : He.DefD := ⟨("is_below", none), "is_below", "is_below", defArgs s_is_below, defBody s_is_below, defScope s_is_below, [], []⟩
abbrev s_stretched : Stmt := top 25
def df_stretched : He.DefD := ⟨("stretched", none), "stretched", "stretched", defArgs s_stretched, defBody s_stretched, defScope s_stretched, [], []⟩
abbrev s_field : Stmt := top 26
def df_field : He.DefD := ⟨("field", none), "field", "field", defArgs s_field, defBody s_field, defScope s_field, [], []⟩
abbrev s__law_fields : Stmt := top 33
def df__law_fields : He.DefD := ⟨("_law_fields", none), "_law_fields", "_law_fields", defArgs s__law_fields, defBody s__law_fields, defScope s__law_fields, [], []⟩
abbrev s_check_word : Stmt := top 9
def df_check_word : He.DefD := ⟨("check_word", none), "check_word", "check_word", defArgs s_check_word, defBody s_check_word, defScope s_check_word, [], []⟩
abbrev s_law : Stmt := top 34
def df_law : He.DefD := ⟨("law", none), "law", "law", defArgs s_law, defBody s_law, defScope s_law, [], []⟩
abbrev s__law_told : Stmt := top 31
def df__law_told : He.DefD := ⟨("_law_told", none), "_law_told", "_law_told", defArgs s__law_told, defBody s__law_told, defScope s__law_told, [], []⟩
def fa : List He.Fa := [.free "abs", .free "int", .glo "_law_dice", .glo "_law_rounds", .free "range", .glo "_law_roll", .int "WORD" 65536, .glo "add", .glo "less", .glo "times", .int "HALF" 32768, .glo "signed", .glo "word_of", .glo "_law_bits", .free "list", .free "tuple", .glo "bits_of", .free "reversed", .glo "of_bits", .free "zip", .glo "shared", .glo "either", .free "max", .glo "unlike", .glo "up", .glo "down", .glo "down_signed", .glo "is_less", .glo "is_below", .glo "stretched", .glo "BadOrder", .exc "BadOrder", .glo "field", .glo "_law_told", .exm "BadOrder" "BadOrder" true, .glo "BadProgram", .exm "BadProgram" "BadOrder" false, .exm "BadProgram" "BadProgram" true, .glo "NoWay", .exm "NoWay" "BadOrder" false, .exm "NoWay" "BadProgram" false, .exm "NoWay" "NoWay" true, .glo "TooLarge", .exm "TooLarge" "BadOrder" false, .exm "TooLarge" "BadProgram" false, .exm "TooLarge" "NoWay" false, .exm "TooLarge" "TooLarge" true, .glo "_law_fields", .free "isinstance", .free "bool", .glo "check_word", .glo "law"]
def fn : List He.DefD := [df__law_dice, df__law_rounds, df__law_roll, df_add, df_less, df_times, df_signed, df_word_of, df__law_bits, df_bits_of, df_of_bits, df_shared, df_either, df_unlike, df_up, df_down, df_down_signed, df_is_less, df_is_below, df_stretched, df_field, df__law_fields, df_check_word, df_law, df__law_told]
abbrev tfp_0 : He.Defn × Str := (("_law_fields", none), ("_law_fields" : Str) ++ ".<locals>." ++ "<lambda>")
abbrev tfp_1 : He.Defn × Str := (("law", none), ("law" : Str) ++ ".<locals>." ++ "<lambda>")
def tf : List (He.Defn × Str) := [tfp_0, tfp_1]
theorem tfm (i : Nat) {p : He.Defn × Str} (h : tf[i]? = some p := by rfl) : p ∈ tf := List.mem_of_getElem? h
def ex (K : PySem.W.Frag) : Bool := true && tabNd K tf
section
variable {P : Program} {w : World} {K : PySem.W.Frag} {mg : Str → Option Value} {base h : Heap} {T : List (Addr × Str)}
/-- what the head tells -/
structure Cf (K : PySem.W.Frag) : Prop where
  d : He.SaysD fa fn K
  e : ex K = true
section
variable (XI : K.In h) (G : h.Ns mainGlobals mg) (c : Cf K) (TB : ∀ p ∈ tf, LamX.TabB base mg (He.cT K p.1).1 (He.cT K p.1).2)
include c
theorem x_BadOrder : (He.Fa.exc "BadOrder").ok K = true := c.d.fact 31 (f := .exc "BadOrder") rfl
theorem e_BadOrder_BadOrder : (He.Fa.exm "BadOrder" "BadOrder" true).ok K = true := c.d.fact 34 (f := .exm "BadOrder" "BadOrder" true) rfl
theorem e_BadProgram_BadOrder : (He.Fa.exm "BadProgram" "BadOrder" false).ok K = true := c.d.fact 36 (f := .exm "BadProgram" "BadOrder" false) rfl
theorem e_BadProgram_BadProgram : (He.Fa.exm "BadProgram" "BadProgram" true).ok K = true := c.d.fact 37 (f := .exm "BadProgram" "BadProgram" true) rfl
theorem e_NoWay_BadOrder : (He.Fa.exm "NoWay" "BadOrder" false).ok K = true := c.d.fact 39 (f := .exm "NoWay" "BadOrder" false) rfl
theorem e_NoWay_BadProgram : (He.Fa.exm "NoWay" "BadProgram" false).ok K = true := c.d.fact 40 (f := .exm "NoWay" "BadProgram" false) rfl
theorem e_NoWay_NoWay : (He.Fa.exm "NoWay" "NoWay" true).ok K = true := c.d.fact 41 (f := .exm "NoWay" "NoWay" true) rfl
theorem e_TooLarge_BadOrder : (He.Fa.exm "TooLarge" "BadOrder" false).ok K = true := c.d.fact 43 (f := .exm "TooLarge" "BadOrder" false) rfl
theorem e_TooLarge_BadProgram : (He.Fa.exm "TooLarge" "BadProgram" false).ok K = true := c.d.fact 44 (f := .exm "TooLarge" "BadProgram" false) rfl
theorem e_TooLarge_NoWay : (He.Fa.exm "TooLarge" "NoWay" false).ok K = true := c.d.fact 45 (f := .exm "TooLarge" "NoWay" false) rfl
theorem e_TooLarge_TooLarge : (He.Fa.exm "TooLarge" "TooLarge" true).ok K = true := c.d.fact 46 (f := .exm "TooLarge" "TooLarge" true) rfl
include XI G
theorem n_abs : mg "abs" = none := He.free_ok XI G (c.d.fact 0 (f := .free "abs") rfl)
theorem n_int : mg "int" = none := He.free_ok XI G (c.d.fact 1 (f := .free "int") rfl)
theorem g__law_dice : mg "_law_dice" = some (.ref (He.ga K "_law_dice")) := He.glo_ok XI G (c.d.fact 2 (f := .glo "_law_dice") rfl)
theorem g__law_rounds : mg "_law_rounds" = some (.ref (He.ga K "_law_rounds")) := He.glo_ok XI G (c.d.fact 3 (f := .glo "_law_rounds") rfl)
theorem n_range : mg "range" = none := He.free_ok XI G (c.d.fact 4 (f := .free "range") rfl)
theorem g__law_roll : mg "_law_roll" = some (.ref (He.ga K "_law_roll")) := He.glo_ok XI G (c.d.fact 5 (f := .glo "_law_roll") rfl)
theorem i_WORD : ∃ t, mg "WORD" = some (.int 65536 t) := He.int_ok XI G (c.d.fact 6 (f := .int "WORD" 65536) rfl)
theorem g_add : mg "add" = some (.ref (He.ga K "add")) := He.glo_ok XI G (c.d.fact 7 (f := .glo "add") rfl)
theorem g_less : mg "less" = some (.ref (He.ga K "less")) := He.glo_ok XI G (c.d.fact 8 (f := .glo "less") rfl)
theorem g_times : mg "times" = some (.ref (He.ga K "times")) := He.glo_ok XI G (c.d.fact 9 (f := .glo "times") rfl)
theorem i_HALF : ∃ t, mg "HALF" = some (.int 32768 t) := He.int_ok XI G (c.d.fact 10 (f := .int "HALF" 32768) rfl)
theorem g_signed : mg "signed" = some (.ref (He.ga K "signed")) := He.glo_ok XI G (c.d.fact 11 (f := .glo "signed") rfl)
theorem g_word_of : mg "word_of" = some (.ref (He.ga K "word_of")) := He.glo_ok XI G (c.d.fact 12 (f := .glo "word_of") rfl)
theorem g__law_bits : mg "_law_bits" = some (.ref (He.ga K "_law_bits")) := He.glo_ok XI G (c.d.fact 13 (f := .glo "_law_bits") rfl)
theorem n_list : mg "list" = none := He.free_ok XI G (c.d.fact 14 (f := .free "list") rfl)
theorem n_tuple : mg "tuple" = none := He.free_ok XI G (c.d.fact 15 (f := .free "tuple") rfl)
theorem g_bits_of : mg "bits_of" = some (.ref (He.ga K "bits_of")) := He.glo_ok XI G (c.d.fact 16 (f := .glo "bits_of") rfl)
theorem n_reversed : mg "reversed" = none := He.free_ok XI G (c.d.fact 17 (f := .free "reversed") rfl)
theorem g_of_bits : mg "of_bits" = some (.ref (He.ga K "of_bits")) := He.glo_ok XI G (c.d.fact 18 (f := .glo "of_bits") rfl)
theorem n_zip : mg "zip" = none := He.free_ok XI G (c.d.fact 19 (f := .free "zip") rfl)
theorem g_shared : mg "shared" = some (.ref (He.ga K "shared")) := He.glo_ok XI G (c.d.fact 20 (f := .glo "shared") rfl)
theorem g_either : mg "either" = some (.ref (He.ga K "either")) := He.glo_ok XI G (c.d.fact 21 (f := .glo "either") rfl)
theorem n_max : mg "max" = none := He.free_ok XI G (c.d.fact 22 (f := .free "max") rfl)
theorem g_unlike : mg "unlike" = some (.ref (He.ga K "unlike")) := He.glo_ok XI G (c.d.fact 23 (f := .glo "unlike") rfl)
theorem g_up : mg "up" = some (.ref (He.ga K "up")) := He.glo_ok XI G (c.d.fact 24 (f := .glo "up") rfl)
theorem g_down : mg "down" = some (.ref (He.ga K "down")) := He.glo_ok XI G (c.d.fact 25 (f := .glo "down") rfl)
theorem g_down_signed : mg "down_signed" = some (.ref (He.ga K "down_signed")) := He.glo_ok XI G (c.d.fact 26 (f := .glo "down_signed") rfl)
theorem g_is_less : mg "is_less" = some (.ref (He.ga K "is_less")) := He.glo_ok XI G (c.d.fact 27 (f := .glo "is_less") rfl)
theorem g_is_below : mg "is_below" = some (.ref (He.ga K "is_below")) := He.glo_ok XI G (c.d.fact 28 (f := .glo "is_below") rfl)
theorem g_stretched : mg "stretched" = some (.ref (He.ga K "stretched")) := He.glo_ok XI G (c.d.fact 29 (f := .glo "stretched") rfl)
theorem g_BadOrder : mg "BadOrder" = some (.ref (He.ga K "BadOrder")) := He.glo_ok XI G (c.d.fact 30 (f := .glo "BadOrder") rfl)
theorem g_field : mg "field" = some (.ref (He.ga K "field")) := He.glo_ok XI G (c.d.fact 32 (f := .glo "field") rfl)
theorem g__law_told : mg "_law_told" = some (.ref (He.ga K "_law_told")) := He.glo_ok XI G (c.d.fact 33 (f := .glo "_law_told") rfl)
theorem g_BadProgram : mg "BadProgram" = some (.ref (He.ga K "BadProgram")) := He.glo_ok XI G (c.d.fact 35 (f := .glo "BadProgram") rfl)
theorem g_NoWay : mg "NoWay" = some (.ref (He.ga K "NoWay")) := He.glo_ok XI G (c.d.fact 38 (f := .glo "NoWay") rfl)
theorem g_TooLarge : mg "TooLarge" = some (.ref (He.ga K "TooLarge")) := He.glo_ok XI G (c.d.fact 42 (f := .glo "TooLarge") rfl)
theorem g__law_fields : mg "_law_fields" = some (.ref (He.ga K "_law_fields")) := He.glo_ok XI G (c.d.fact 47 (f := .glo "_law_fields") rfl)
theorem n_isinstance : mg "isinstance" = none := He.free_ok XI G (c.d.fact 48 (f := .free "isinstance") rfl)
theorem n_bool : mg "bool" = none := He.free_ok XI G (c.d.fact 49 (f := .free "bool") rfl)
theorem g_check_word : mg "check_word" = some (.ref (He.ga K "check_word")) := He.glo_ok XI G (c.d.fact 50 (f := .glo "check_word") rfl)
theorem g_law : mg "law" = some (.ref (He.ga K "law")) := He.glo_ok XI G (c.d.fact 51 (f := .glo "law") rfl)
omit XI G in
theorem tnd : tabNd K tf = true := (He.ba c.e).2
omit XI G c in
theorem sc__law_told : FnScope ["what"] ["what"] (defScope s__law_told) := ⟨rfl, rfl, rfl, by decide +kernel, rfl, by decide +kernel, by decide +kernel⟩
theorem td : ToldOk K mg "_law_told" (He.ga K "_law_told") told_cs := by
  obtain ⟨fd, F⟩ := c.d.def_ 24 (d := df__law_told) rfl
  refine ⟨"what", _, _, _, _, _, _, _, _, ["what"], _, fd, F, F.bindsN (fun _ _ _ _ _ _ us hl => match us, hl with | [_], _ => rfl), sc__law_told, rfl, Or.inl rfl, (Hds.cons rfl (g_BadOrder XI G c) rfl (Hds.cons rfl (g_BadProgram XI G c) rfl (Hds.cons rfl (g_NoWay XI G c) rfl (Hds.cons rfl (g_TooLarge XI G c) rfl .nil)))), fun f => rfl, ?_, rfl, rfl⟩
  intro x t e C eC Q H qq
  unfold told_cs at e
  simp only [tellL] at e
  split at e
  · rename_i hx
    subst hx
    cases e
    rw [g_BadOrder XI G c] at eC
    cases eC
    exact ⟨true, He.exm_ok (e_BadOrder_BadOrder c), fun _ => qq, fun z => by cases z⟩
  split at e
  · rename_i hx
    subst hx
    cases e
    rw [g_BadProgram XI G c] at eC
    cases eC
    exact ⟨false, He.exm_ok (e_BadProgram_BadOrder c), fun z => (by cases z), fun _ => ⟨true, He.exm_ok (e_BadProgram_BadProgram c), fun _ => qq, fun z => by cases z⟩⟩
  split at e
  · rename_i hx
    subst hx
    cases e
    rw [g_NoWay XI G c] at eC
    cases eC
    exact ⟨false, He.exm_ok (e_NoWay_BadOrder c), fun z => (by cases z), fun _ => ⟨false, He.exm_ok (e_NoWay_BadProgram c), fun z => (by cases z), fun _ => ⟨true, He.exm_ok (e_NoWay_NoWay c), fun _ => qq, fun z => by cases z⟩⟩⟩
  split at e
  · rename_i hx
    subst hx
    cases e
    rw [g_TooLarge XI G c] at eC
    cases eC
    exact ⟨false, He.exm_ok (e_TooLarge_BadOrder c), fun z => (by cases z), fun _ => ⟨false, He.exm_ok (e_TooLarge_BadProgram c), fun z => (by cases z), fun _ => ⟨false, He.exm_ok (e_TooLarge_NoWay c), fun z => (by cases z), fun _ => ⟨true, He.exm_ok (e_TooLarge_TooLarge c), fun _ => qq, fun z => by cases z⟩⟩⟩⟩
  cases e
include TB
def N__law_dice : List Str := ["cell"]
omit XI G c TB in
theorem sc__law_dice : FnScope N__law_dice ["cell"] (defScope s__law_dice) := ⟨rfl, rfl, rfl, by decide +kernel, rfl, by decide +kernel, by decide +kernel⟩
theorem w__law_dice : FunM P w K mg base (tabT K tf) 1 (He.ga K "_law_dice") 1 f__law_dice := by
  obtain ⟨fd, F⟩ := c.d.def_ 0 (d := df__law_dice) rfl
  refine def_m (k := 0) (N := N__law_dice) F sc__law_dice (fun _ _ _ _ _ _ us hl => match us, hl with | [_], _ => rfl) fun cdv  A outer s H E hr tk hp => ?_
  have hu1 := hu_of hr
  have hu4 := hr.units
  have hu5 := hu65 hr
  have nd := sc__law_dice.nd
  exact (ssm_cons (sm_if (tm_chain op_lt o2_B0 op_lt o2_B0 (em_sub em_int em_int) (em_var 0) em_int)
  (ssm_one (sm_ret (em_lst (am_cons (em_callB call_abs oc_abs rfl (n_abs XI G c) (am_cons (em_var 0) am_nil) rfl) (am_cons em_int (am_cons em_int am_nil))) (len_cons (len_cons (len_cons len_nil))))))
  ssm_nil)
  (ssm_one (sm_ret (em_lst (am_cons (em_var 0) (am_cons (em_add em_int (em_mod (em_callTy call_int1 oc_int rfl (n_int XI G c) (am_cons (em_var 0) am_nil) rfl) em_int)) (am_cons (em_callTy call_int1 oc_int rfl (n_int XI G c) (am_cons (em_ge (em_var 0) (em_pow em_int em_int)) am_nil) rfl) am_nil))) (len_cons (len_cons (len_cons len_nil)))))))
def N__law_rounds : List Str := ["script", "most", "cells", "cell"]
omit XI G c TB in
theorem sc__law_rounds : FnScope N__law_rounds ["script", "most"] (defScope s__law_rounds) := ⟨rfl, rfl, rfl, by decide +kernel, rfl, by decide +kernel, by decide +kernel⟩
theorem w__law_rounds : FunM P w K mg base (tabT K tf) 2 (He.ga K "_law_rounds") 2 f__law_rounds := by
  obtain ⟨fd, F⟩ := c.d.def_ 1 (d := df__law_rounds) rfl
  refine def_m (k := 1) (N := N__law_rounds) F sc__law_rounds (fun _ _ _ _ _ _ us hl => match us, hl with | [_, _], _ => rfl) fun cdv  A outer s H E hr tk hp => ?_
  have hu1 := hu_of hr
  have hu4 := hr.units
  have hu5 := hu65 hr
  have nd := sc__law_rounds.nd
  exact (ssm_cons (sm_set 2 nd (em_sl (em_var 0) om_none (om_some (em_var 1))))
  (ssm_cons (sm_if (tm_eq hu4 (em_var 2) (em_lst am_nil len_nil))
  (ssm_one (sm_set 2 nd (em_lst (am_cons em_int am_nil) (len_cons len_nil))))
  ssm_nil)
  (ssm_one (sm_ret (em_lc [("cell", 3)] rfl nd (im_any (em_var 2)) (blkOk_by rfl) (fun _ _ _ _ _ => (gw_name 3 nd)) (fun _ _ _ _ _ => tsm_nil) (fun _ _ _ _ _ => (em_call (w__law_dice XI G c TB) hr (by decide) rfl (g__law_dice XI G c) takesF (am_cons (em_var 3) am_nil))))))))
def N__law_roll : List Str := ["dice", "many", "found"]
omit XI G c TB in
theorem sc__law_roll : FnScope N__law_roll ["dice", "many"] (defScope s__law_roll) := ⟨rfl, rfl, rfl, by decide +kernel, rfl, by decide +kernel, by decide +kernel⟩
theorem w__law_roll : FunM P w K mg base (tabT K tf) 1 (He.ga K "_law_roll") 2 f__law_roll := by
  obtain ⟨fd, F⟩ := c.d.def_ 2 (d := df__law_roll) rfl
  refine def_m (k := 0) (N := N__law_roll) F sc__law_roll (fun _ _ _ _ _ _ us hl => match us, hl with | [_, _], _ => rfl) fun cdv  A outer s H E hr tk hp => ?_
  have hu1 := hu_of hr
  have hu4 := hr.units
  have hu5 := hu65 hr
  have nd := sc__law_roll.nd
  exact (ssm_cons (sm_if (tm_wm (wm_or (tm_eq hu4 (em_ix hu1 (em_var 0) em_int) em_int) (wm_or1 (tm_wm (wm_and (tm_eq hu4 (em_ix hu1 (em_var 0) em_int) em_int) (wm_and1 (tm_gt (em_ix hu1 (em_var 0) em_int) em_int)))))))
  (ssm_cons (sm_set 2 nd (em_mod (em_callTy call_int1 oc_int rfl (n_int XI G c) (am_cons (em_ix hu1 (em_var 0) em_int) am_nil) rfl) (em_var 1)))
  (ssm_cons (sm_asg (gm_sub hu1 (em_var 0) em_int) (em_div (em_ix hu1 (em_var 0) em_int) (em_var 1)))
  (ssm_one (sm_ret (em_var 2)))))
  ssm_nil)
  (ssm_cons (sm_asg (gm_sub hu1 (em_var 0) em_int) em_int)
  (ssm_cons (sm_asg (gm_sub hu1 (em_var 0) em_int) (em_mod (em_callTy call_int1 oc_int rfl (n_int XI G c) (am_cons (em_add (em_add (em_mul (em_ix hu1 (em_var 0) em_int) em_int) (em_mul (em_ix hu1 (em_var 0) em_int) em_int)) em_int) am_nil) rfl) em_int))
  (ssm_cons (sm_asg (gm_sub hu1 (em_var 0) em_int) (em_add (em_ix hu1 (em_var 0) em_int) em_int))
  (ssm_one (sm_ret (em_mod (em_callTy call_int1 oc_int rfl (n_int XI G c) (am_cons (em_add (em_div (em_ix hu1 (em_var 0) em_int) em_int) (em_ix hu1 (em_var 0) em_int)) am_nil) rfl) (em_var 1))))))))
def N_add : List Str := ["a", "b"]
omit XI G c TB in
theorem sc_add : FnScope N_add ["a", "b"] (defScope s_add) := ⟨rfl, rfl, rfl, by decide +kernel, rfl, by decide +kernel, by decide +kernel⟩
theorem w_add : FunM P w K mg base (tabT K tf) 1 (He.ga K "add") 2 f_add := by
  obtain ⟨fd, F⟩ := c.d.def_ 3 (d := df_add) rfl
  rw [f_add_eq]
  refine def_m (k := 0) (N := N_add) F sc_add (fun _ _ _ _ _ _ us hl => match us, hl with | [_, _], _ => rfl) fun cdv  A outer s H E hr tk hp => ?_
  have hu1 := hu_of hr
  have hu4 := hr.units
  have hu5 := hu65 hr
  have nd := sc_add.nd
  exact (ssm_one (sm_ret (em_mod (em_add (em_var 0) (em_var 1)) (em_globI rfl (i_WORD XI G c)))))
def N_less : List Str := ["a", "b"]
omit XI G c TB in
theorem sc_less : FnScope N_less ["a", "b"] (defScope s_less) := ⟨rfl, rfl, rfl, by decide +kernel, rfl, by decide +kernel, by decide +kernel⟩
theorem w_less : FunM P w K mg base (tabT K tf) 1 (He.ga K "less") 2 f_less := by
  obtain ⟨fd, F⟩ := c.d.def_ 4 (d := df_less) rfl
  rw [f_less_eq]
  refine def_m (k := 0) (N := N_less) F sc_less (fun _ _ _ _ _ _ us hl => match us, hl with | [_, _], _ => rfl) fun cdv  A outer s H E hr tk hp => ?_
  have hu1 := hu_of hr
  have hu4 := hr.units
  have hu5 := hu65 hr
  have nd := sc_less.nd
  exact (ssm_one (sm_ret (em_mod (em_sub (em_var 0) (em_var 1)) (em_globI rfl (i_WORD XI G c)))))
def N_times : List Str := ["a", "b"]
omit XI G c TB in
theorem sc_times : FnScope N_times ["a", "b"] (defScope s_times) := ⟨rfl, rfl, rfl, by decide +kernel, rfl, by decide +kernel, by decide +kernel⟩
theorem w_times : FunM P w K mg base (tabT K tf) 1 (He.ga K "times") 2 f_times := by
  obtain ⟨fd, F⟩ := c.d.def_ 5 (d := df_times) rfl
  rw [f_times_eq]
  refine def_m (k := 0) (N := N_times) F sc_times (fun _ _ _ _ _ _ us hl => match us, hl with | [_, _], _ => rfl) fun cdv  A outer s H E hr tk hp => ?_
  have hu1 := hu_of hr
  have hu4 := hr.units
  have hu5 := hu65 hr
  have nd := sc_times.nd
  exact (ssm_one (sm_ret (em_mod (em_mul (em_var 0) (em_var 1)) (em_globI rfl (i_WORD XI G c)))))
def N_signed : List Str := ["word"]
omit XI G c TB in
theorem sc_signed : FnScope N_signed ["word"] (defScope s_signed) := ⟨rfl, rfl, rfl, by decide +kernel, rfl, by decide +kernel, by decide +kernel⟩
theorem w_signed : FunM P w K mg base (tabT K tf) 1 (He.ga K "signed") 1 f_signed := by
  obtain ⟨fd, F⟩ := c.d.def_ 6 (d := df_signed) rfl
  rw [f_signed_eq]
  refine def_m (k := 0) (N := N_signed) F sc_signed (fun _ _ _ _ _ _ us hl => match us, hl with | [_], _ => rfl) fun cdv  A outer s H E hr tk hp => ?_
  have hu1 := hu_of hr
  have hu4 := hr.units
  have hu5 := hu65 hr
  have nd := sc_signed.nd
  exact (ssm_one (sm_ret (em_if (tm_ge (em_var 0) (em_globI rfl (i_HALF XI G c))) (em_sub (em_var 0) (em_globI rfl (i_WORD XI G c))) (em_var 0))))
def N_word_of : List Str := ["number"]
omit XI G c TB in
theorem sc_word_of : FnScope N_word_of ["number"] (defScope s_word_of) := ⟨rfl, rfl, rfl, by decide +kernel, rfl, by decide +kernel, by decide +kernel⟩
theorem w_word_of : FunM P w K mg base (tabT K tf) 1 (He.ga K "word_of") 1 f_word_of := by
  obtain ⟨fd, F⟩ := c.d.def_ 7 (d := df_word_of) rfl
  rw [f_word_of_eq]
  refine def_m (k := 0) (N := N_word_of) F sc_word_of (fun _ _ _ _ _ _ us hl => match us, hl with | [_], _ => rfl) fun cdv  A outer s H E hr tk hp => ?_
  have hu1 := hu_of hr
  have hu4 := hr.units
  have hu5 := hu65 hr
  have nd := sc_word_of.nd
  exact (ssm_one (sm_ret (em_mod (em_var 0) (em_globI rfl (i_WORD XI G c)))))
def N__law_bits : List Str := ["word", "found", "k"]
omit XI G c TB in
theorem sc__law_bits : FnScope N__law_bits ["word"] (defScope s__law_bits) := ⟨rfl, rfl, rfl, by decide +kernel, rfl, by decide +kernel, by decide +kernel⟩
theorem w__law_bits : FunM P w K mg base (tabT K tf) 1 (He.ga K "_law_bits") 1 f__law_bits := by
  obtain ⟨fd, F⟩ := c.d.def_ 8 (d := df__law_bits) rfl
  rw [f__law_bits_eq]
  refine def_m (k := 0) (N := N__law_bits) F sc__law_bits (fun _ _ _ _ _ _ us hl => match us, hl with | [_], _ => rfl) fun cdv  A outer s H E hr tk hp => ?_
  have hu1 := hu_of hr
  have hu4 := hr.units
  have hu5 := hu65 hr
  have nd := sc__law_bits.nd
  exact (ssm_cons (sm_set 1 nd (em_lst am_nil len_nil))
  (ssm_cons (sm_for hp rfl (im_range1 rfl (n_range XI G c) (am_cons em_int am_nil)) (gm_name 2 nd)
  (ssm_cons (sm_expr (em_bm PySem.F.plainAttrs_list PySem.F.slot_list_append PySem.F.type_list_append mt_append tyL om_append (em_var 1) (am_cons (em_mod (em_var 0) em_int) am_nil)))
  (ssm_one (sm_set 0 nd (em_div (em_var 0) em_int)))))
  (ssm_one (sm_ret (em_var 1)))))
def N_bits_of : List Str := ["word", "found", "k"]
omit XI G c TB in
theorem sc_bits_of : FnScope N_bits_of ["word"] (defScope s_bits_of) := ⟨rfl, rfl, rfl, by decide +kernel, rfl, by decide +kernel, by decide +kernel⟩
theorem w_bits_of : FunM P w K mg base (tabT K tf) 1 (He.ga K "bits_of") 1 f_bits_of := by
  obtain ⟨fd, F⟩ := c.d.def_ 9 (d := df_bits_of) rfl
  rw [f_bits_of_eq]
  refine def_m (k := 0) (N := N_bits_of) F sc_bits_of (fun _ _ _ _ _ _ us hl => match us, hl with | [_], _ => rfl) fun cdv  A outer s H E hr tk hp => ?_
  have hu1 := hu_of hr
  have hu4 := hr.units
  have hu5 := hu65 hr
  have nd := sc_bits_of.nd
  exact (ssm_cons (sm_set 1 nd (em_lst am_nil len_nil))
  (ssm_cons (sm_for hp rfl (im_range1 rfl (n_range XI G c) (am_cons em_int am_nil)) (gm_name 2 nd)
  (ssm_cons (sm_expr (em_bm PySem.F.plainAttrs_list PySem.F.slot_list_append PySem.F.type_list_append mt_append tyL om_append (em_var 1) (am_cons (em_mod (em_var 0) em_int) am_nil)))
  (ssm_one (sm_aug 0 nd iop_fdiv o2_IC em_int))))
  (ssm_one (sm_ret (em_callTy call_tuple_of oc_tuple rfl (n_tuple XI G c) (am_cons (em_var 1) am_nil) rfl)))))
def N_of_bits : List Str := ["row", "found", "bit"]
omit XI G c TB in
theorem sc_of_bits : FnScope N_of_bits ["row"] (defScope s_of_bits) := ⟨rfl, rfl, rfl, by decide +kernel, rfl, by decide +kernel, by decide +kernel⟩
theorem w_of_bits : FunM P w K mg base (tabT K tf) 1 (He.ga K "of_bits") 1 f_of_bits := by
  obtain ⟨fd, F⟩ := c.d.def_ 10 (d := df_of_bits) rfl
  rw [f_of_bits_eq]
  refine def_m (k := 0) (N := N_of_bits) F sc_of_bits (fun _ _ _ _ _ _ us hl => match us, hl with | [_], _ => rfl) fun cdv  A outer s H E hr tk hp => ?_
  have hu1 := hu_of hr
  have hu4 := hr.units
  have hu5 := hu65 hr
  have nd := sc_of_bits.nd
  exact (ssm_cons (sm_set 1 nd em_int)
  (ssm_cons (sm_for hp rfl (im_reversed rfl (n_reversed XI G c) (em_var 0)) (gm_name 2 nd)
  (ssm_one (sm_set 1 nd (em_add (em_mul em_int (em_var 1)) (em_var 2)))))
  (ssm_one (sm_ret (em_var 1)))))
def N_shared : List Str := ["a", "b", "x", "y"]
omit XI G c TB in
theorem sc_shared : FnScope N_shared ["a", "b"] (defScope s_shared) := ⟨rfl, rfl, rfl, by decide +kernel, rfl, by decide +kernel, by decide +kernel⟩
theorem w_shared : FunM P w K mg base (tabT K tf) 2 (He.ga K "shared") 2 f_shared := by
  obtain ⟨fd, F⟩ := c.d.def_ 11 (d := df_shared) rfl
  rw [f_shared_eq]
  refine def_m (k := 1) (N := N_shared) F sc_shared (fun _ _ _ _ _ _ us hl => match us, hl with | [_, _], _ => rfl) fun cdv  A outer s H E hr tk hp => ?_
  have hu1 := hu_of hr
  have hu4 := hr.units
  have hu5 := hu65 hr
  have nd := sc_shared.nd
  exact (ssm_one (sm_ret (em_call (w_of_bits XI G c TB) hr (by decide) rfl (g_of_bits XI G c) tk (am_cons (em_lc [("x", 2), ("y", 3)] rfl nd (im_zip rfl (n_zip XI G c) (am_cons (em_call (w_bits_of XI G c TB) hr (by decide) rfl (g_bits_of XI G c) tk (am_cons (em_var 0) am_nil)) (am_cons (em_call (w_bits_of XI G c TB) hr (by decide) rfl (g_bits_of XI G c) tk (am_cons (em_var 1) am_nil)) am_nil))) (blkOk_by rfl) (fun _ _ _ _ _ => (gw_unp rfl (gsw_cons (gw_name 2 nd) (gsw_cons (gw_name 3 nd) gsw_nil)))) (fun _ _ _ _ _ => tsm_nil) (fun _ _ _ _ _ => (em_mul (em_var 2) (em_var 3)))) am_nil))))
def N_either : List Str := ["a", "b"]
omit XI G c TB in
theorem sc_either : FnScope N_either ["a", "b"] (defScope s_either) := ⟨rfl, rfl, rfl, by decide +kernel, rfl, by decide +kernel, by decide +kernel⟩
theorem w_either : FunM P w K mg base (tabT K tf) 3 (He.ga K "either") 2 f_either := by
  obtain ⟨fd, F⟩ := c.d.def_ 12 (d := df_either) rfl
  rw [f_either_eq]
  refine def_m (k := 2) (N := N_either) F sc_either (fun _ _ _ _ _ _ us hl => match us, hl with | [_, _], _ => rfl) fun cdv  A outer s H E hr tk hp => ?_
  have hu1 := hu_of hr
  have hu4 := hr.units
  have hu5 := hu65 hr
  have nd := sc_either.nd
  exact (ssm_one (sm_ret (em_sub (em_add (em_var 0) (em_var 1)) (em_call (w_shared XI G c TB) hr (by decide) rfl (g_shared XI G c) tk (am_cons (em_var 0) (am_cons (em_var 1) am_nil))))))
def N_unlike : List Str := ["a", "b"]
omit XI G c TB in
theorem sc_unlike : FnScope N_unlike ["a", "b"] (defScope s_unlike) := ⟨rfl, rfl, rfl, by decide +kernel, rfl, by decide +kernel, by decide +kernel⟩
theorem w_unlike : FunM P w K mg base (tabT K tf) 3 (He.ga K "unlike") 2 f_unlike := by
  obtain ⟨fd, F⟩ := c.d.def_ 13 (d := df_unlike) rfl
  rw [f_unlike_eq]
  refine def_m (k := 2) (N := N_unlike) F sc_unlike (fun _ _ _ _ _ _ us hl => match us, hl with | [_, _], _ => rfl) fun cdv  A outer s H E hr tk hp => ?_
  have hu1 := hu_of hr
  have hu4 := hr.units
  have hu5 := hu65 hr
  have nd := sc_unlike.nd
  exact (ssm_one (sm_ret (em_sub (em_add (em_var 0) (em_var 1)) (em_mul em_int (em_call (w_shared XI G c TB) hr (by decide) rfl (g_shared XI G c) tk (am_cons (em_var 0) (am_cons (em_var 1) am_nil)))))))
def N_up : List Str := ["a", "many", "k"]
omit XI G c TB in
theorem sc_up : FnScope N_up ["a", "many"] (defScope s_up) := ⟨rfl, rfl, rfl, by decide +kernel, rfl, by decide +kernel, by decide +kernel⟩
theorem w_up : FunM P w K mg base (tabT K tf) 1 (He.ga K "up") 2 f_up := by
  obtain ⟨fd, F⟩ := c.d.def_ 14 (d := df_up) rfl
  rw [f_up_eq]
  refine def_m (k := 0) (N := N_up) F sc_up (fun _ _ _ _ _ _ us hl => match us, hl with | [_, _], _ => rfl) fun cdv  A outer s H E hr tk hp => ?_
  have hu1 := hu_of hr
  have hu4 := hr.units
  have hu5 := hu65 hr
  have nd := sc_up.nd
  exact (ssm_cons (sm_aug 1 nd iop_mod o2_IC em_int)
  (ssm_cons (sm_for hp rfl (im_range1 rfl (n_range XI G c) (am_cons (em_var 1) am_nil)) (gm_name 2 nd)
  (ssm_one (sm_set 0 nd (em_mod (em_mul em_int (em_var 0)) (em_globI rfl (i_WORD XI G c))))))
  (ssm_one (sm_ret (em_var 0)))))
def N_down : List Str := ["a", "many", "k"]
omit XI G c TB in
theorem sc_down : FnScope N_down ["a", "many"] (defScope s_down) := ⟨rfl, rfl, rfl, by decide +kernel, rfl, by decide +kernel, by decide +kernel⟩
theorem w_down : FunM P w K mg base (tabT K tf) 1 (He.ga K "down") 2 f_down := by
  obtain ⟨fd, F⟩ := c.d.def_ 15 (d := df_down) rfl
  rw [f_down_eq]
  refine def_m (k := 0) (N := N_down) F sc_down (fun _ _ _ _ _ _ us hl => match us, hl with | [_, _], _ => rfl) fun cdv  A outer s H E hr tk hp => ?_
  have hu1 := hu_of hr
  have hu4 := hr.units
  have hu5 := hu65 hr
  have nd := sc_down.nd
  exact (ssm_cons (sm_aug 1 nd iop_mod o2_IC em_int)
  (ssm_cons (sm_for hp rfl (im_range1 rfl (n_range XI G c) (am_cons (em_var 1) am_nil)) (gm_name 2 nd)
  (ssm_one (sm_aug 0 nd iop_fdiv o2_IC em_int)))
  (ssm_one (sm_ret (em_var 0)))))
def N_down_signed : List Str := ["a", "many", "number", "k"]
omit XI G c TB in
theorem sc_down_signed : FnScope N_down_signed ["a", "many"] (defScope s_down_signed) := ⟨rfl, rfl, rfl, by decide +kernel, rfl, by decide +kernel, by decide +kernel⟩
theorem w_down_signed : FunM P w K mg base (tabT K tf) 2 (He.ga K "down_signed") 2 f_down_signed := by
  obtain ⟨fd, F⟩ := c.d.def_ 16 (d := df_down_signed) rfl
  rw [f_down_signed_eq]
  refine def_m (k := 1) (N := N_down_signed) F sc_down_signed (fun _ _ _ _ _ _ us hl => match us, hl with | [_, _], _ => rfl) fun cdv  A outer s H E hr tk hp => ?_
  have hu1 := hu_of hr
  have hu4 := hr.units
  have hu5 := hu65 hr
  have nd := sc_down_signed.nd
  exact (ssm_cons (sm_set 2 nd (em_call (w_signed XI G c TB) hr (by decide) rfl (g_signed XI G c) tk (am_cons (em_var 0) am_nil)))
  (ssm_cons (sm_for hp rfl (im_range1 rfl (n_range XI G c) (am_cons (em_mod (em_var 1) em_int) am_nil)) (gm_name 3 nd)
  (ssm_one (sm_aug 2 nd iop_fdiv o2_IC em_int)))
  (ssm_one (sm_ret (em_mod (em_var 2) (em_globI rfl (i_WORD XI G c)))))))
def N_is_less : List Str := ["a", "b"]
omit XI G c TB in
theorem sc_is_less : FnScope N_is_less ["a", "b"] (defScope s_is_less) := ⟨rfl, rfl, rfl, by decide +kernel, rfl, by decide +kernel, by decide +kernel⟩
theorem w_is_less : FunM P w K mg base (tabT K tf) 2 (He.ga K "is_less") 2 f_is_less := by
  obtain ⟨fd, F⟩ := c.d.def_ 17 (d := df_is_less) rfl
  rw [f_is_less_eq]
  refine def_m (k := 1) (N := N_is_less) F sc_is_less (fun _ _ _ _ _ _ us hl => match us, hl with | [_, _], _ => rfl) fun cdv  A outer s H E hr tk hp => ?_
  have hu1 := hu_of hr
  have hu4 := hr.units
  have hu5 := hu65 hr
  have nd := sc_is_less.nd
  exact (ssm_one (sm_ret (em_callTy call_int1 oc_int rfl (n_int XI G c) (am_cons (em_lt (em_call (w_signed XI G c TB) hr (by decide) rfl (g_signed XI G c) tk (am_cons (em_var 0) am_nil)) (em_call (w_signed XI G c TB) hr (by decide) rfl (g_signed XI G c) tk (am_cons (em_var 1) am_nil))) am_nil) rfl)))
def N_is_below : List Str := ["a", "b"]
omit XI G c TB in
theorem sc_is_below : FnScope N_is_below ["a", "b"] (defScope s_is_below) := ⟨rfl, rfl, rfl, by decide +kernel, rfl, by decide +kernel, by decide +kernel⟩
theorem w_is_below : FunM P w K mg base (tabT K tf) 1 (He.ga K "is_below") 2 f_is_below := by
  obtain ⟨fd, F⟩ := c.d.def_ 18 (d := df_is_below) rfl
  rw [f_is_below_eq]
  refine def_m (k := 0) (N := N_is_below) F sc_is_below (fun _ _ _ _ _ _ us hl => match us, hl with | [_, _], _ => rfl) fun cdv  A outer s H E hr tk hp => ?_
  have hu1 := hu_of hr
  have hu4 := hr.units
  have hu5 := hu65 hr
  have nd := sc_is_below.nd
  exact (ssm_one (sm_ret (em_callTy call_int1 oc_int rfl (n_int XI G c) (am_cons (em_lt (em_var 0) (em_var 1)) am_nil) rfl)))
def N_stretched : List Str := ["number", "many", "size", "k"]
omit XI G c TB in
theorem sc_stretched : FnScope N_stretched ["number", "many"] (defScope s_stretched) := ⟨rfl, rfl, rfl, by decide +kernel, rfl, by decide +kernel, by decide +kernel⟩
theorem w_stretched : FunM P w K mg base (tabT K tf) 1 (He.ga K "stretched") 2 f_stretched := by
  obtain ⟨fd, F⟩ := c.d.def_ 19 (d := df_stretched) rfl
  rw [f_stretched_eq]
  refine def_m (k := 0) (N := N_stretched) F sc_stretched (fun _ _ _ _ _ _ us hl => match us, hl with | [_, _], _ => rfl) fun cdv  A outer s H E hr tk hp => ?_
  have hu1 := hu_of hr
  have hu4 := hr.units
  have hu5 := hu65 hr
  have nd := sc_stretched.nd
  exact (ssm_cons (sm_set 2 nd em_int)
  (ssm_cons (sm_for hp rfl (im_range1 rfl (n_range XI G c) (am_cons (em_var 1) am_nil)) (gm_name 3 nd)
  (ssm_one (sm_aug 2 nd iop_mul o2_IC em_int)))
  (ssm_one (sm_ret (em_if (tm_ge (em_mul em_int (em_var 0)) (em_var 2)) (em_sub (em_var 0) (em_var 2)) (em_var 0))))))
def N_field : List Str := ["number", "many", "size", "k"]
omit XI G c TB in
theorem sc_field : FnScope N_field ["number", "many"] (defScope s_field) := ⟨rfl, rfl, rfl, by decide +kernel, rfl, by decide +kernel, by decide +kernel⟩
theorem w_field : FunM P w K mg base (tabT K tf) 1 (He.ga K "field") 2 f_field := by
  obtain ⟨fd, F⟩ := c.d.def_ 20 (d := df_field) rfl
  rw [f_field_eq]
  refine def_m (k := 0) (N := N_field) F sc_field (fun _ _ _ _ _ _ us hl => match us, hl with | [_, _], _ => rfl) fun cdv  A outer s H E hr tk hp => ?_
  have hu1 := hu_of hr
  have hu4 := hr.units
  have hu5 := hu65 hr
  have nd := sc_field.nd
  exact (ssm_cons (sm_set 2 nd em_int)
  (ssm_cons (sm_for hp rfl (im_range1 rfl (n_range XI G c) (am_cons (em_var 1) am_nil)) (gm_name 3 nd)
  (ssm_one (sm_aug 2 nd iop_mul o2_IC em_int)))
  (ssm_cons (sm_if (tm_not (tm_chain op_le o2_B0 op_lt o2_B0 (em_neg (em_var 2)) (em_mul em_int (em_var 0)) (em_var 2)))
  (ssm_one (sm_raise rfl tk PySem.F.excBase_ValueError (He.exc_ok (x_BadOrder c)).1 (g_BadOrder XI G c) (He.exc_ok (x_BadOrder c)).2.1 (raises_own (He.exc_ok (x_BadOrder c)).2.2.1 (He.exc_ok (x_BadOrder c)).2.2.2) rfl))
  ssm_nil)
  (ssm_one (sm_ret (em_mod (em_var 0) (em_var 2)))))))
def N__law_fields : List Str := ["dice", "a", "wide", "size", "k", "number"]
omit XI G c TB in
theorem sc__law_fields : FnScope N__law_fields ["dice", "a"] (defScope s__law_fields) := ⟨rfl, rfl, rfl, by decide +kernel, rfl, by decide +kernel, by decide +kernel⟩
theorem w__law_fields : FunM P w K mg base (tabT K tf) 4 (He.ga K "_law_fields") 2 f__law_fields := by
  obtain ⟨fd, F⟩ := c.d.def_ 21 (d := df__law_fields) rfl
  rw [f__law_fields_eq]
  refine def_mT (p := ("_law_fields", none)) (k := 3) (N := N__law_fields) F sc__law_fields (fun _ _ _ _ _ _ us hl => match us, hl with | [_, _], _ => rfl) fun cdv hcd A outer s H E hr tk hp => ?_
  have hu1 := hu_of hr
  have hu4 := hr.units
  have hu5 := hu65 hr
  have nd := sc__law_fields.nd
  exact (ssm_cons (sm_set 2 nd (em_add em_int (em_call (w__law_roll XI G c TB) hr (by decide) rfl (g__law_roll XI G c) tk (am_cons (em_var 0) (am_cons em_int am_nil)))))
  (ssm_cons (sm_set 3 nd em_int)
  (ssm_cons (sm_for hp rfl (im_range1 rfl (n_range XI G c) (am_cons (em_var 2) am_nil)) (gm_name 4 nd)
  (ssm_one (sm_set 3 nd (em_mul (em_var 3) em_int))))
  (ssm_cons (sm_set 5 nd (em_mod (em_var 1) (em_var 3)))
  (ssm_cons (sm_if (tm_wm (wm_or (tm_ne hu4 (em_mod (em_sub (em_call (w_stretched XI G c TB) hr (by decide) rfl (g_stretched XI G c) tk (am_cons (em_var 5) (am_cons (em_var 2) am_nil))) (em_var 5)) (em_var 3)) em_int) (wm_or1 (tm_not (tm_chain op_le o2_B0 op_lt o2_B0 (em_sub em_int (em_var 3)) (em_mul em_int (em_call (w_stretched XI G c TB) hr (by decide) rfl (g_stretched XI G c) tk (am_cons (em_var 5) (am_cons (em_var 2) am_nil)))) (em_var 3))))))
  (ssm_one (sm_ret em_bl))
  ssm_nil)
  (ssm_cons (sm_if (tm_ne hu4 (em_call (w_field XI G c TB) hr (by decide) rfl (g_field XI G c) tk (am_cons (em_call (w_stretched XI G c TB) hr (by decide) rfl (g_stretched XI G c) tk (am_cons (em_var 5) (am_cons (em_var 2) am_nil))) (am_cons (em_var 2) am_nil))) (em_var 5))
  (ssm_one (sm_ret em_bl))
  ssm_nil)
  (ssm_cons (sm_if (tm_ne hu4 (em_told (k := 1) (td XI G c) rfl (g__law_told XI G c) (TB (tfp_0) (tfm 0)) hcd (tab_mem (tfm 0)) (tab_uniq (tnd c) (tfm 0)) hr (by decide) (fun A outer s H E f c' hr tk => have hu1 := hu_of hr; have hu4 := hr.units; have hu5 := hu65 hr; (em_call (w_field XI G c TB) hr (by decide) rfl (g_field XI G c) tk (am_cons (em_var 3) (am_cons (em_var 2) am_nil))))) em_str)
  (ssm_one (sm_ret em_bl))
  ssm_nil)
  (ssm_one (sm_ret em_bl)))))))))
def N_check_word : List Str := ["word"]
omit XI G c TB in
theorem sc_check_word : FnScope N_check_word ["word"] (defScope s_check_word) := ⟨rfl, rfl, rfl, by decide +kernel, rfl, by decide +kernel, by decide +kernel⟩
theorem w_check_word : FunM P w K mg base (tabT K tf) 1 (He.ga K "check_word") 1 f_check_word := by
  obtain ⟨fd, F⟩ := c.d.def_ 22 (d := df_check_word) rfl
  rw [f_check_word_eq]
  refine def_m (k := 0) (N := N_check_word) F sc_check_word (fun _ _ _ _ _ _ us hl => match us, hl with | [_], _ => rfl) fun cdv  A outer s H E hr tk hp => ?_
  have hu1 := hu_of hr
  have hu4 := hr.units
  have hu5 := hu65 hr
  have nd := sc_check_word.nd
  exact (ssm_one (sm_if (tm_wm (wm_or (tm_not (tm_tru (em_isi "int" (by decide +kernel) rfl (n_isinstance XI G c) rfl (n_int XI G c) rfl (em_var 0)))) (wm_or (tm_tru (em_isi "bool" (by decide +kernel) rfl (n_isinstance XI G c) rfl (n_bool XI G c) rfl (em_var 0))) (wm_or1 (tm_not (tm_chain op_le o2_B0 op_lt o2_B0 em_int (em_var 0) (em_globI rfl (i_WORD XI G c))))))))
  (ssm_one (sm_raise rfl tk PySem.F.excBase_ValueError (He.exc_ok (x_BadOrder c)).1 (g_BadOrder XI G c) (He.exc_ok (x_BadOrder c)).2.1 (raises_own (He.exc_ok (x_BadOrder c)).2.2.1 (He.exc_ok (x_BadOrder c)).2.2.2) rfl))
  ssm_nil))
def N_law : List Str := ["script", "dice", "row", "a", "b", "n", "m", "x", "y", "many", "bad", "k"]
omit XI G c TB in
theorem sc_law : FnScope N_law ["script"] (defScope s_law) := ⟨rfl, rfl, rfl, by decide +kernel, rfl, by decide +kernel, by decide +kernel⟩
omit XI G c TB in
theorem F_law (c : Cf K) : ∃ fd, FunD K "law" "law" (defArgs s_law) (defBody s_law) (defScope s_law) [] [] (He.ga K "law") fd := c.d.def_ 23 (d := df_law) rfl
theorem ok_law {fd : FuncData} (F : FunD K "law" "law" (defArgs s_law) (defBody s_law) (defScope s_law) [] [] (He.ga K "law") fd) : FnOk P w K mg base (L2.CX P w) 5 (He.ga K "law") fd ["script"] (spM ⟨K, mg, (tabT K tf)⟩ f_law 1) := by
  refine def_okT (p := ("law", none)) (k := 4) (N := N_law) F sc_law fun cdv hcd A outer s H E hr tk hp => ?_
  have hu1 := hu_of hr
  have hu4 := hr.units
  have hu5 := hu65 hr
  have nd := sc_law.nd
  exact (ssm_cons (sm_for hp rfl (im_any (em_call (w__law_rounds XI G c TB) hr (by decide) rfl (g__law_rounds XI G c) tk (am_cons (em_var 0) (am_cons em_int am_nil)))) (gm_name 1 nd)
  (ssm_cons (sm_set 2 nd (em_lst (am_cons em_int (am_cons em_int (am_cons em_int (am_cons em_int (am_cons em_int am_nil))))) (len_cons (len_cons (len_cons (len_cons (len_cons len_nil)))))))
  (ssm_cons (sm_asg (gm_unp rfl (gsm_cons (gm_name 3 nd) (gsm_cons (gm_name 4 nd) gsm_nil))) (em_lc [("k", 11)] rfl nd (im_range1 rfl (n_range XI G c) (am_cons em_int am_nil)) (blkOk_by rfl) (fun _ _ _ _ _ => (gw_name 11 nd)) (fun _ _ _ _ _ => tsm_nil) (fun _ _ _ _ _ => (em_if (tm_eq hu4 (em_call (w__law_roll XI G c TB) hr (by decide) rfl (g__law_roll XI G c) takesF (am_cons (em_var 1) (am_cons em_int am_nil))) em_int) (em_ix hu1 (em_var 2) (em_call (w__law_roll XI G c TB) hr (by decide) rfl (g__law_roll XI G c) takesF (am_cons (em_var 1) (am_cons em_int am_nil)))) (em_call (w__law_roll XI G c TB) hr (by decide) rfl (g__law_roll XI G c) takesF (am_cons (em_var 1) (am_cons em_int am_nil)))))))
  (ssm_cons (sm_par 5 6 rfl nd (am_cons (em_if (tm_lt (em_var 3) em_int) (em_var 3) (em_sub (em_var 3) em_int)) (am_cons (em_if (tm_lt (em_var 4) em_int) (em_var 4) (em_sub (em_var 4) em_int)) am_nil)))
  (ssm_cons (sm_if (tm_wm (wm_or (tm_ne hu4 (em_mod (em_sub (em_sub (em_call (w_add XI G c TB) hr (by decide) rfl (g_add XI G c) tk (am_cons (em_var 3) (am_cons (em_var 4) am_nil))) (em_var 3)) (em_var 4)) em_int) em_int) (wm_or1 (tm_ne hu4 (em_mod (em_add (em_sub (em_call (w_less XI G c TB) hr (by decide) rfl (g_less XI G c) tk (am_cons (em_var 3) (am_cons (em_var 4) am_nil))) (em_var 3)) (em_var 4)) em_int) em_int))))
  (ssm_one (sm_ret em_bl))
  ssm_nil)
  (ssm_cons (sm_if (tm_wm (wm_or (tm_ne hu4 (em_call (w_times XI G c TB) hr (by decide) rfl (g_times XI G c) tk (am_cons (em_var 3) (am_cons (em_var 4) am_nil))) (em_mod (em_mul (em_var 3) (em_var 4)) em_int)) (wm_or (tm_ne hu4 (em_call (w_signed XI G c TB) hr (by decide) rfl (g_signed XI G c) tk (am_cons (em_var 3) am_nil)) (em_var 5)) (wm_or (tm_ne hu4 (em_call (w_word_of XI G c TB) hr (by decide) rfl (g_word_of XI G c) tk (am_cons (em_var 5) am_nil)) (em_var 3)) (wm_or1 (tm_ne hu4 (em_call (w_word_of XI G c TB) hr (by decide) rfl (g_word_of XI G c) tk (am_cons (em_add (em_var 3) em_int) am_nil)) (em_var 3)))))))
  (ssm_one (sm_ret em_bl))
  ssm_nil)
  (ssm_cons (sm_asg (gm_unp rfl (gsm_cons (gm_name 7 nd) (gsm_cons (gm_name 8 nd) gsm_nil))) (em_tup (am_cons (em_call (w__law_bits XI G c TB) hr (by decide) rfl (g__law_bits XI G c) tk (am_cons (em_var 3) am_nil)) (am_cons (em_call (w__law_bits XI G c TB) hr (by decide) rfl (g__law_bits XI G c) tk (am_cons (em_var 4) am_nil)) am_nil)) (len_cons (len_cons len_nil))))
  (ssm_cons (sm_if (tm_wm (wm_or (tm_ne hu4 (em_callTy call_list_of oc_list rfl (n_list XI G c) (am_cons (em_call (w_bits_of XI G c TB) hr (by decide) rfl (g_bits_of XI G c) tk (am_cons (em_var 3) am_nil)) am_nil) rfl) (em_var 7)) (wm_or1 (tm_ne hu4 (em_call (w_of_bits XI G c TB) hr (by decide) rfl (g_of_bits XI G c) tk (am_cons (em_var 7) am_nil)) (em_var 3)))))
  (ssm_one (sm_ret em_bl))
  ssm_nil)
  (ssm_cons (sm_if (tm_ne hu4 (em_call (w_bits_of XI G c TB) hr (by decide) rfl (g_bits_of XI G c) tk (am_cons (em_call (w_shared XI G c TB) hr (by decide) rfl (g_shared XI G c) tk (am_cons (em_var 3) (am_cons (em_var 4) am_nil))) am_nil)) (em_callTy call_tuple_of oc_tuple rfl (n_tuple XI G c) (am_cons (em_lc [("k", 11)] rfl nd (im_range1 rfl (n_range XI G c) (am_cons em_int am_nil)) (blkOk_by rfl) (fun _ _ _ _ _ => (gw_name 11 nd)) (fun _ _ _ _ _ => tsm_nil) (fun _ _ _ _ _ => (em_mul (em_ix hu1 (em_var 7) (em_var 11)) (em_ix hu1 (em_var 8) (em_var 11))))) am_nil) rfl))
  (ssm_one (sm_ret em_bl))
  ssm_nil)
  (ssm_cons (sm_if (tm_ne hu4 (em_call (w_bits_of XI G c TB) hr (by decide) rfl (g_bits_of XI G c) tk (am_cons (em_call (w_either XI G c TB) hr (by decide) rfl (g_either XI G c) tk (am_cons (em_var 3) (am_cons (em_var 4) am_nil))) am_nil)) (em_callTy call_tuple_of oc_tuple rfl (n_tuple XI G c) (am_cons (em_lc [("k", 11)] rfl nd (im_range1 rfl (n_range XI G c) (am_cons em_int am_nil)) (blkOk_by rfl) (fun _ _ _ _ _ => (gw_name 11 nd)) (fun _ _ _ _ _ => tsm_nil) (fun _ _ _ _ _ => (em_callB (call_max2 rfl) oc_max2 rfl (n_max XI G c) (am_cons (em_ix hu1 (em_var 7) (em_var 11)) (am_cons (em_ix hu1 (em_var 8) (em_var 11)) am_nil)) rfl))) am_nil) rfl))
  (ssm_one (sm_ret em_bl))
  ssm_nil)
  (ssm_cons (sm_if (tm_ne hu4 (em_call (w_bits_of XI G c TB) hr (by decide) rfl (g_bits_of XI G c) tk (am_cons (em_call (w_unlike XI G c TB) hr (by decide) rfl (g_unlike XI G c) tk (am_cons (em_var 3) (am_cons (em_var 4) am_nil))) am_nil)) (em_callTy call_tuple_of oc_tuple rfl (n_tuple XI G c) (am_cons (em_lc [("k", 11)] rfl nd (im_range1 rfl (n_range XI G c) (am_cons em_int am_nil)) (blkOk_by rfl) (fun _ _ _ _ _ => (gw_name 11 nd)) (fun _ _ _ _ _ => tsm_nil) (fun _ _ _ _ _ => (em_mod (em_add (em_ix hu1 (em_var 7) (em_var 11)) (em_ix hu1 (em_var 8) (em_var 11))) em_int))) am_nil) rfl))
  (ssm_one (sm_ret em_bl))
  ssm_nil)
  (ssm_cons (sm_set 9 nd (em_mod (em_var 4) em_int))
  (ssm_cons (sm_if (tm_ne hu4 (em_callTy call_list_of oc_list rfl (n_list XI G c) (am_cons (em_call (w_bits_of XI G c TB) hr (by decide) rfl (g_bits_of XI G c) tk (am_cons (em_call (w_up XI G c TB) hr (by decide) rfl (g_up XI G c) tk (am_cons (em_var 3) (am_cons (em_var 4) am_nil))) am_nil)) am_nil) rfl) (em_add (em_mul (em_lst (am_cons em_int am_nil) (len_cons len_nil)) (em_var 9)) (em_sl (em_var 7) om_none (om_some (em_sub em_int (em_var 9))))))
  (ssm_one (sm_ret em_bl))
  ssm_nil)
  (ssm_cons (sm_if (tm_ne hu4 (em_callTy call_list_of oc_list rfl (n_list XI G c) (am_cons (em_call (w_bits_of XI G c TB) hr (by decide) rfl (g_bits_of XI G c) tk (am_cons (em_call (w_down XI G c TB) hr (by decide) rfl (g_down XI G c) tk (am_cons (em_var 3) (am_cons (em_var 4) am_nil))) am_nil)) am_nil) rfl) (em_add (em_sl (em_var 7) (om_some (em_var 9)) om_none) (em_mul (em_lst (am_cons em_int am_nil) (len_cons len_nil)) (em_var 9))))
  (ssm_one (sm_ret em_bl))
  ssm_nil)
  (ssm_cons (sm_if (tm_ne hu4 (em_callTy call_list_of oc_list rfl (n_list XI G c) (am_cons (em_call (w_bits_of XI G c TB) hr (by decide) rfl (g_bits_of XI G c) tk (am_cons (em_call (w_down_signed XI G c TB) hr (by decide) rfl (g_down_signed XI G c) tk (am_cons (em_var 3) (am_cons (em_var 4) am_nil))) am_nil)) am_nil) rfl) (em_add (em_sl (em_var 7) (om_some (em_var 9)) om_none) (em_mul (em_lst (am_cons (em_ix hu1 (em_var 7) em_int) am_nil) (len_cons len_nil)) (em_var 9))))
  (ssm_one (sm_ret em_bl))
  ssm_nil)
  (ssm_cons (sm_if (tm_wm (wm_or (tm_ne hu4 (em_call (w_is_less XI G c TB) hr (by decide) rfl (g_is_less XI G c) tk (am_cons (em_var 3) (am_cons (em_var 4) am_nil))) (em_callTy call_int1 oc_int rfl (n_int XI G c) (am_cons (em_lt (em_var 5) (em_var 6)) am_nil) rfl)) (wm_or1 (tm_ne hu4 (em_call (w_is_below XI G c TB) hr (by decide) rfl (g_is_below XI G c) tk (am_cons (em_var 3) (am_cons (em_var 4) am_nil))) (em_callTy call_int1 oc_int rfl (n_int XI G c) (am_cons (em_lt (em_var 3) (em_var 4)) am_nil) rfl)))))
  (ssm_one (sm_ret em_bl))
  ssm_nil)
  (ssm_cons (sm_if (tm_not (tm_tru (em_call (w__law_fields XI G c TB) hr (by decide) rfl (g__law_fields XI G c) tk (am_cons (em_var 1) (am_cons (em_var 3) am_nil)))))
  (ssm_one (sm_ret em_bl))
  ssm_nil)
  (ssm_cons (sm_expr (em_call (w_check_word XI G c TB) hr (by decide) rfl (g_check_word XI G c) tk (am_cons (em_var 3) am_nil)))
  (ssm_one (sm_for hp rfl (im_any (em_lst (am_cons em_non (am_cons (em_sub em_int em_int) (am_cons em_int (am_cons em_bl (am_cons em_str am_nil))))) (len_cons (len_cons (len_cons (len_cons (len_cons len_nil))))))) (gm_name 10 nd)
  (ssm_one (sm_if (tm_ne hu4 (em_told (k := 1) (td XI G c) rfl (g__law_told XI G c) (TB (tfp_1) (tfm 1)) hcd (tab_mem (tfm 1)) (tab_uniq (tnd c) (tfm 1)) hr (by decide) (fun A outer s H E f c' hr tk => have hu1 := hu_of hr; have hu4 := hr.units; have hu5 := hu65 hr; (em_call (w_check_word XI G c TB) hr (by decide) rfl (g_check_word XI G c) tk (am_cons (em_var 10) am_nil)))) em_str)
  (ssm_one (sm_ret em_bl))
  ssm_nil))))))))))))))))))))))
  (ssm_one (sm_ret em_bl)))
end
end
abbrev Rr : PySem.W.OpenRow := PySem.W.OpenLaw.row PySem.Challenge.rw_corehall_k01_words_of_bits
def hk : PySem.W.Hook := He.hookX 6 fa fn [] (tf.map (·.1)) ex
def ob (s : PySem.W.SharedT) : He.AlX := He.obsX 6 fa fn [] (tf.map (·.1)) ex (HandSHeadRun.getT s)
theorem ob_eq (s : PySem.W.SharedT) : ob s = hk.obs s.abs := He.obsX_eq (HandSHeadRun.getT_eq s)
def loose : List PySem.Str := (([("CoreFault" : PySem.Str), ("BadOrder" : PySem.Str), ("BadProgram" : PySem.Str), ("NoWay" : PySem.Str), ("TooLarge" : PySem.Str), ("WORD" : PySem.Str), ("HALF" : PySem.Str), ("check_word" : PySem.Str), ("word_of" : PySem.Str), ("signed" : PySem.Str), ("bits_of" : PySem.Str), ("of_bits" : PySem.Str), ("add" : PySem.Str), ("less" : PySem.Str), ("times" : PySem.Str), ("shared" : PySem.Str), ("either" : PySem.Str), ("unlike" : PySem.Str), ("up" : PySem.Str), ("down" : PySem.Str), ("down_signed" : PySem.Str), ("is_less" : PySem.Str), ("is_below" : PySem.Str), ("stretched" : PySem.Str), ("field" : PySem.Str), ("_law_dice" : PySem.Str), ("_law_roll" : PySem.Str), ("_law_rounds" : PySem.Str), ("_law_told" : PySem.Str), ("_law_bits" : PySem.Str), ("_law_fields" : PySem.Str)] : List PySem.Str))
theorem run (w : World) : HandSHeadRun.RunEq Rr (PySem.W.view Rr.prog [34]) hk ob 20000 loose w := by
  intro os
  kernel_rfl
theorem holds (hpl : ∀ n, PlainLaw f_law n) : PySem.Challenge.rw_corehall_k01_words_of_bits.Holds := by
  w_on; o_law
  refine HandSHeadRun.head_any (r := PySem.W.OpenLaw.row PySem.Challenge.rw_corehall_k01_words_of_bits) (q := PySem.W.view (PySem.W.OpenLaw.row PySem.Challenge.rw_corehall_k01_words_of_bits).prog [34]) (H := hk) (ob := ob) (M := 20000) (loose := loose) (d := HandSHeadRun.topDef (PySem.W.OpenLaw.row PySem.Challenge.rw_corehall_k01_words_of_bits).prog 34) (kwd := []) ob_eq
    (by kernel_rfl) (fun s => by kernel_rfl) run (by kernel_rfl) (by kernel_rfl) (by kernel_rfl) (by rfl) (by first | assumption | decide +kernel) (by decide +kernel) ⟨rfl, rfl, rfl, rfl, rfl, by decide +kernel⟩ ?hw ?hc
  case hw => w_witness2
  case hc =>
    refine LamX.walk_ofTsE (l := PySem.Challenge.rw_corehall_k01_words_of_bits) (n := 63) (k := 5) (x := "script") (CX := fun w => L2.CX (PySem.Challenge.rw_corehall_k01_words_of_bits).prog w) rfl (by decide) (by kernel_rfl) ⟨rfl, by decide, by decide⟩ ?F (fun _ => cx_none)
    intro w mg fa h Y G hmg0
    obtain ⟨K, KX, cx⟩ := Y
    have c : Cf K := ⟨cx.t.d, cx.more⟩
    have hmg : mg ("law" : PySem.Str) = some (.ref fa) := by
      have e : (HandSHeadRun.topDef (PySem.W.OpenLaw.row PySem.Challenge.rw_corehall_k01_words_of_bits).prog 34).name = ("law" : PySem.Str) := by kernel_rfl
      rw [← e]
      exact hmg0
    have e := hmg.symm.trans (g_law KX G c)
    cases e
    obtain ⟨fd, F⟩ := F_law c
    exact ⟨K, KX, lawAtT (tf := tf) KX cx.hd cx.out cx.empty F (fun _ _ _ _ _ _ us hl => match us, hl with | [_], _ => rfl) (hpl 63) fun base hb hg TB => ok_law hb hg c TB F⟩
end K01
end MM

namespace MM
namespace K01
open PySem L2
theorem law_eq : f_law = callM 12 1 (lawOf 5 l_law_1) := rfl
theorem dd (a m : Int) : a / (2 * m) = a / 2 / m := by
  rw [Int.ediv_ediv, if_neg (by omega), Int.sub_zero]
def bitsL : Nat → Int → List Int
  | 0, _ => []
  | n + 1, a => a % 2 :: bitsL n (a / 2)
def valL : List Int → Int
  | [] => 0
  | b :: l => b + 2 * valL l
theorem bitsL_len : ∀ (n : Nat) (a : Int), (bitsL n a).length = n
  | 0, _ => rfl
  | n + 1, a => by rw [bitsL, List.length_cons, bitsL_len n]
def Bits (l : List Int) : Prop := ∀ b ∈ l, b = 0 ∨ b = 1
theorem bitsL_bits : ∀ (n : Nat) (a : Int), Bits (bitsL n a)
  | 0, _ => fun b hb => by cases hb
  | n + 1, a => fun b hb => by
    rw [bitsL] at hb
    rcases List.mem_cons.mp hb with rfl | hb
    · omega
    · exact bitsL_bits n _ b hb
theorem val_bits : ∀ (n : Nat) (a : Int), 0 ≤ a → a < 2 ^ n → valL (bitsL n a) = a
  | 0, a, h0, h1 => by
    have : a = 0 := by
      have : (2 : Int) ^ 0 = 1 := rfl
      omega
    subst this
    rfl
  | n + 1, a, h0, h1 => by
    rw [bitsL, valL, val_bits n (a / 2) (by omega) (by rw [Int.pow_succ] at h1; omega)]
    omega
theorem val_range : ∀ (l : List Int), Bits l → 0 ≤ valL l ∧ valL l < 2 ^ l.length
  | [], _ => ⟨by decide, by decide⟩
  | b :: l, h => by
    have h1 := val_range l fun x hx => h x (List.mem_cons_of_mem _ hx)
    have h2 := h b List.mem_cons_self
    rw [valL, List.length_cons, Int.pow_succ]
    omega
theorem bits_val : ∀ (l : List Int), Bits l → bitsL l.length (valL l) = l
  | [], _ => rfl
  | b :: l, h => by
    have h1 := bits_val l fun x hx => h x (List.mem_cons_of_mem _ hx)
    have h2 := h b List.mem_cons_self
    rw [List.length_cons, bitsL, valL]
    have e1 : (b + 2 * valL l) % 2 = b := by omega
    have e2 : (b + 2 * valL l) / 2 = valL l := by omega
    rw [e1, e2, h1]
theorem bits_mod : ∀ (n : Nat) (a : Int), bitsL n (a % 2 ^ n) = bitsL n a
  | 0, _ => rfl
  | n + 1, a => by
    rw [bitsL, bitsL]
    have p : (0 : Int) < 2 ^ n := Int.pow_pos (by decide)
    have e1 : a % 2 ^ (n + 1) % 2 = a % 2 := by
      rw [Int.pow_succ]
      exact Int.emod_emod_of_dvd a (Int.dvd_mul_left _ _)
    have e2 : a % 2 ^ (n + 1) / 2 = a / 2 % 2 ^ n := by
      rw [Int.pow_succ]
      generalize (2 : Int) ^ n = m at p
      have h1 := Int.emod_def a (m * 2)
      have h2 := Int.emod_def (a / 2) m
      have h3 : a / (m * 2) = a / 2 / m := by rw [Int.mul_comm, dd]
      rw [h1, h2, h3]
      have : m * 2 * (a / 2 / m) = 2 * (m * (a / 2 / m)) := by rw [Int.mul_comm m 2, Int.mul_assoc]
      rw [this]
      omega
    rw [e1, e2, bits_mod n]
theorem bits_take : ∀ (n m : Nat) (a : Int), m ≤ n → (bitsL n a).take m = bitsL m a
  | n, 0, a, _ => rfl
  | 0, m + 1, a, h => by omega
  | n + 1, m + 1, a, h => by rw [bitsL, bitsL, List.take_succ_cons, bits_take n m _ (by omega)]
theorem bits_drop : ∀ (m n : Nat) (a : Int), bitsL n (a / 2 ^ m) = (bitsL (n + m) a).drop m
  | 0, n, a => by
    have : (2 : Int) ^ 0 = 1 := rfl
    rw [this, Int.ediv_one]
    rfl
  | m + 1, n, a => by
    have : a / 2 ^ (m + 1) = a / 2 / 2 ^ m := by rw [Int.pow_succ, Int.mul_comm, dd]
    rw [this, bits_drop m n, ← Nat.add_assoc]
    rfl
theorem bits_split : ∀ (m n : Nat) (a : Int), bitsL (m + n) a = bitsL m a ++ bitsL n (a / 2 ^ m)
  | 0, n, a => by
    have : (2 : Int) ^ 0 = 1 := rfl
    rw [this, Int.ediv_one, Nat.zero_add]
    rfl
  | m + 1, n, a => by
    have : a / 2 ^ (m + 1) = a / 2 / 2 ^ m := by rw [Int.pow_succ, Int.mul_comm, dd]
    rw [this, show m + 1 + n = (m + n) + 1 by omega, bitsL, bits_split m n, bitsL]
    rfl
theorem bits_zero : ∀ n : Nat, bitsL n 0 = List.replicate n 0
  | 0 => rfl
  | n + 1 => by
    rw [bitsL, List.replicate_succ, show (0 : Int) / 2 = 0 from rfl, bits_zero n]
    rfl
theorem bits_neg : ∀ n : Nat, bitsL n (-1) = List.replicate n 1
  | 0 => rfl
  | n + 1 => by
    rw [bitsL, List.replicate_succ, show (-1 : Int) / 2 = -1 from rfl, bits_neg n]
    rfl
/-- doubled m times -/
theorem bits_up (m n : Nat) (a : Int) (h : m ≤ n) : bitsL n (a * 2 ^ m) = List.replicate m 0 ++ (bitsL n a).take (n - m) := by
  obtain ⟨k, rfl⟩ : ∃ k, n = m + k := ⟨n - m, by omega⟩
  have p : (2 : Int) ^ m ≠ 0 := Int.ne_of_gt (Int.pow_pos (by decide))
  rw [bits_split, Int.mul_ediv_cancel _ p, ← bits_mod m, Int.mul_emod_left, bits_zero, show m + k - m = k by omega, bits_take _ _ _ (by omega)]
theorem bits_loop {f : Nat} : ∀ (ds : List D) (a : Int) (acc : List D) (h : Hm) (x : Option D), h[f]? = some (.lst acc) → acc.length + ds.length ≤ 1000 →
    ∃ y, forL [] (gN 2) l_bits_of_0 ds [some (.int a), some (.ref f), x] h = .next [some (.int (a / 2 ^ ds.length)), some (.ref f), y] (h.set f (.lst (acc ++ (bitsL ds.length a).map D.int)))
  | [], a, acc, h, x, e, hl => by
    refine ⟨x, ?_⟩
    rw [forL_nil gdOk_nil, List.length_nil, bitsL, List.map_nil, List.append_nil, set_self e, show (2 : Int) ^ 0 = 1 from rfl, Int.ediv_one]
  | d :: ds, a, acc, h, x, e, hl => by
    rw [List.length_cons] at hl
    have e2 : (h.set f (.lst (acc ++ [.int (a % 2)])))[f]? = some (.lst (acc ++ [.int (a % 2)])) := List.getElem?_set_self (List.getElem?_eq_some_iff.mp e).1
    obtain ⟨y, ih⟩ := bits_loop (f := f) ds (a / 2) (acc ++ [.int (a % 2)]) _ (some d) e2 (by rw [List.length_append, List.length_singleton]; omega)
    refine ⟨y, ?_⟩
    have ap := fAppend_ok (y := .int (a % 2)) e (lim_lt (by omega))
    have il := isL_ok e
    have fm : a.fmod 2 = a % 2 := Int.fmod_eq_emod_of_nonneg _ (by decide)
    have md := fMod_ok (x := a) (y := 2) (h := h) (by decide)
    rw [fm] at md
    refine forL_next (e1 := [some (.int a), some (.ref f), some d]) (e2 := [some (.int (a / 2)), some (.ref f), some d]) (h1 := h) gdOk_nil rfl ?_ (ih.trans ?_)
    · refine seq_next (e1 := [some (.int a), some (.ref f), some d]) (h1 := h.set f (.lst (acc ++ [.int (a % 2)]))) ?_ ?_
      · simp only [bind_ok, bind_exn, bindS_ok, bindS_exn, then_next, then_ret, then_brk, then_cont, then_exn, only_next, only_exn, run_nil, run_ret, run_retN, run_drop, run_if, run_asg, run_brk, run_cont, run_raise, run_gN, run_C, run_var, run_m2, run_lnil, run_lcons, run_tup, run_bool, run_tru, run_and, run_or, run_not, run_andV, run_orV, run_notV, run_ifE, run_chain, run_neg, run_sl, run_no, run_some, run_call, run_callF, run_meth, run_subM, run_par, run_par3, run_aug, run_itA, run_fld, run_fldM, run_tyes, fAdd_i, fSub_i, fLt_i, fLe_i, fGt_i, fGe_i, fEq_i, fNe_i, fAbs_i, fInt_i, fInt_b, fEq_s, fNe_s, fEq_b, fMax2_i, fMin2_i, fIAdd_i, fTru_b, fTru_i, run_methF, List.getElem?_cons_succ, List.getElem?_cons_zero, List.length_cons, List.length_nil, List.set_cons_succ, List.set_cons_zero, if_true, if_false, Bool.false_eq_true, Bool.not_true, Bool.not_false, decide_true, decide_false, ite_true, ite_false, Nat.zero_add, Nat.reduceAdd, oR, il, md, ap]
      · simp only [bind_ok, bind_exn, bindS_ok, bindS_exn, then_next, then_ret, then_brk, then_cont, then_exn, only_next, only_exn, run_nil, run_ret, run_retN, run_drop, run_if, run_asg, run_brk, run_cont, run_raise, run_gN, run_C, run_var, run_m2, run_lnil, run_lcons, run_tup, run_bool, run_tru, run_and, run_or, run_not, run_andV, run_orV, run_notV, run_ifE, run_chain, run_neg, run_sl, run_no, run_some, run_call, run_callF, run_meth, run_subM, run_par, run_par3, run_aug, run_itA, run_fld, run_fldM, run_tyes, fAdd_i, fSub_i, fLt_i, fLe_i, fGt_i, fGe_i, fEq_i, fNe_i, fAbs_i, fInt_i, fInt_b, fEq_s, fNe_s, fEq_b, fMax2_i, fMin2_i, fIAdd_i, fTru_b, fTru_i, run_methF, List.getElem?_cons_succ, List.getElem?_cons_zero, List.length_cons, List.length_nil, List.set_cons_succ, List.set_cons_zero, if_true, if_false, Bool.false_eq_true, Bool.not_true, Bool.not_false, decide_true, decide_false, ite_true, ite_false, Nat.zero_add, Nat.reduceAdd, oR]
        rfl
    · rw [List.set_set, List.length_cons, bitsL, List.map_cons, List.append_assoc, Int.pow_succ, Int.mul_comm, dd]
      rfl
theorem lbits_loop {f : Nat} : ∀ (ds : List D) (a : Int) (acc : List D) (h : Hm) (x : Option D), h[f]? = some (.lst acc) → acc.length + ds.length ≤ 1000 →
    ∃ y, forL [] (gN 2) l__law_bits_0 ds [some (.int a), some (.ref f), x] h = .next [some (.int (a / 2 ^ ds.length)), some (.ref f), y] (h.set f (.lst (acc ++ (bitsL ds.length a).map D.int)))
  | [], a, acc, h, x, e, hl => by
    refine ⟨x, ?_⟩
    rw [forL_nil gdOk_nil, List.length_nil, bitsL, List.map_nil, List.append_nil, set_self e, show (2 : Int) ^ 0 = 1 from rfl, Int.ediv_one]
  | d :: ds, a, acc, h, x, e, hl => by
    rw [List.length_cons] at hl
    have e2 : (h.set f (.lst (acc ++ [.int (a % 2)])))[f]? = some (.lst (acc ++ [.int (a % 2)])) := List.getElem?_set_self (List.getElem?_eq_some_iff.mp e).1
    obtain ⟨y, ih⟩ := lbits_loop (f := f) ds (a / 2) (acc ++ [.int (a % 2)]) _ (some d) e2 (by rw [List.length_append, List.length_singleton]; omega)
    refine ⟨y, ?_⟩
    have ap := fAppend_ok (y := .int (a % 2)) e (lim_lt (by omega))
    have il := isL_ok e
    have fm : a.fmod 2 = a % 2 := Int.fmod_eq_emod_of_nonneg _ (by decide)
    have md := fMod_ok (x := a) (y := 2) (h := h) (by decide)
    rw [fm] at md
    have fd : a.fdiv 2 = a / 2 := Int.fdiv_eq_ediv_of_nonneg _ (by decide)
    refine forL_next (e1 := [some (.int a), some (.ref f), some d]) (e2 := [some (.int (a / 2)), some (.ref f), some d]) (h1 := h) gdOk_nil rfl ?_ (ih.trans ?_)
    · refine seq_next (e1 := [some (.int a), some (.ref f), some d]) (h1 := h.set f (.lst (acc ++ [.int (a % 2)]))) ?_ ?_
      · simp only [bind_ok, bind_exn, bindS_ok, bindS_exn, then_next, then_ret, then_brk, then_cont, then_exn, only_next, only_exn, run_nil, run_ret, run_retN, run_drop, run_if, run_asg, run_brk, run_cont, run_raise, run_gN, run_C, run_var, run_m2, run_lnil, run_lcons, run_tup, run_bool, run_tru, run_and, run_or, run_not, run_andV, run_orV, run_notV, run_ifE, run_chain, run_neg, run_sl, run_no, run_some, run_call, run_callF, run_meth, run_subM, run_par, run_par3, run_aug, run_itA, run_fld, run_fldM, run_tyes, fAdd_i, fSub_i, fLt_i, fLe_i, fGt_i, fGe_i, fEq_i, fNe_i, fAbs_i, fInt_i, fInt_b, fEq_s, fNe_s, fEq_b, fMax2_i, fMin2_i, fIAdd_i, fTru_b, fTru_i, run_methF, List.getElem?_cons_succ, List.getElem?_cons_zero, List.length_cons, List.length_nil, List.set_cons_succ, List.set_cons_zero, if_true, if_false, Bool.false_eq_true, Bool.not_true, Bool.not_false, decide_true, decide_false, ite_true, ite_false, Nat.zero_add, Nat.reduceAdd, oR, il, md, ap]
      · have dv := fun g => fDiv_ok (x := a) (y := 2) (h := g) ⟨by decide, by decide⟩
        rw [fd] at dv
        simp only [bind_ok, bind_exn, bindS_ok, bindS_exn, then_next, then_ret, then_brk, then_cont, then_exn, only_next, only_exn, run_nil, run_ret, run_retN, run_drop, run_if, run_asg, run_brk, run_cont, run_raise, run_gN, run_C, run_var, run_m2, run_lnil, run_lcons, run_tup, run_bool, run_tru, run_and, run_or, run_not, run_andV, run_orV, run_notV, run_ifE, run_chain, run_neg, run_sl, run_no, run_some, run_call, run_callF, run_meth, run_subM, run_par, run_par3, run_aug, run_itA, run_fld, run_fldM, run_tyes, fAdd_i, fSub_i, fLt_i, fLe_i, fGt_i, fGe_i, fEq_i, fNe_i, fAbs_i, fInt_i, fInt_b, fEq_s, fNe_s, fEq_b, fMax2_i, fMin2_i, fIAdd_i, fTru_b, fTru_i, run_methF, List.getElem?_cons_succ, List.getElem?_cons_zero, List.length_cons, List.length_nil, List.set_cons_succ, List.set_cons_zero, if_true, if_false, Bool.false_eq_true, Bool.not_true, Bool.not_false, decide_true, decide_false, ite_true, ite_false, Nat.zero_add, Nat.reduceAdd, oR, dv]
    · rw [List.set_set, List.length_cons, bitsL, List.map_cons, List.append_assoc, Int.pow_succ, Int.mul_comm, dd]
      rfl
theorem set_new {h : Hm} {o o2 : O} : (h ++ [o]).set h.length o2 = h ++ [o2] := by
  rw [List.set_append_right _ _ (Nat.le_refl _), Nat.sub_self]
  rfl
theorem bits_run (a : Int) (h : Hm) : ∃ g, f_bits_of [.int a] h = .ok (.tup ((bitsL 16 a).map D.int)) (h ++ g) := by
  obtain ⟨y, L⟩ := bits_loop ((List.range 16).map (fun k : Nat => D.int (0 + (k : Int)))) a [] (h ++ [.lst []]) none get_new (by decide)
  refine ⟨[.lst ((bitsL 16 a).map D.int)], call_ret f_bits_of_eq rfl ?_⟩
  rw [List.length_map, List.length_range, List.nil_append, set_new] at L
  refine seq_next (e1 := [some (.int a), some (.ref h.length), none]) (h1 := h ++ [.lst []]) rfl (seq_next (for_run (rgc_run (n := 16) (by decide)) L) ?_)
  have t := fTuple_lst (h := h ++ [.lst ((bitsL 16 a).map D.int)]) get_new
  simp only [bind_ok, bind_exn, bindS_ok, bindS_exn, then_next, then_ret, then_brk, then_cont, then_exn, only_next, only_exn, run_nil, run_ret, run_retN, run_drop, run_if, run_asg, run_brk, run_cont, run_raise, run_gN, run_C, run_var, run_m2, run_lnil, run_lcons, run_tup, run_bool, run_tru, run_and, run_or, run_not, run_andV, run_orV, run_notV, run_ifE, run_chain, run_neg, run_sl, run_no, run_some, run_call, run_callF, run_meth, run_subM, run_par, run_par3, run_aug, run_itA, run_fld, run_fldM, run_tyes, fAdd_i, fSub_i, fLt_i, fLe_i, fGt_i, fGe_i, fEq_i, fNe_i, fAbs_i, fInt_i, fInt_b, fEq_s, fNe_s, fEq_b, fMax2_i, fMin2_i, fIAdd_i, fTru_b, fTru_i, run_methF, List.getElem?_cons_succ, List.getElem?_cons_zero, List.length_cons, List.length_nil, List.set_cons_succ, List.set_cons_zero, if_true, if_false, Bool.false_eq_true, Bool.not_true, Bool.not_false, decide_true, decide_false, ite_true, ite_false, Nat.zero_add, Nat.reduceAdd, oR, t]
theorem lbits_run (a : Int) (h : Hm) : f__law_bits [.int a] h = .ok (.ref h.length) (h ++ [.lst ((bitsL 16 a).map D.int)]) := by
  obtain ⟨y, L⟩ := lbits_loop ((List.range 16).map (fun k : Nat => D.int (0 + (k : Int)))) a [] (h ++ [.lst []]) none get_new (by decide)
  refine call_ret f__law_bits_eq rfl ?_
  rw [List.length_map, List.length_range, List.nil_append, set_new] at L
  exact seq_next (e1 := [some (.int a), some (.ref h.length), none]) (h1 := h ++ [.lst []]) rfl (seq_next (for_run (rgc_run (n := 16) (by decide)) L) rfl)
theorem fm16 (x : Int) : x.fmod 65536 = x % 65536 := Int.fmod_eq_emod_of_nonneg _ (by decide)
theorem add_run (a b : Int) (h : Hm) : f_add [.int a, .int b] h = .ok (.int ((a + b) % 65536)) h := by
  have md := fMod_ok (x := a + b) (y := 65536) (h := h) (by decide)
  rw [fm16] at md
  refine call_ret f_add_eq rfl ?_
  unfold b_add
  simp only [bind_ok, bind_exn, bindS_ok, bindS_exn, then_next, then_ret, then_brk, then_cont, then_exn, only_next, only_exn, run_nil, run_ret, run_retN, run_drop, run_if, run_asg, run_brk, run_cont, run_raise, run_gN, run_C, run_var, run_m2, run_lnil, run_lcons, run_tup, run_bool, run_tru, run_and, run_or, run_not, run_andV, run_orV, run_notV, run_ifE, run_chain, run_neg, run_sl, run_no, run_some, run_call, run_callF, run_meth, run_subM, run_par, run_par3, run_aug, run_itA, run_fld, run_fldM, run_tyes, fAdd_i, fSub_i, fLt_i, fLe_i, fGt_i, fGe_i, fEq_i, fNe_i, fAbs_i, fInt_i, fInt_b, fEq_s, fNe_s, fEq_b, fMax2_i, fMin2_i, fIAdd_i, fTru_b, fTru_i, run_methF, List.getElem?_cons_succ, List.getElem?_cons_zero, List.length_cons, List.length_nil, List.set_cons_succ, List.set_cons_zero, if_true, if_false, Bool.false_eq_true, Bool.not_true, Bool.not_false, decide_true, decide_false, ite_true, ite_false, Nat.zero_add, Nat.reduceAdd, oR, startE, List.map_cons, List.map_nil, List.cons_append, md]
theorem less_run (a b : Int) (h : Hm) : f_less [.int a, .int b] h = .ok (.int ((a - b) % 65536)) h := by
  have md := fMod_ok (x := a - b) (y := 65536) (h := h) (by decide)
  rw [fm16] at md
  refine call_ret f_less_eq rfl ?_
  unfold b_less
  simp only [bind_ok, bind_exn, bindS_ok, bindS_exn, then_next, then_ret, then_brk, then_cont, then_exn, only_next, only_exn, run_nil, run_ret, run_retN, run_drop, run_if, run_asg, run_brk, run_cont, run_raise, run_gN, run_C, run_var, run_m2, run_lnil, run_lcons, run_tup, run_bool, run_tru, run_and, run_or, run_not, run_andV, run_orV, run_notV, run_ifE, run_chain, run_neg, run_sl, run_no, run_some, run_call, run_callF, run_meth, run_subM, run_par, run_par3, run_aug, run_itA, run_fld, run_fldM, run_tyes, fAdd_i, fSub_i, fLt_i, fLe_i, fGt_i, fGe_i, fEq_i, fNe_i, fAbs_i, fInt_i, fInt_b, fEq_s, fNe_s, fEq_b, fMax2_i, fMin2_i, fIAdd_i, fTru_b, fTru_i, run_methF, List.getElem?_cons_succ, List.getElem?_cons_zero, List.length_cons, List.length_nil, List.set_cons_succ, List.set_cons_zero, if_true, if_false, Bool.false_eq_true, Bool.not_true, Bool.not_false, decide_true, decide_false, ite_true, ite_false, Nat.zero_add, Nat.reduceAdd, oR, startE, List.map_cons, List.map_nil, List.cons_append, md]
theorem times_run (a b : Int) (h : Hm) (c : CMul a b) : f_times [.int a, .int b] h = .ok (.int ((a * b) % 65536)) h := by
  have md := fMod_ok (x := a * b) (y := 65536) (h := h) (by decide)
  have mu := fMul_ok (h := h) c
  rw [fm16] at md
  refine call_ret f_times_eq rfl ?_
  unfold b_times
  simp only [bind_ok, bind_exn, bindS_ok, bindS_exn, then_next, then_ret, then_brk, then_cont, then_exn, only_next, only_exn, run_nil, run_ret, run_retN, run_drop, run_if, run_asg, run_brk, run_cont, run_raise, run_gN, run_C, run_var, run_m2, run_lnil, run_lcons, run_tup, run_bool, run_tru, run_and, run_or, run_not, run_andV, run_orV, run_notV, run_ifE, run_chain, run_neg, run_sl, run_no, run_some, run_call, run_callF, run_meth, run_subM, run_par, run_par3, run_aug, run_itA, run_fld, run_fldM, run_tyes, fAdd_i, fSub_i, fLt_i, fLe_i, fGt_i, fGe_i, fEq_i, fNe_i, fAbs_i, fInt_i, fInt_b, fEq_s, fNe_s, fEq_b, fMax2_i, fMin2_i, fIAdd_i, fTru_b, fTru_i, run_methF, List.getElem?_cons_succ, List.getElem?_cons_zero, List.length_cons, List.length_nil, List.set_cons_succ, List.set_cons_zero, if_true, if_false, Bool.false_eq_true, Bool.not_true, Bool.not_false, decide_true, decide_false, ite_true, ite_false, Nat.zero_add, Nat.reduceAdd, oR, startE, List.map_cons, List.map_nil, List.cons_append, mu, md]
def sgn (a : Int) : Int := if 32768 ≤ a then a - 65536 else a
theorem signed_run (a : Int) (h : Hm) : f_signed [.int a] h = .ok (.int (sgn a)) h := by
  refine call_ret f_signed_eq rfl ?_
  unfold b_signed sgn
  by_cases c : 32768 ≤ a
  · simp only [bind_ok, bind_exn, bindS_ok, bindS_exn, then_next, then_ret, then_brk, then_cont, then_exn, only_next, only_exn, run_nil, run_ret, run_retN, run_drop, run_if, run_asg, run_brk, run_cont, run_raise, run_gN, run_C, run_var, run_m2, run_lnil, run_lcons, run_tup, run_bool, run_tru, run_and, run_or, run_not, run_andV, run_orV, run_notV, run_ifE, run_chain, run_neg, run_sl, run_no, run_some, run_call, run_callF, run_meth, run_subM, run_par, run_par3, run_aug, run_itA, run_fld, run_fldM, run_tyes, fAdd_i, fSub_i, fLt_i, fLe_i, fGt_i, fGe_i, fEq_i, fNe_i, fAbs_i, fInt_i, fInt_b, fEq_s, fNe_s, fEq_b, fMax2_i, fMin2_i, fIAdd_i, fTru_b, fTru_i, run_methF, List.getElem?_cons_succ, List.getElem?_cons_zero, List.length_cons, List.length_nil, List.set_cons_succ, List.set_cons_zero, if_true, if_false, Bool.false_eq_true, Bool.not_true, Bool.not_false, decide_true, decide_false, ite_true, ite_false, Nat.zero_add, Nat.reduceAdd, oR, startE, List.map_cons, List.map_nil, List.cons_append, c]
  · simp only [bind_ok, bind_exn, bindS_ok, bindS_exn, then_next, then_ret, then_brk, then_cont, then_exn, only_next, only_exn, run_nil, run_ret, run_retN, run_drop, run_if, run_asg, run_brk, run_cont, run_raise, run_gN, run_C, run_var, run_m2, run_lnil, run_lcons, run_tup, run_bool, run_tru, run_and, run_or, run_not, run_andV, run_orV, run_notV, run_ifE, run_chain, run_neg, run_sl, run_no, run_some, run_call, run_callF, run_meth, run_subM, run_par, run_par3, run_aug, run_itA, run_fld, run_fldM, run_tyes, fAdd_i, fSub_i, fLt_i, fLe_i, fGt_i, fGe_i, fEq_i, fNe_i, fAbs_i, fInt_i, fInt_b, fEq_s, fNe_s, fEq_b, fMax2_i, fMin2_i, fIAdd_i, fTru_b, fTru_i, run_methF, List.getElem?_cons_succ, List.getElem?_cons_zero, List.length_cons, List.length_nil, List.set_cons_succ, List.set_cons_zero, if_true, if_false, Bool.false_eq_true, Bool.not_true, Bool.not_false, decide_true, decide_false, ite_true, ite_false, Nat.zero_add, Nat.reduceAdd, oR, startE, List.map_cons, List.map_nil, List.cons_append, c]
theorem word_run (a : Int) (h : Hm) : f_word_of [.int a] h = .ok (.int (a % 65536)) h := by
  have md := fMod_ok (x := a) (y := 65536) (h := h) (by decide)
  rw [fm16] at md
  refine call_ret f_word_of_eq rfl ?_
  unfold b_word_of
  simp only [bind_ok, bind_exn, bindS_ok, bindS_exn, then_next, then_ret, then_brk, then_cont, then_exn, only_next, only_exn, run_nil, run_ret, run_retN, run_drop, run_if, run_asg, run_brk, run_cont, run_raise, run_gN, run_C, run_var, run_m2, run_lnil, run_lcons, run_tup, run_bool, run_tru, run_and, run_or, run_not, run_andV, run_orV, run_notV, run_ifE, run_chain, run_neg, run_sl, run_no, run_some, run_call, run_callF, run_meth, run_subM, run_par, run_par3, run_aug, run_itA, run_fld, run_fldM, run_tyes, fAdd_i, fSub_i, fLt_i, fLe_i, fGt_i, fGe_i, fEq_i, fNe_i, fAbs_i, fInt_i, fInt_b, fEq_s, fNe_s, fEq_b, fMax2_i, fMin2_i, fIAdd_i, fTru_b, fTru_i, run_methF, List.getElem?_cons_succ, List.getElem?_cons_zero, List.length_cons, List.length_nil, List.set_cons_succ, List.set_cons_zero, if_true, if_false, Bool.false_eq_true, Bool.not_true, Bool.not_false, decide_true, decide_false, ite_true, ite_false, Nat.zero_add, Nat.reduceAdd, oR, startE, List.map_cons, List.map_nil, List.cons_append, md]
theorem of_loop {gs : List (Nat × O)} {h : Hm} (hg : gdOk gs h = true) {x0 : Option D} : ∀ (l : List Int) (v : Int) (x : Option D), ∃ y, forL gs (gN 2) l_of_bits_0 (l.map D.int) [x0, some (.int v), x] h = .next [x0, some (.int (l.foldl (fun f b => 2 * f + b) v)), y] h
  | [], v, x => ⟨x, forL_nil hg⟩
  | b :: l, v, x => by
    obtain ⟨y, ih⟩ := of_loop hg l (2 * v + b) (some (.int b))
    refine ⟨y, forL_next (e1 := [x0, some (.int v), some (.int b)]) (h1 := h) hg rfl ?_ ih⟩
    have mu := fMul_ok (x := 2) (y := v) (h := h) (.inl ⟨by decide, by decide⟩)
    unfold l_of_bits_0
    simp only [bind_ok, bind_exn, bindS_ok, bindS_exn, then_next, then_ret, then_brk, then_cont, then_exn, only_next, only_exn, run_nil, run_ret, run_retN, run_drop, run_if, run_asg, run_brk, run_cont, run_raise, run_gN, run_C, run_var, run_m2, run_lnil, run_lcons, run_tup, run_bool, run_tru, run_and, run_or, run_not, run_andV, run_orV, run_notV, run_ifE, run_chain, run_neg, run_sl, run_no, run_some, run_call, run_callF, run_meth, run_subM, run_par, run_par3, run_aug, run_itA, run_fld, run_fldM, run_tyes, fAdd_i, fSub_i, fLt_i, fLe_i, fGt_i, fGe_i, fEq_i, fNe_i, fAbs_i, fInt_i, fInt_b, fEq_s, fNe_s, fEq_b, fMax2_i, fMin2_i, fIAdd_i, fTru_b, fTru_i, run_methF, List.getElem?_cons_succ, List.getElem?_cons_zero, List.length_cons, List.length_nil, List.set_cons_succ, List.set_cons_zero, if_true, if_false, Bool.false_eq_true, Bool.not_true, Bool.not_false, decide_true, decide_false, ite_true, ite_false, Nat.zero_add, Nat.reduceAdd, oR, mu]
theorem fold_val : ∀ l : List Int, l.reverse.foldl (fun f b => 2 * f + b) 0 = valL l
  | [] => rfl
  | b :: l => by
    rw [List.reverse_cons, List.foldl_append, fold_val l, valL]
    show 2 * valL l + b = _
    omega
theorem of_run {h : Hm} {r : Nat} {l : List Int} (e : h[r]? = some (.lst (l.map D.int))) : f_of_bits [.ref r] h = .ok (.int (valL l)) h := by
  obtain ⟨y, L⟩ := of_loop (x0 := some (.ref r)) (gdOk_one e) l.reverse 0 none
  rw [fold_val] at L
  refine call_ret f_of_bits_eq rfl (seq_next (e1 := [some (.ref r), some (.int 0), none]) (h1 := h) rfl (seq_next (for_run (it := ((l.map D.int).reverse, [(r, .lst (l.map D.int))])) ?_ L List.map_reverse.symm) rfl))
  have er : itRev h (.ref r) = some ((l.map D.int).reverse, [(r, .lst (l.map D.int))]) := by
    unfold itRev
    simp only [e]
  show (R.ok (.ref r) h).bind (fun x h1 => oR (itRev h1 x) h1) = _
  simp only [bind_ok, bind_exn, bindS_ok, bindS_exn, then_next, then_ret, then_brk, then_cont, then_exn, only_next, only_exn, run_nil, run_ret, run_retN, run_drop, run_if, run_asg, run_brk, run_cont, run_raise, run_gN, run_C, run_var, run_m2, run_lnil, run_lcons, run_tup, run_bool, run_tru, run_and, run_or, run_not, run_andV, run_orV, run_notV, run_ifE, run_chain, run_neg, run_sl, run_no, run_some, run_call, run_callF, run_meth, run_subM, run_par, run_par3, run_aug, run_itA, run_fld, run_fldM, run_tyes, fAdd_i, fSub_i, fLt_i, fLe_i, fGt_i, fGe_i, fEq_i, fNe_i, fAbs_i, fInt_i, fInt_b, fEq_s, fNe_s, fEq_b, fMax2_i, fMin2_i, fIAdd_i, fTru_b, fTru_i, run_methF, List.getElem?_cons_succ, List.getElem?_cons_zero, List.length_cons, List.length_nil, List.set_cons_succ, List.set_cons_zero, if_true, if_false, Bool.false_eq_true, Bool.not_true, Bool.not_false, decide_true, decide_false, ite_true, ite_false, Nat.zero_add, Nat.reduceAdd, oR, er]
/-- what both have -/
def shL (a b : Int) : List Int := ((bitsL 16 a).zip (bitsL 16 b)).map fun p => p.1 * p.2
theorem zip_mem {a b : Int} {n : Nat} {p : Int × Int} (h : p ∈ (bitsL n a).zip (bitsL n b)) : (p.1 = 0 ∨ p.1 = 1) ∧ (p.2 = 0 ∨ p.2 = 1) :=
  ⟨bitsL_bits _ _ _ (List.of_mem_zip h).1, bitsL_bits _ _ _ (List.of_mem_zip h).2⟩
theorem shared_run (a b : Int) (h : Hm) : ∃ g, f_shared [.int a, .int b] h = .ok (.int (valL (shL a b))) (h ++ g) := by
  obtain ⟨g1, B1⟩ := bits_run a h
  obtain ⟨g2, B2⟩ := bits_run b (h ++ g1)
  obtain ⟨h2, hh2⟩ : ∃ h2 : Hm, h2 = h ++ g1 ++ g2 := ⟨_, rfl⟩
  rw [← hh2] at B2
  have R := lcL_pure (gs := []) (g := gU 2 (gsCons (gN 2) (gsCons (gN 3) gsNil))) (t := tYesM) (e := m2 fMul (mVar 2) (mVar 3)) (env := [some (.int a), some (.int b), none, none]) (h := h2) gdOk_nil
    (fun p : Int × Int => D.tup [.int p.1, .int p.2]) (fun p => some (.int (p.1 * p.2))) ((bitsL 16 a).zip (bitsL 16 b)) fun p hp => by
      have z := zip_mem hp
      have c : CMul p.1 p.2 := .inl (by rcases z.1 with e | e <;> rw [e] <;> exact ⟨by decide, by decide⟩)
      have mu := fMul_ok (h := h2) c
      simp [lcTurn, gU, gsCons, gsNil, mu]
  rw [show ((bitsL 16 a).zip (bitsL 16 b)).filterMap (fun p => some (D.int (p.1 * p.2))) = (shL a b).map D.int by unfold shL; rw [List.map_map, ← List.filterMap_eq_map]; rfl] at R
  have O := of_run (h := h2 ++ [.lst ((shL a b).map D.int)]) (r := h2.length) (l := shL a b) get_new
  refine ⟨g1 ++ g2 ++ [.lst ((shL a b).map D.int)], call_ret f_shared_eq rfl ?_⟩
  rw [show h ++ (g1 ++ g2 ++ [.lst ((shL a b).map D.int)]) = h2 ++ [.lst ((shL a b).map D.int)] by rw [hh2]; simp]
  have z : mZip (mCons (mCallF 1 f_bits_of (mCons (mVar 0) mNil)) (mCons (mCallF 1 f_bits_of (mCons (mVar 1) mNil)) mNil)) [some (.int a), some (.int b), none, none] h = .ok (((bitsL 16 a).zip (bitsL 16 b)).map (fun p : Int × Int => D.tup [.int p.1, .int p.2]), []) h2 := by
    unfold mZip
    simp only [bind_ok, bind_exn, bindS_ok, bindS_exn, then_next, then_ret, then_brk, then_cont, then_exn, only_next, only_exn, run_nil, run_ret, run_retN, run_drop, run_if, run_asg, run_brk, run_cont, run_raise, run_gN, run_C, run_var, run_m2, run_lnil, run_lcons, run_tup, run_bool, run_tru, run_and, run_or, run_not, run_andV, run_orV, run_notV, run_ifE, run_chain, run_neg, run_sl, run_no, run_some, run_call, run_callF, run_meth, run_subM, run_par, run_par3, run_aug, run_itA, run_fld, run_fldM, run_tyes, fAdd_i, fSub_i, fLt_i, fLe_i, fGt_i, fGe_i, fEq_i, fNe_i, fAbs_i, fInt_i, fInt_b, fEq_s, fNe_s, fEq_b, fMax2_i, fMin2_i, fIAdd_i, fTru_b, fTru_i, run_methF, List.getElem?_cons_succ, List.getElem?_cons_zero, List.length_cons, List.length_nil, List.set_cons_succ, List.set_cons_zero, if_true, if_false, Bool.false_eq_true, Bool.not_true, Bool.not_false, decide_true, decide_false, ite_true, ite_false, Nat.zero_add, Nat.reduceAdd, oR, B1, B2]
    simp [itL, itT, zipD, List.zip_map, Function.comp_def]
  have m := lc_run (vs := [2, 3]) (ds := ((bitsL 16 a).zip (bitsL 16 b)).map (fun p : Int × Int => D.tup [.int p.1, .int p.2])) z (by rw [List.length_map, List.length_zip, bitsL_len, bitsL_len]; decide) R
  unfold b_shared
  simp only [bind_ok, bind_exn, bindS_ok, bindS_exn, then_next, then_ret, then_brk, then_cont, then_exn, only_next, only_exn, run_nil, run_ret, run_retN, run_drop, run_if, run_asg, run_brk, run_cont, run_raise, run_gN, run_C, run_var, run_m2, run_lnil, run_lcons, run_tup, run_bool, run_tru, run_and, run_or, run_not, run_andV, run_orV, run_notV, run_ifE, run_chain, run_neg, run_sl, run_no, run_some, run_call, run_callF, run_meth, run_subM, run_par, run_par3, run_aug, run_itA, run_fld, run_fldM, run_tyes, fAdd_i, fSub_i, fLt_i, fLe_i, fGt_i, fGe_i, fEq_i, fNe_i, fAbs_i, fInt_i, fInt_b, fEq_s, fNe_s, fEq_b, fMax2_i, fMin2_i, fIAdd_i, fTru_b, fTru_i, run_methF, List.getElem?_cons_succ, List.getElem?_cons_zero, List.length_cons, List.length_nil, List.set_cons_succ, List.set_cons_zero, if_true, if_false, Bool.false_eq_true, Bool.not_true, Bool.not_false, decide_true, decide_false, ite_true, ite_false, Nat.zero_add, Nat.reduceAdd, oR, show startE 4 [D.int a, D.int b] = [some (.int a), some (.int b), none, none] from rfl, m, O]
theorem sh_bits (a b : Int) : Bits (shL a b) := fun x hx => by
  unfold shL at hx
  obtain ⟨p, hp, rfl⟩ := List.mem_map.mp hx
  have z := zip_mem hp
  rcases z.1 with e | e <;> rcases z.2 with e' | e' <;> rw [e, e'] <;> simp
theorem sh_len (a b : Int) : (shL a b).length = 16 := by
  unfold shL
  rw [List.length_map, List.length_zip, bitsL_len, bitsL_len]
  rfl
/-- one of them, just one -/
theorem val_zip (f : Int → Int → Int) (c : Int) (hf : ∀ x y, (x = 0 ∨ x = 1) → (y = 0 ∨ y = 1) → f x y = x + y - c * (x * y)) : ∀ l m : List Int, l.length = m.length → Bits l → Bits m → valL ((l.zip m).map fun p => f p.1 p.2) = valL l + valL m - c * valL ((l.zip m).map fun p => p.1 * p.2)
  | [], [], _, _, _ => by simp [valL]
  | [], _ :: _, h, _, _ => by cases h
  | _ :: _, [], h, _, _ => by cases h
  | x :: l, y :: m, h, hl, hm => by
    have ih := val_zip f c hf l m (Nat.succ.inj h) (fun b hb => hl b (List.mem_cons_of_mem _ hb)) (fun b hb => hm b (List.mem_cons_of_mem _ hb))
    rw [List.zip_cons_cons, List.map_cons, List.map_cons, valL, valL, valL, valL, ih, hf x y (hl x List.mem_cons_self) (hm y List.mem_cons_self), Int.mul_add, Int.mul_sub, Int.mul_add, ← Int.mul_assoc c 2, Int.mul_comm c 2, Int.mul_assoc 2 c]
    show _ = x + 2 * valL l + (y + 2 * valL m) - (c * (x * y) + _)
    generalize c * (x * y) = u
    generalize c * valL (List.map (fun p => p.fst * p.snd) (l.zip m)) = v
    omega
theorem either_run (a b : Int) (h : Hm) : ∃ g, f_either [.int a, .int b] h = .ok (.int (a + b - valL (shL a b))) (h ++ g) := by
  obtain ⟨g, S⟩ := shared_run a b h
  refine ⟨g, call_ret f_either_eq rfl ?_⟩
  unfold b_either
  simp only [bind_ok, bind_exn, bindS_ok, bindS_exn, then_next, then_ret, then_brk, then_cont, then_exn, only_next, only_exn, run_nil, run_ret, run_retN, run_drop, run_if, run_asg, run_brk, run_cont, run_raise, run_gN, run_C, run_var, run_m2, run_lnil, run_lcons, run_tup, run_bool, run_tru, run_and, run_or, run_not, run_andV, run_orV, run_notV, run_ifE, run_chain, run_neg, run_sl, run_no, run_some, run_call, run_callF, run_meth, run_subM, run_par, run_par3, run_aug, run_itA, run_fld, run_fldM, run_tyes, fAdd_i, fSub_i, fLt_i, fLe_i, fGt_i, fGe_i, fEq_i, fNe_i, fAbs_i, fInt_i, fInt_b, fEq_s, fNe_s, fEq_b, fMax2_i, fMin2_i, fIAdd_i, fTru_b, fTru_i, run_methF, List.getElem?_cons_succ, List.getElem?_cons_zero, List.length_cons, List.length_nil, List.set_cons_succ, List.set_cons_zero, if_true, if_false, Bool.false_eq_true, Bool.not_true, Bool.not_false, decide_true, decide_false, ite_true, ite_false, Nat.zero_add, Nat.reduceAdd, oR, startE, List.map_cons, List.map_nil, List.cons_append, S]
theorem unlike_run (a b : Int) (h : Hm) : ∃ g, f_unlike [.int a, .int b] h = .ok (.int (a + b - 2 * valL (shL a b))) (h ++ g) := by
  obtain ⟨g, S⟩ := shared_run a b h
  have mu := fMul_ok (x := 2) (y := valL (shL a b)) (h := h ++ g) (.inl ⟨by decide, by decide⟩)
  refine ⟨g, call_ret f_unlike_eq rfl ?_⟩
  unfold b_unlike
  simp only [bind_ok, bind_exn, bindS_ok, bindS_exn, then_next, then_ret, then_brk, then_cont, then_exn, only_next, only_exn, run_nil, run_ret, run_retN, run_drop, run_if, run_asg, run_brk, run_cont, run_raise, run_gN, run_C, run_var, run_m2, run_lnil, run_lcons, run_tup, run_bool, run_tru, run_and, run_or, run_not, run_andV, run_orV, run_notV, run_ifE, run_chain, run_neg, run_sl, run_no, run_some, run_call, run_callF, run_meth, run_subM, run_par, run_par3, run_aug, run_itA, run_fld, run_fldM, run_tyes, fAdd_i, fSub_i, fLt_i, fLe_i, fGt_i, fGe_i, fEq_i, fNe_i, fAbs_i, fInt_i, fInt_b, fEq_s, fNe_s, fEq_b, fMax2_i, fMin2_i, fIAdd_i, fTru_b, fTru_i, run_methF, List.getElem?_cons_succ, List.getElem?_cons_zero, List.length_cons, List.length_nil, List.set_cons_succ, List.set_cons_zero, if_true, if_false, Bool.false_eq_true, Bool.not_true, Bool.not_false, decide_true, decide_false, ite_true, ite_false, Nat.zero_add, Nat.reduceAdd, oR, startE, List.map_cons, List.map_nil, List.cons_append, S, mu]
def upN : Nat → Int → Int
  | 0, a => a
  | n + 1, a => upN n (2 * a % 65536)
theorem up_loop {h : Hm} {x1 : Option D} : ∀ (ds : List D) (a : Int) (x : Option D), ∃ y, forL [] (gN 2) l_up_0 ds [some (.int a), x1, x] h = .next [some (.int (upN ds.length a)), x1, y] h
  | [], a, x => ⟨x, forL_nil gdOk_nil⟩
  | d :: ds, a, x => by
    obtain ⟨y, ih⟩ := up_loop (h := h) (x1 := x1) ds (2 * a % 65536) (some d)
    refine ⟨y, forL_next (e1 := [some (.int a), x1, some d]) (h1 := h) gdOk_nil rfl ?_ ih⟩
    have mu := fMul_ok (x := 2) (y := a) (h := h) (.inl ⟨by decide, by decide⟩)
    have md := fMod_ok (x := 2 * a) (y := 65536) (h := h) (by decide)
    rw [fm16] at md
    unfold l_up_0
    simp only [bind_ok, bind_exn, bindS_ok, bindS_exn, then_next, then_ret, then_brk, then_cont, then_exn, only_next, only_exn, run_nil, run_ret, run_retN, run_drop, run_if, run_asg, run_brk, run_cont, run_raise, run_gN, run_C, run_var, run_m2, run_lnil, run_lcons, run_tup, run_bool, run_tru, run_and, run_or, run_not, run_andV, run_orV, run_notV, run_ifE, run_chain, run_neg, run_sl, run_no, run_some, run_call, run_callF, run_meth, run_subM, run_par, run_par3, run_aug, run_itA, run_fld, run_fldM, run_tyes, fAdd_i, fSub_i, fLt_i, fLe_i, fGt_i, fGe_i, fEq_i, fNe_i, fAbs_i, fInt_i, fInt_b, fEq_s, fNe_s, fEq_b, fMax2_i, fMin2_i, fIAdd_i, fTru_b, fTru_i, run_methF, List.getElem?_cons_succ, List.getElem?_cons_zero, List.length_cons, List.length_nil, List.set_cons_succ, List.set_cons_zero, if_true, if_false, Bool.false_eq_true, Bool.not_true, Bool.not_false, decide_true, decide_false, ite_true, ite_false, Nat.zero_add, Nat.reduceAdd, oR, mu, md]
theorem upN_eq : ∀ (n : Nat) (a : Int), upN n a % 65536 = a * 2 ^ n % 65536
  | 0, a => by rw [upN, show (2 : Int) ^ 0 = 1 from rfl, Int.mul_one]
  | n + 1, a => by
    rw [upN, upN_eq n, Int.mul_emod, Int.emod_emod_of_dvd _ (Int.dvd_refl _), ← Int.mul_emod, Int.pow_succ, Int.mul_comm (2 ^ n) 2, ← Int.mul_assoc, Int.mul_comm 2 a]
theorem imod (b : Int) (h : Hm) : fIMod (.int b) (.int 16) h = .ok (.int (b % 16)) h := rfl
theorem many_nat (b : Int) : ∃ m : Nat, b % 16 = (m : Int) ∧ m < 16 := ⟨(b % 16).toNat, by omega, by omega⟩
theorem up_run (a b : Int) (h : Hm) : f_up [.int a, .int b] h = .ok (.int (upN (b % 16).toNat a)) h := by
  obtain ⟨m, hm, hlt⟩ := many_nat b
  obtain ⟨y, L⟩ := up_loop (h := h) (x1 := some (.int m)) ((List.range m).map (fun k : Nat => D.int (0 + (k : Int)))) a none
  rw [List.length_map, List.length_range] at L
  refine call_ret f_up_eq rfl (seq_next (e1 := [some (.int a), some (.int m), none]) (h1 := h) ?_ (seq_next (for_run (rg1_run rfl (by omega)) L) ?_))
  · have := imod b h
    rw [hm] at this
    show sAug 1 fIMod (mC (.int 16)) [some (.int a), some (.int b), none] h = _
    simp only [bind_ok, bind_exn, bindS_ok, bindS_exn, then_next, then_ret, then_brk, then_cont, then_exn, only_next, only_exn, run_nil, run_ret, run_retN, run_drop, run_if, run_asg, run_brk, run_cont, run_raise, run_gN, run_C, run_var, run_m2, run_lnil, run_lcons, run_tup, run_bool, run_tru, run_and, run_or, run_not, run_andV, run_orV, run_notV, run_ifE, run_chain, run_neg, run_sl, run_no, run_some, run_call, run_callF, run_meth, run_subM, run_par, run_par3, run_aug, run_itA, run_fld, run_fldM, run_tyes, fAdd_i, fSub_i, fLt_i, fLe_i, fGt_i, fGe_i, fEq_i, fNe_i, fAbs_i, fInt_i, fInt_b, fEq_s, fNe_s, fEq_b, fMax2_i, fMin2_i, fIAdd_i, fTru_b, fTru_i, run_methF, List.getElem?_cons_succ, List.getElem?_cons_zero, List.length_cons, List.length_nil, List.set_cons_succ, List.set_cons_zero, if_true, if_false, Bool.false_eq_true, Bool.not_true, Bool.not_false, decide_true, decide_false, ite_true, ite_false, Nat.zero_add, Nat.reduceAdd, oR, this]
  · rw [hm]
    simp only [bind_ok, bind_exn, bindS_ok, bindS_exn, then_next, then_ret, then_brk, then_cont, then_exn, only_next, only_exn, run_nil, run_ret, run_retN, run_drop, run_if, run_asg, run_brk, run_cont, run_raise, run_gN, run_C, run_var, run_m2, run_lnil, run_lcons, run_tup, run_bool, run_tru, run_and, run_or, run_not, run_andV, run_orV, run_notV, run_ifE, run_chain, run_neg, run_sl, run_no, run_some, run_call, run_callF, run_meth, run_subM, run_par, run_par3, run_aug, run_itA, run_fld, run_fldM, run_tyes, fAdd_i, fSub_i, fLt_i, fLe_i, fGt_i, fGe_i, fEq_i, fNe_i, fAbs_i, fInt_i, fInt_b, fEq_s, fNe_s, fEq_b, fMax2_i, fMin2_i, fIAdd_i, fTru_b, fTru_i, run_methF, List.getElem?_cons_succ, List.getElem?_cons_zero, List.length_cons, List.length_nil, List.set_cons_succ, List.set_cons_zero, if_true, if_false, Bool.false_eq_true, Bool.not_true, Bool.not_false, decide_true, decide_false, ite_true, ite_false, Nat.zero_add, Nat.reduceAdd, oR]
    rfl
def dnN : Nat → Int → Int
  | 0, a => a
  | n + 1, a => dnN n (a / 2)
theorem dnN_eq : ∀ (n : Nat) (a : Int), dnN n a = a / 2 ^ n
  | 0, a => by rw [dnN, show (2 : Int) ^ 0 = 1 from rfl, Int.ediv_one]
  | n + 1, a => by rw [dnN, dnN_eq n, Int.pow_succ, Int.mul_comm, dd]
theorem idiv (b : Int) (h : Hm) : fIDiv (.int b) (.int 2) h = .ok (.int (b / 2)) h := rfl
theorem down_loop {h : Hm} {x1 : Option D} : ∀ (ds : List D) (a : Int) (x : Option D), ∃ y, forL [] (gN 2) l_down_0 ds [some (.int a), x1, x] h = .next [some (.int (dnN ds.length a)), x1, y] h
  | [], a, x => ⟨x, forL_nil gdOk_nil⟩
  | d :: ds, a, x => by
    obtain ⟨y, ih⟩ := down_loop (h := h) (x1 := x1) ds (a / 2) (some d)
    refine ⟨y, forL_next (e1 := [some (.int a), x1, some d]) (h1 := h) gdOk_nil rfl ?_ ih⟩
    unfold l_down_0
    simp only [bind_ok, bind_exn, bindS_ok, bindS_exn, then_next, then_ret, then_brk, then_cont, then_exn, only_next, only_exn, run_nil, run_ret, run_retN, run_drop, run_if, run_asg, run_brk, run_cont, run_raise, run_gN, run_C, run_var, run_m2, run_lnil, run_lcons, run_tup, run_bool, run_tru, run_and, run_or, run_not, run_andV, run_orV, run_notV, run_ifE, run_chain, run_neg, run_sl, run_no, run_some, run_call, run_callF, run_meth, run_subM, run_par, run_par3, run_aug, run_itA, run_fld, run_fldM, run_tyes, fAdd_i, fSub_i, fLt_i, fLe_i, fGt_i, fGe_i, fEq_i, fNe_i, fAbs_i, fInt_i, fInt_b, fEq_s, fNe_s, fEq_b, fMax2_i, fMin2_i, fIAdd_i, fTru_b, fTru_i, run_methF, List.getElem?_cons_succ, List.getElem?_cons_zero, List.length_cons, List.length_nil, List.set_cons_succ, List.set_cons_zero, if_true, if_false, Bool.false_eq_true, Bool.not_true, Bool.not_false, decide_true, decide_false, ite_true, ite_false, Nat.zero_add, Nat.reduceAdd, oR, idiv]
theorem down_run (a b : Int) (h : Hm) : f_down [.int a, .int b] h = .ok (.int (a / 2 ^ (b % 16).toNat)) h := by
  obtain ⟨m, hm, hlt⟩ := many_nat b
  obtain ⟨y, L⟩ := down_loop (h := h) (x1 := some (.int m)) ((List.range m).map (fun k : Nat => D.int (0 + (k : Int)))) a none
  rw [List.length_map, List.length_range, dnN_eq] at L
  refine call_ret f_down_eq rfl (seq_next (e1 := [some (.int a), some (.int m), none]) (h1 := h) ?_ (seq_next (for_run (rg1_run rfl (by omega)) L) ?_))
  · have := imod b h
    rw [hm] at this
    show sAug 1 fIMod (mC (.int 16)) [some (.int a), some (.int b), none] h = _
    simp only [bind_ok, bind_exn, bindS_ok, bindS_exn, then_next, then_ret, then_brk, then_cont, then_exn, only_next, only_exn, run_nil, run_ret, run_retN, run_drop, run_if, run_asg, run_brk, run_cont, run_raise, run_gN, run_C, run_var, run_m2, run_lnil, run_lcons, run_tup, run_bool, run_tru, run_and, run_or, run_not, run_andV, run_orV, run_notV, run_ifE, run_chain, run_neg, run_sl, run_no, run_some, run_call, run_callF, run_meth, run_subM, run_par, run_par3, run_aug, run_itA, run_fld, run_fldM, run_tyes, fAdd_i, fSub_i, fLt_i, fLe_i, fGt_i, fGe_i, fEq_i, fNe_i, fAbs_i, fInt_i, fInt_b, fEq_s, fNe_s, fEq_b, fMax2_i, fMin2_i, fIAdd_i, fTru_b, fTru_i, run_methF, List.getElem?_cons_succ, List.getElem?_cons_zero, List.length_cons, List.length_nil, List.set_cons_succ, List.set_cons_zero, if_true, if_false, Bool.false_eq_true, Bool.not_true, Bool.not_false, decide_true, decide_false, ite_true, ite_false, Nat.zero_add, Nat.reduceAdd, oR, this]
  · rw [hm]
    simp only [bind_ok, bind_exn, bindS_ok, bindS_exn, then_next, then_ret, then_brk, then_cont, then_exn, only_next, only_exn, run_nil, run_ret, run_retN, run_drop, run_if, run_asg, run_brk, run_cont, run_raise, run_gN, run_C, run_var, run_m2, run_lnil, run_lcons, run_tup, run_bool, run_tru, run_and, run_or, run_not, run_andV, run_orV, run_notV, run_ifE, run_chain, run_neg, run_sl, run_no, run_some, run_call, run_callF, run_meth, run_subM, run_par, run_par3, run_aug, run_itA, run_fld, run_fldM, run_tyes, fAdd_i, fSub_i, fLt_i, fLe_i, fGt_i, fGe_i, fEq_i, fNe_i, fAbs_i, fInt_i, fInt_b, fEq_s, fNe_s, fEq_b, fMax2_i, fMin2_i, fIAdd_i, fTru_b, fTru_i, run_methF, List.getElem?_cons_succ, List.getElem?_cons_zero, List.length_cons, List.length_nil, List.set_cons_succ, List.set_cons_zero, if_true, if_false, Bool.false_eq_true, Bool.not_true, Bool.not_false, decide_true, decide_false, ite_true, ite_false, Nat.zero_add, Nat.reduceAdd, oR]
    rfl
theorem downs_loop {h : Hm} {x0 x1 : Option D} : ∀ (ds : List D) (a : Int) (x : Option D), ∃ y, forL [] (gN 3) l_down_signed_0 ds [x0, x1, some (.int a), x] h = .next [x0, x1, some (.int (dnN ds.length a)), y] h
  | [], a, x => ⟨x, forL_nil gdOk_nil⟩
  | d :: ds, a, x => by
    obtain ⟨y, ih⟩ := downs_loop (h := h) (x0 := x0) (x1 := x1) ds (a / 2) (some d)
    refine ⟨y, forL_next (e1 := [x0, x1, some (.int a), some d]) (h1 := h) gdOk_nil rfl ?_ ih⟩
    unfold l_down_signed_0
    simp only [bind_ok, bind_exn, bindS_ok, bindS_exn, then_next, then_ret, then_brk, then_cont, then_exn, only_next, only_exn, run_nil, run_ret, run_retN, run_drop, run_if, run_asg, run_brk, run_cont, run_raise, run_gN, run_C, run_var, run_m2, run_lnil, run_lcons, run_tup, run_bool, run_tru, run_and, run_or, run_not, run_andV, run_orV, run_notV, run_ifE, run_chain, run_neg, run_sl, run_no, run_some, run_call, run_callF, run_meth, run_subM, run_par, run_par3, run_aug, run_itA, run_fld, run_fldM, run_tyes, fAdd_i, fSub_i, fLt_i, fLe_i, fGt_i, fGe_i, fEq_i, fNe_i, fAbs_i, fInt_i, fInt_b, fEq_s, fNe_s, fEq_b, fMax2_i, fMin2_i, fIAdd_i, fTru_b, fTru_i, run_methF, List.getElem?_cons_succ, List.getElem?_cons_zero, List.length_cons, List.length_nil, List.set_cons_succ, List.set_cons_zero, if_true, if_false, Bool.false_eq_true, Bool.not_true, Bool.not_false, decide_true, decide_false, ite_true, ite_false, Nat.zero_add, Nat.reduceAdd, oR, idiv]
theorem downs_run (a b : Int) (h : Hm) : f_down_signed [.int a, .int b] h = .ok (.int (sgn a / 2 ^ (b % 16).toNat % 65536)) h := by
  obtain ⟨m, hm, hlt⟩ := many_nat b
  obtain ⟨y, L⟩ := downs_loop (h := h) (x0 := some (.int a)) (x1 := some (.int b)) ((List.range m).map (fun k : Nat => D.int (0 + (k : Int)))) (sgn a) none
  rw [List.length_map, List.length_range, dnN_eq] at L
  have sg := signed_run a h
  have md := fMod_ok (x := b) (y := 16) (h := h) (by decide)
  rw [Int.fmod_eq_emod_of_nonneg _ (by decide), hm] at md
  have md2 := fMod_ok (x := sgn a / 2 ^ m) (y := 65536) (h := h) (by decide)
  rw [fm16] at md2
  refine call_ret f_down_signed_eq rfl (seq_next (e1 := [some (.int a), some (.int b), some (.int (sgn a)), none]) (h1 := h) ?_ (seq_next (for_run (rg1_run (n := m) ?_ (by omega)) L) ?_))
  · show sAsg (gN 2) (mCallF 1 f_signed (mCons (mVar 0) mNil)) [some (.int a), some (.int b), none, none] h = _
    simp only [bind_ok, bind_exn, bindS_ok, bindS_exn, then_next, then_ret, then_brk, then_cont, then_exn, only_next, only_exn, run_nil, run_ret, run_retN, run_drop, run_if, run_asg, run_brk, run_cont, run_raise, run_gN, run_C, run_var, run_m2, run_lnil, run_lcons, run_tup, run_bool, run_tru, run_and, run_or, run_not, run_andV, run_orV, run_notV, run_ifE, run_chain, run_neg, run_sl, run_no, run_some, run_call, run_callF, run_meth, run_subM, run_par, run_par3, run_aug, run_itA, run_fld, run_fldM, run_tyes, fAdd_i, fSub_i, fLt_i, fLe_i, fGt_i, fGe_i, fEq_i, fNe_i, fAbs_i, fInt_i, fInt_b, fEq_s, fNe_s, fEq_b, fMax2_i, fMin2_i, fIAdd_i, fTru_b, fTru_i, run_methF, List.getElem?_cons_succ, List.getElem?_cons_zero, List.length_cons, List.length_nil, List.set_cons_succ, List.set_cons_zero, if_true, if_false, Bool.false_eq_true, Bool.not_true, Bool.not_false, decide_true, decide_false, ite_true, ite_false, Nat.zero_add, Nat.reduceAdd, oR, sg]
  · simp only [bind_ok, bind_exn, bindS_ok, bindS_exn, then_next, then_ret, then_brk, then_cont, then_exn, only_next, only_exn, run_nil, run_ret, run_retN, run_drop, run_if, run_asg, run_brk, run_cont, run_raise, run_gN, run_C, run_var, run_m2, run_lnil, run_lcons, run_tup, run_bool, run_tru, run_and, run_or, run_not, run_andV, run_orV, run_notV, run_ifE, run_chain, run_neg, run_sl, run_no, run_some, run_call, run_callF, run_meth, run_subM, run_par, run_par3, run_aug, run_itA, run_fld, run_fldM, run_tyes, fAdd_i, fSub_i, fLt_i, fLe_i, fGt_i, fGe_i, fEq_i, fNe_i, fAbs_i, fInt_i, fInt_b, fEq_s, fNe_s, fEq_b, fMax2_i, fMin2_i, fIAdd_i, fTru_b, fTru_i, run_methF, List.getElem?_cons_succ, List.getElem?_cons_zero, List.length_cons, List.length_nil, List.set_cons_succ, List.set_cons_zero, if_true, if_false, Bool.false_eq_true, Bool.not_true, Bool.not_false, decide_true, decide_false, ite_true, ite_false, Nat.zero_add, Nat.reduceAdd, oR, md]
  · rw [hm]
    simp only [bind_ok, bind_exn, bindS_ok, bindS_exn, then_next, then_ret, then_brk, then_cont, then_exn, only_next, only_exn, run_nil, run_ret, run_retN, run_drop, run_if, run_asg, run_brk, run_cont, run_raise, run_gN, run_C, run_var, run_m2, run_lnil, run_lcons, run_tup, run_bool, run_tru, run_and, run_or, run_not, run_andV, run_orV, run_notV, run_ifE, run_chain, run_neg, run_sl, run_no, run_some, run_call, run_callF, run_meth, run_subM, run_par, run_par3, run_aug, run_itA, run_fld, run_fldM, run_tyes, fAdd_i, fSub_i, fLt_i, fLe_i, fGt_i, fGe_i, fEq_i, fNe_i, fAbs_i, fInt_i, fInt_b, fEq_s, fNe_s, fEq_b, fMax2_i, fMin2_i, fIAdd_i, fTru_b, fTru_i, run_methF, List.getElem?_cons_succ, List.getElem?_cons_zero, List.length_cons, List.length_nil, List.set_cons_succ, List.set_cons_zero, if_true, if_false, Bool.false_eq_true, Bool.not_true, Bool.not_false, decide_true, decide_false, ite_true, ite_false, Nat.zero_add, Nat.reduceAdd, oR, md2]
    rfl
theorem isless_run (a b : Int) (h : Hm) : f_is_less [.int a, .int b] h = .ok (.int (if decide (sgn a < sgn b) = true then 1 else 0)) h := by
  refine call_ret f_is_less_eq rfl ?_
  unfold b_is_less
  simp only [bind_ok, bind_exn, bindS_ok, bindS_exn, then_next, then_ret, then_brk, then_cont, then_exn, only_next, only_exn, run_nil, run_ret, run_retN, run_drop, run_if, run_asg, run_brk, run_cont, run_raise, run_gN, run_C, run_var, run_m2, run_lnil, run_lcons, run_tup, run_bool, run_tru, run_and, run_or, run_not, run_andV, run_orV, run_notV, run_ifE, run_chain, run_neg, run_sl, run_no, run_some, run_call, run_callF, run_meth, run_subM, run_par, run_par3, run_aug, run_itA, run_fld, run_fldM, run_tyes, fAdd_i, fSub_i, fLt_i, fLe_i, fGt_i, fGe_i, fEq_i, fNe_i, fAbs_i, fInt_i, fInt_b, fEq_s, fNe_s, fEq_b, fMax2_i, fMin2_i, fIAdd_i, fTru_b, fTru_i, run_methF, List.getElem?_cons_succ, List.getElem?_cons_zero, List.length_cons, List.length_nil, List.set_cons_succ, List.set_cons_zero, if_true, if_false, Bool.false_eq_true, Bool.not_true, Bool.not_false, decide_true, decide_false, ite_true, ite_false, Nat.zero_add, Nat.reduceAdd, oR, startE, List.map_cons, List.map_nil, List.cons_append, signed_run]
theorem isbelow_run (a b : Int) (h : Hm) : f_is_below [.int a, .int b] h = .ok (.int (if decide (a < b) = true then 1 else 0)) h := by
  refine call_ret f_is_below_eq rfl ?_
  unfold b_is_below
  simp only [bind_ok, bind_exn, bindS_ok, bindS_exn, then_next, then_ret, then_brk, then_cont, then_exn, only_next, only_exn, run_nil, run_ret, run_retN, run_drop, run_if, run_asg, run_brk, run_cont, run_raise, run_gN, run_C, run_var, run_m2, run_lnil, run_lcons, run_tup, run_bool, run_tru, run_and, run_or, run_not, run_andV, run_orV, run_notV, run_ifE, run_chain, run_neg, run_sl, run_no, run_some, run_call, run_callF, run_meth, run_subM, run_par, run_par3, run_aug, run_itA, run_fld, run_fldM, run_tyes, fAdd_i, fSub_i, fLt_i, fLe_i, fGt_i, fGe_i, fEq_i, fNe_i, fAbs_i, fInt_i, fInt_b, fEq_s, fNe_s, fEq_b, fMax2_i, fMin2_i, fIAdd_i, fTru_b, fTru_i, run_methF, List.getElem?_cons_succ, List.getElem?_cons_zero, List.length_cons, List.length_nil, List.set_cons_succ, List.set_cons_zero, if_true, if_false, Bool.false_eq_true, Bool.not_true, Bool.not_false, decide_true, decide_false, ite_true, ite_false, Nat.zero_add, Nat.reduceAdd, oR, startE, List.map_cons, List.map_nil, List.cons_append]
theorem p2pos (m : Nat) : (0 : Int) < 2 ^ m := Int.pow_pos (by decide)
theorem p2succ (s : Int) (m : Nat) : s * 2 ^ (m + 1) = s * 2 * 2 ^ m := by rw [Int.pow_succ, Int.mul_comm (2 ^ m) 2, ← Int.mul_assoc]
theorem muI (s : Int) (h : Hm) : fMulI (.int s) (.int 2) h = .ok (.int (s * 2)) h := fMulI_ok (.inr ⟨by decide, by decide⟩)
theorem muG (s : Int) (h : Hm) : fMul (.int s) (.int 2) h = .ok (.int (s * 2)) h := fMul_ok (.inr ⟨by decide, by decide⟩)
theorem mu2 (s : Int) (h : Hm) : fMul (.int 2) (.int s) h = .ok (.int (2 * s)) h := fMul_ok (.inl ⟨by decide, by decide⟩)
theorem str_loop {h : Hm} {x0 x1 : Option D} : ∀ (ds : List D) (s : Int) (x : Option D), ∃ y, forL [] (gN 3) l_stretched_0 ds [x0, x1, some (.int s), x] h = .next [x0, x1, some (.int (s * 2 ^ ds.length)), y] h
  | [], s, x => ⟨x, by rw [forL_nil gdOk_nil, List.length_nil, show (2 : Int) ^ 0 = 1 from rfl, Int.mul_one]⟩
  | d :: ds, s, x => by
    obtain ⟨y, ih⟩ := str_loop (h := h) (x0 := x0) (x1 := x1) ds (s * 2) (some d)
    rw [List.length_cons, p2succ]
    refine ⟨y, forL_next (e1 := [x0, x1, some (.int s), some d]) (h1 := h) gdOk_nil rfl ?_ ih⟩
    unfold l_stretched_0
    simp only [bind_ok, bind_exn, bindS_ok, bindS_exn, then_next, then_ret, then_brk, then_cont, then_exn, only_next, only_exn, run_nil, run_ret, run_retN, run_drop, run_if, run_asg, run_brk, run_cont, run_raise, run_gN, run_C, run_var, run_m2, run_lnil, run_lcons, run_tup, run_bool, run_tru, run_and, run_or, run_not, run_andV, run_orV, run_notV, run_ifE, run_chain, run_neg, run_sl, run_no, run_some, run_call, run_callF, run_meth, run_subM, run_par, run_par3, run_aug, run_itA, run_fld, run_fldM, run_tyes, fAdd_i, fSub_i, fLt_i, fLe_i, fGt_i, fGe_i, fEq_i, fNe_i, fAbs_i, fInt_i, fInt_b, fEq_s, fNe_s, fEq_b, fMax2_i, fMin2_i, fIAdd_i, fTru_b, fTru_i, run_methF, List.getElem?_cons_succ, List.getElem?_cons_zero, List.length_cons, List.length_nil, List.set_cons_succ, List.set_cons_zero, if_true, if_false, Bool.false_eq_true, Bool.not_true, Bool.not_false, decide_true, decide_false, ite_true, ite_false, Nat.zero_add, Nat.reduceAdd, oR, muI]
theorem fld_loop {h : Hm} {x0 x1 : Option D} : ∀ (ds : List D) (s : Int) (x : Option D), ∃ y, forL [] (gN 3) l_field_0 ds [x0, x1, some (.int s), x] h = .next [x0, x1, some (.int (s * 2 ^ ds.length)), y] h
  | [], s, x => ⟨x, by rw [forL_nil gdOk_nil, List.length_nil, show (2 : Int) ^ 0 = 1 from rfl, Int.mul_one]⟩
  | d :: ds, s, x => by
    obtain ⟨y, ih⟩ := fld_loop (h := h) (x0 := x0) (x1 := x1) ds (s * 2) (some d)
    rw [List.length_cons, p2succ]
    refine ⟨y, forL_next (e1 := [x0, x1, some (.int s), some d]) (h1 := h) gdOk_nil rfl ?_ ih⟩
    unfold l_field_0
    simp only [bind_ok, bind_exn, bindS_ok, bindS_exn, then_next, then_ret, then_brk, then_cont, then_exn, only_next, only_exn, run_nil, run_ret, run_retN, run_drop, run_if, run_asg, run_brk, run_cont, run_raise, run_gN, run_C, run_var, run_m2, run_lnil, run_lcons, run_tup, run_bool, run_tru, run_and, run_or, run_not, run_andV, run_orV, run_notV, run_ifE, run_chain, run_neg, run_sl, run_no, run_some, run_call, run_callF, run_meth, run_subM, run_par, run_par3, run_aug, run_itA, run_fld, run_fldM, run_tyes, fAdd_i, fSub_i, fLt_i, fLe_i, fGt_i, fGe_i, fEq_i, fNe_i, fAbs_i, fInt_i, fInt_b, fEq_s, fNe_s, fEq_b, fMax2_i, fMin2_i, fIAdd_i, fTru_b, fTru_i, run_methF, List.getElem?_cons_succ, List.getElem?_cons_zero, List.length_cons, List.length_nil, List.set_cons_succ, List.set_cons_zero, if_true, if_false, Bool.false_eq_true, Bool.not_true, Bool.not_false, decide_true, decide_false, ite_true, ite_false, Nat.zero_add, Nat.reduceAdd, oR, muI]
theorem lfl_loop {h : Hm} {x0 x1 x2 x5 : Option D} : ∀ (ds : List D) (s : Int) (x : Option D), ∃ y, forL [] (gN 4) l__law_fields_0 ds [x0, x1, x2, some (.int s), x, x5] h = .next [x0, x1, x2, some (.int (s * 2 ^ ds.length)), y, x5] h
  | [], s, x => ⟨x, by rw [forL_nil gdOk_nil, List.length_nil, show (2 : Int) ^ 0 = 1 from rfl, Int.mul_one]⟩
  | d :: ds, s, x => by
    obtain ⟨y, ih⟩ := lfl_loop (h := h) (x0 := x0) (x1 := x1) (x2 := x2) (x5 := x5) ds (s * 2) (some d)
    rw [List.length_cons, p2succ]
    refine ⟨y, forL_next (e1 := [x0, x1, x2, some (.int s), some d, x5]) (h1 := h) gdOk_nil rfl ?_ ih⟩
    unfold l__law_fields_0
    simp only [bind_ok, bind_exn, bindS_ok, bindS_exn, then_next, then_ret, then_brk, then_cont, then_exn, only_next, only_exn, run_nil, run_ret, run_retN, run_drop, run_if, run_asg, run_brk, run_cont, run_raise, run_gN, run_C, run_var, run_m2, run_lnil, run_lcons, run_tup, run_bool, run_tru, run_and, run_or, run_not, run_andV, run_orV, run_notV, run_ifE, run_chain, run_neg, run_sl, run_no, run_some, run_call, run_callF, run_meth, run_subM, run_par, run_par3, run_aug, run_itA, run_fld, run_fldM, run_tyes, fAdd_i, fSub_i, fLt_i, fLe_i, fGt_i, fGe_i, fEq_i, fNe_i, fAbs_i, fInt_i, fInt_b, fEq_s, fNe_s, fEq_b, fMax2_i, fMin2_i, fIAdd_i, fTru_b, fTru_i, run_methF, List.getElem?_cons_succ, List.getElem?_cons_zero, List.length_cons, List.length_nil, List.set_cons_succ, List.set_cons_zero, if_true, if_false, Bool.false_eq_true, Bool.not_true, Bool.not_false, decide_true, decide_false, ite_true, ite_false, Nat.zero_add, Nat.reduceAdd, oR, muG]
def strP (n : Int) (m : Nat) : Int := if 2 ^ m ≤ 2 * n then n - 2 ^ m else n
theorem str_run (n : Int) (m : Nat) (hm : m ≤ 1000) (h : Hm) : f_stretched [.int n, .int (m : Int)] h = .ok (.int (strP n m)) h := by
  obtain ⟨y, L⟩ := str_loop (h := h) (x0 := some (.int n)) (x1 := some (.int m)) ((List.range m).map (fun k : Nat => D.int (0 + (k : Int)))) 1 none
  rw [List.length_map, List.length_range, Int.one_mul] at L
  refine call_ret f_stretched_eq rfl (seq_next (e1 := [some (.int n), some (.int m), some (.int 1), none]) (h1 := h) rfl (seq_next (for_run (rg1_run rfl hm) L) ?_))
  unfold strP
  generalize (2 : Int) ^ m = z
  by_cases c : z ≤ 2 * n
  · simp only [bind_ok, bind_exn, bindS_ok, bindS_exn, then_next, then_ret, then_brk, then_cont, then_exn, only_next, only_exn, run_nil, run_ret, run_retN, run_drop, run_if, run_asg, run_brk, run_cont, run_raise, run_gN, run_C, run_var, run_m2, run_lnil, run_lcons, run_tup, run_bool, run_tru, run_and, run_or, run_not, run_andV, run_orV, run_notV, run_ifE, run_chain, run_neg, run_sl, run_no, run_some, run_call, run_callF, run_meth, run_subM, run_par, run_par3, run_aug, run_itA, run_fld, run_fldM, run_tyes, fAdd_i, fSub_i, fLt_i, fLe_i, fGt_i, fGe_i, fEq_i, fNe_i, fAbs_i, fInt_i, fInt_b, fEq_s, fNe_s, fEq_b, fMax2_i, fMin2_i, fIAdd_i, fTru_b, fTru_i, run_methF, List.getElem?_cons_succ, List.getElem?_cons_zero, List.length_cons, List.length_nil, List.set_cons_succ, List.set_cons_zero, if_true, if_false, Bool.false_eq_true, Bool.not_true, Bool.not_false, decide_true, decide_false, ite_true, ite_false, Nat.zero_add, Nat.reduceAdd, oR, mu2, c]
  · simp only [bind_ok, bind_exn, bindS_ok, bindS_exn, then_next, then_ret, then_brk, then_cont, then_exn, only_next, only_exn, run_nil, run_ret, run_retN, run_drop, run_if, run_asg, run_brk, run_cont, run_raise, run_gN, run_C, run_var, run_m2, run_lnil, run_lcons, run_tup, run_bool, run_tru, run_and, run_or, run_not, run_andV, run_orV, run_notV, run_ifE, run_chain, run_neg, run_sl, run_no, run_some, run_call, run_callF, run_meth, run_subM, run_par, run_par3, run_aug, run_itA, run_fld, run_fldM, run_tyes, fAdd_i, fSub_i, fLt_i, fLe_i, fGt_i, fGe_i, fEq_i, fNe_i, fAbs_i, fInt_i, fInt_b, fEq_s, fNe_s, fEq_b, fMax2_i, fMin2_i, fIAdd_i, fTru_b, fTru_i, run_methF, List.getElem?_cons_succ, List.getElem?_cons_zero, List.length_cons, List.length_nil, List.set_cons_succ, List.set_cons_zero, if_true, if_false, Bool.false_eq_true, Bool.not_true, Bool.not_false, decide_true, decide_false, ite_true, ite_false, Nat.zero_add, Nat.reduceAdd, oR, mu2, c]
theorem fld_run (n : Int) (m : Nat) (hm : m ≤ 1000) (h : Hm) : f_field [.int n, .int (m : Int)] h = if -2 ^ m ≤ 2 * n ∧ 2 * n < 2 ^ m then .ok (.int (n % 2 ^ m)) h else .exn ⟨"BadOrder", []⟩ h := by
  obtain ⟨y, L⟩ := fld_loop (h := h) (x0 := some (.int n)) (x1 := some (.int m)) ((List.range m).map (fun k : Nat => D.int (0 + (k : Int)))) 1 none
  rw [List.length_map, List.length_range, Int.one_mul] at L
  have hp := p2pos m
  generalize (2 : Int) ^ m = z at L hp ⊢
  have md := fMod_ok (x := n) (y := z) (h := h) (by omega)
  rw [Int.fmod_eq_emod_of_nonneg _ (by omega)] at md
  by_cases c : -z ≤ 2 * n ∧ 2 * n < z
  · rw [if_pos c]
    refine call_ret f_field_eq rfl (seq_next (e1 := [some (.int n), some (.int m), some (.int 1), none]) (h1 := h) rfl (seq_next (for_run (rg1_run rfl hm) L) (seq_next (e1 := [some (.int n), some (.int m), some (.int z), y]) (h1 := h) ?_ ?_)))
    · simp only [bind_ok, bind_exn, bindS_ok, bindS_exn, then_next, then_ret, then_brk, then_cont, then_exn, only_next, only_exn, run_nil, run_ret, run_retN, run_drop, run_if, run_asg, run_brk, run_cont, run_raise, run_gN, run_C, run_var, run_m2, run_lnil, run_lcons, run_tup, run_bool, run_tru, run_and, run_or, run_not, run_andV, run_orV, run_notV, run_ifE, run_chain, run_neg, run_sl, run_no, run_some, run_call, run_callF, run_meth, run_subM, run_par, run_par3, run_aug, run_itA, run_fld, run_fldM, run_tyes, fAdd_i, fSub_i, fLt_i, fLe_i, fGt_i, fGe_i, fEq_i, fNe_i, fAbs_i, fInt_i, fInt_b, fEq_s, fNe_s, fEq_b, fMax2_i, fMin2_i, fIAdd_i, fTru_b, fTru_i, run_methF, List.getElem?_cons_succ, List.getElem?_cons_zero, List.length_cons, List.length_nil, List.set_cons_succ, List.set_cons_zero, if_true, if_false, Bool.false_eq_true, Bool.not_true, Bool.not_false, decide_true, decide_false, ite_true, ite_false, Nat.zero_add, Nat.reduceAdd, oR, mu2, c.1, c.2]
    · simp only [bind_ok, bind_exn, bindS_ok, bindS_exn, then_next, then_ret, then_brk, then_cont, then_exn, only_next, only_exn, run_nil, run_ret, run_retN, run_drop, run_if, run_asg, run_brk, run_cont, run_raise, run_gN, run_C, run_var, run_m2, run_lnil, run_lcons, run_tup, run_bool, run_tru, run_and, run_or, run_not, run_andV, run_orV, run_notV, run_ifE, run_chain, run_neg, run_sl, run_no, run_some, run_call, run_callF, run_meth, run_subM, run_par, run_par3, run_aug, run_itA, run_fld, run_fldM, run_tyes, fAdd_i, fSub_i, fLt_i, fLe_i, fGt_i, fGe_i, fEq_i, fNe_i, fAbs_i, fInt_i, fInt_b, fEq_s, fNe_s, fEq_b, fMax2_i, fMin2_i, fIAdd_i, fTru_b, fTru_i, run_methF, List.getElem?_cons_succ, List.getElem?_cons_zero, List.length_cons, List.length_nil, List.set_cons_succ, List.set_cons_zero, if_true, if_false, Bool.false_eq_true, Bool.not_true, Bool.not_false, decide_true, decide_false, ite_true, ite_false, Nat.zero_add, Nat.reduceAdd, oR, md]
  · rw [if_neg c]
    refine call_exn f_field_eq (e1 := [some (.int n), some (.int m), some (.int z), y]) rfl (seq_next (e1 := [some (.int n), some (.int m), some (.int 1), none]) (h1 := h) rfl (seq_next (for_run (rg1_run rfl hm) L) (seq_exn ?_)))
    by_cases c1 : -z ≤ 2 * n
    · have c2 : ¬ 2 * n < z := fun q => c ⟨c1, q⟩
      simp only [bind_ok, bind_exn, bindS_ok, bindS_exn, then_next, then_ret, then_brk, then_cont, then_exn, only_next, only_exn, run_nil, run_ret, run_retN, run_drop, run_if, run_asg, run_brk, run_cont, run_raise, run_gN, run_C, run_var, run_m2, run_lnil, run_lcons, run_tup, run_bool, run_tru, run_and, run_or, run_not, run_andV, run_orV, run_notV, run_ifE, run_chain, run_neg, run_sl, run_no, run_some, run_call, run_callF, run_meth, run_subM, run_par, run_par3, run_aug, run_itA, run_fld, run_fldM, run_tyes, fAdd_i, fSub_i, fLt_i, fLe_i, fGt_i, fGe_i, fEq_i, fNe_i, fAbs_i, fInt_i, fInt_b, fEq_s, fNe_s, fEq_b, fMax2_i, fMin2_i, fIAdd_i, fTru_b, fTru_i, run_methF, List.getElem?_cons_succ, List.getElem?_cons_zero, List.length_cons, List.length_nil, List.set_cons_succ, List.set_cons_zero, if_true, if_false, Bool.false_eq_true, Bool.not_true, Bool.not_false, decide_true, decide_false, ite_true, ite_false, Nat.zero_add, Nat.reduceAdd, oR, mu2, c1, c2]
    · simp only [bind_ok, bind_exn, bindS_ok, bindS_exn, then_next, then_ret, then_brk, then_cont, then_exn, only_next, only_exn, run_nil, run_ret, run_retN, run_drop, run_if, run_asg, run_brk, run_cont, run_raise, run_gN, run_C, run_var, run_m2, run_lnil, run_lcons, run_tup, run_bool, run_tru, run_and, run_or, run_not, run_andV, run_orV, run_notV, run_ifE, run_chain, run_neg, run_sl, run_no, run_some, run_call, run_callF, run_meth, run_subM, run_par, run_par3, run_aug, run_itA, run_fld, run_fldM, run_tyes, fAdd_i, fSub_i, fLt_i, fLe_i, fGt_i, fGe_i, fEq_i, fNe_i, fAbs_i, fInt_i, fInt_b, fEq_s, fNe_s, fEq_b, fMax2_i, fMin2_i, fIAdd_i, fTru_b, fTru_i, run_methF, List.getElem?_cons_succ, List.getElem?_cons_zero, List.length_cons, List.length_nil, List.set_cons_succ, List.set_cons_zero, if_true, if_false, Bool.false_eq_true, Bool.not_true, Bool.not_false, decide_true, decide_false, ite_true, ite_false, Nat.zero_add, Nat.reduceAdd, oR, mu2, c1]
theorem check_run (n : Int) (h0 : 0 ≤ n) (h1 : n < 65536) (h : Hm) : f_check_word [.int n] h = .ok .non h := by
  refine call_next f_check_word_eq (e1 := [some (.int n)]) rfl ?_
  have t1 : fIsi "int" (.int n) h = .ok (.bl true) h := rfl
  have t2 : fIsi "bool" (.int n) h = .ok (.bl false) h := rfl
  unfold b_check_word
  simp only [bind_ok, bind_exn, bindS_ok, bindS_exn, then_next, then_ret, then_brk, then_cont, then_exn, only_next, only_exn, run_nil, run_ret, run_retN, run_drop, run_if, run_asg, run_brk, run_cont, run_raise, run_gN, run_C, run_var, run_m2, run_lnil, run_lcons, run_tup, run_bool, run_tru, run_and, run_or, run_not, run_andV, run_orV, run_notV, run_ifE, run_chain, run_neg, run_sl, run_no, run_some, run_call, run_callF, run_meth, run_subM, run_par, run_par3, run_aug, run_itA, run_fld, run_fldM, run_tyes, fAdd_i, fSub_i, fLt_i, fLe_i, fGt_i, fGe_i, fEq_i, fNe_i, fAbs_i, fInt_i, fInt_b, fEq_s, fNe_s, fEq_b, fMax2_i, fMin2_i, fIAdd_i, fTru_b, fTru_i, run_methF, List.getElem?_cons_succ, List.getElem?_cons_zero, List.length_cons, List.length_nil, List.set_cons_succ, List.set_cons_zero, if_true, if_false, Bool.false_eq_true, Bool.not_true, Bool.not_false, decide_true, decide_false, ite_true, ite_false, Nat.zero_add, Nat.reduceAdd, oR, startE, List.map_cons, List.map_nil, List.cons_append, mIsi, t1, t2, h0, h1]
  rfl
theorem check_out (n : Int) (hn : ¬ (0 ≤ n ∧ n < 65536)) (h : Hm) : f_check_word [.int n] h = .exn ⟨"BadOrder", []⟩ h := by
  refine call_exn f_check_word_eq (e1 := [some (.int n)]) rfl ?_
  have t1 : fIsi "int" (.int n) h = .ok (.bl true) h := rfl
  have t2 : fIsi "bool" (.int n) h = .ok (.bl false) h := rfl
  unfold b_check_word
  by_cases h0 : 0 ≤ n
  · have h1 : ¬ n < 65536 := fun z => hn ⟨h0, z⟩
    simp only [bind_ok, bind_exn, bindS_ok, bindS_exn, then_next, then_ret, then_brk, then_cont, then_exn, only_next, only_exn, run_nil, run_ret, run_retN, run_drop, run_if, run_asg, run_brk, run_cont, run_raise, run_gN, run_C, run_var, run_m2, run_lnil, run_lcons, run_tup, run_bool, run_tru, run_and, run_or, run_not, run_andV, run_orV, run_notV, run_ifE, run_chain, run_neg, run_sl, run_no, run_some, run_call, run_callF, run_meth, run_subM, run_par, run_par3, run_aug, run_itA, run_fld, run_fldM, run_tyes, fAdd_i, fSub_i, fLt_i, fLe_i, fGt_i, fGe_i, fEq_i, fNe_i, fAbs_i, fInt_i, fInt_b, fEq_s, fNe_s, fEq_b, fMax2_i, fMin2_i, fIAdd_i, fTru_b, fTru_i, run_methF, List.getElem?_cons_succ, List.getElem?_cons_zero, List.length_cons, List.length_nil, List.set_cons_succ, List.set_cons_zero, if_true, if_false, Bool.false_eq_true, Bool.not_true, Bool.not_false, decide_true, decide_false, ite_true, ite_false, Nat.zero_add, Nat.reduceAdd, oR, startE, List.map_cons, List.map_nil, List.cons_append, mIsi, t1, t2, h0, h1]
    rfl
  · simp only [bind_ok, bind_exn, bindS_ok, bindS_exn, then_next, then_ret, then_brk, then_cont, then_exn, only_next, only_exn, run_nil, run_ret, run_retN, run_drop, run_if, run_asg, run_brk, run_cont, run_raise, run_gN, run_C, run_var, run_m2, run_lnil, run_lcons, run_tup, run_bool, run_tru, run_and, run_or, run_not, run_andV, run_orV, run_notV, run_ifE, run_chain, run_neg, run_sl, run_no, run_some, run_call, run_callF, run_meth, run_subM, run_par, run_par3, run_aug, run_itA, run_fld, run_fldM, run_tyes, fAdd_i, fSub_i, fLt_i, fLe_i, fGt_i, fGe_i, fEq_i, fNe_i, fAbs_i, fInt_i, fInt_b, fEq_s, fNe_s, fEq_b, fMax2_i, fMin2_i, fIAdd_i, fTru_b, fTru_i, run_methF, List.getElem?_cons_succ, List.getElem?_cons_zero, List.length_cons, List.length_nil, List.set_cons_succ, List.set_cons_zero, if_true, if_false, Bool.false_eq_true, Bool.not_true, Bool.not_false, decide_true, decide_false, ite_true, ite_false, Nat.zero_add, Nat.reduceAdd, oR, startE, List.map_cons, List.map_nil, List.cons_append, mIsi, t1, t2, h0]
    rfl
theorem check_bad (d : D) (hd : d = .non ∨ d = .int (-1) ∨ d = .int 65536 ∨ d = .bl true ∨ d = .str "0") (h : Hm) : f_check_word [d] h = .exn ⟨"BadOrder", []⟩ h := by
  rcases hd with rfl | rfl | rfl | rfl | rfl
  · rw [f_check_word_eq]
    rfl
  · exact check_out _ (by omega) h
  · exact check_out _ (by omega) h
  · rw [f_check_word_eq]
    rfl
  · rw [f_check_word_eq]
    rfl
theorem fields_run {i : Nat} {h : Hm} (di : IsDice h i) (a : Int) : ∃ h', f__law_fields [.ref i, .int a] h = .ok (.bl true) h' ∧ IsDice h' i ∧ Fr i h h' := by
  obtain ⟨v, h1, v1, v2, rn1, d1, l1, f1⟩ := roll_fr di (show (0 : Int) < 12 by decide) (by decide)
  have r1 : f__law_roll [.ref i, .int 12] h = .ok (.int v) h1 := rn1
  refine ⟨h1, ?_, d1, f1⟩
  obtain ⟨m, hm, hlt⟩ : ∃ m : Nat, 1 + v = (m : Int) ∧ m ≤ 12 := ⟨(1 + v).toNat, by omega, by omega⟩
  obtain ⟨y, L⟩ := lfl_loop (h := h1) (x0 := some (.ref i)) (x1 := some (.int a)) (x2 := some (.int m)) (x5 := none) ((List.range m).map (fun k : Nat => D.int (0 + (k : Int)))) 1 none
  rw [List.length_map, List.length_range, Int.one_mul] at L
  have hp := p2pos m
  have S := str_run (a % 2 ^ m) m (by omega) h1
  have F1 := fld_run (strP (a % 2 ^ m) m) m (by omega) h1
  have F2 := fld_run (2 ^ m) m (by omega) h1
  unfold strP at S F1
  generalize (2 : Int) ^ m = z at L hp S F1 F2
  have n1 : 0 ≤ a % z := Int.emod_nonneg _ (by omega)
  have n2 : a % z < z := Int.emod_lt_of_pos _ hp
  have md := fMod_ok (x := a) (y := z) (h := h1) (by omega)
  rw [Int.fmod_eq_emod_of_nonneg _ (by omega)] at md
  obtain ⟨w, hw, w1, w2, w3, w4⟩ : ∃ w, (if z ≤ 2 * (a % z) then a % z - z else a % z) = w ∧ -z ≤ 2 * w ∧ 2 * w < z ∧ w % z = a % z ∧ (w - a % z) % z = 0 := by
    by_cases c : z ≤ 2 * (a % z)
    · refine ⟨_, if_pos c, by omega, by omega, ?_, ?_⟩
      · rw [Int.sub_emod_right, Int.emod_emod_of_dvd _ (Int.dvd_refl _)]
      · rw [show a % z - z - a % z = -z by omega, Int.neg_emod_self]
    · exact ⟨_, if_neg c, by omega, by omega, Int.emod_emod_of_dvd _ (Int.dvd_refl _), by rw [Int.sub_self, Int.zero_emod]⟩
  rw [hw] at S F1
  rw [if_pos ⟨w1, w2⟩, w3] at F1
  rw [if_neg (by omega)] at F2
  generalize a % z = n at *
  have md2 := fMod_ok (x := w - n) (y := z) (h := h1) (by omega)
  rw [Int.fmod_eq_emod_of_nonneg _ (by omega), w4] at md2
  refine call_ret f__law_fields_eq rfl (seq_next (e1 := [some (.ref i), some (.int a), some (.int m), none, none, none]) (h1 := h1) ?_ (seq_next (e1 := [some (.ref i), some (.int a), some (.int m), some (.int 1), none, none]) (h1 := h1) rfl (seq_next (for_run (rg1_run rfl (by omega)) L)
    (seq_next (e1 := [some (.ref i), some (.int a), some (.int m), some (.int z), y, some (.int n)]) (h1 := h1) ?_ (seq_next (e1 := [some (.ref i), some (.int a), some (.int m), some (.int z), y, some (.int n)]) (h1 := h1) ?_ (seq_next (e1 := [some (.ref i), some (.int a), some (.int m), some (.int z), y, some (.int n)]) (h1 := h1) ?_ (seq_next (e1 := [some (.ref i), some (.int a), some (.int m), some (.int z), y, some (.int n)]) (h1 := h1) ?_ rfl)))))))
  · show sAsg (gN 2) (m2 fAdd (mC (.int 1)) (mCallF 2 f__law_roll (mCons (mVar 0) (mCons (mC (.int 12)) mNil)))) [some (.ref i), some (.int a), none, none, none, none] h = _
    simp only [bind_ok, bind_exn, bindS_ok, bindS_exn, then_next, then_ret, then_brk, then_cont, then_exn, only_next, only_exn, run_nil, run_ret, run_retN, run_drop, run_if, run_asg, run_brk, run_cont, run_raise, run_gN, run_C, run_var, run_m2, run_lnil, run_lcons, run_tup, run_bool, run_tru, run_and, run_or, run_not, run_andV, run_orV, run_notV, run_ifE, run_chain, run_neg, run_sl, run_no, run_some, run_call, run_callF, run_meth, run_subM, run_par, run_par3, run_aug, run_itA, run_fld, run_fldM, run_tyes, fAdd_i, fSub_i, fLt_i, fLe_i, fGt_i, fGe_i, fEq_i, fNe_i, fAbs_i, fInt_i, fInt_b, fEq_s, fNe_s, fEq_b, fMax2_i, fMin2_i, fIAdd_i, fTru_b, fTru_i, run_methF, List.getElem?_cons_succ, List.getElem?_cons_zero, List.length_cons, List.length_nil, List.set_cons_succ, List.set_cons_zero, if_true, if_false, Bool.false_eq_true, Bool.not_true, Bool.not_false, decide_true, decide_false, ite_true, ite_false, Nat.zero_add, Nat.reduceAdd, oR, r1, hm]
  · simp only [bind_ok, bind_exn, bindS_ok, bindS_exn, then_next, then_ret, then_brk, then_cont, then_exn, only_next, only_exn, run_nil, run_ret, run_retN, run_drop, run_if, run_asg, run_brk, run_cont, run_raise, run_gN, run_C, run_var, run_m2, run_lnil, run_lcons, run_tup, run_bool, run_tru, run_and, run_or, run_not, run_andV, run_orV, run_notV, run_ifE, run_chain, run_neg, run_sl, run_no, run_some, run_call, run_callF, run_meth, run_subM, run_par, run_par3, run_aug, run_itA, run_fld, run_fldM, run_tyes, fAdd_i, fSub_i, fLt_i, fLe_i, fGt_i, fGe_i, fEq_i, fNe_i, fAbs_i, fInt_i, fInt_b, fEq_s, fNe_s, fEq_b, fMax2_i, fMin2_i, fIAdd_i, fTru_b, fTru_i, run_methF, List.getElem?_cons_succ, List.getElem?_cons_zero, List.length_cons, List.length_nil, List.set_cons_succ, List.set_cons_zero, if_true, if_false, Bool.false_eq_true, Bool.not_true, Bool.not_false, decide_true, decide_false, ite_true, ite_false, Nat.zero_add, Nat.reduceAdd, oR, md]
  · have k1 : 0 - z ≤ 2 * w := by omega
    simp only [bind_ok, bind_exn, bindS_ok, bindS_exn, then_next, then_ret, then_brk, then_cont, then_exn, only_next, only_exn, run_nil, run_ret, run_retN, run_drop, run_if, run_asg, run_brk, run_cont, run_raise, run_gN, run_C, run_var, run_m2, run_lnil, run_lcons, run_tup, run_bool, run_tru, run_and, run_or, run_not, run_andV, run_orV, run_notV, run_ifE, run_chain, run_neg, run_sl, run_no, run_some, run_call, run_callF, run_meth, run_subM, run_par, run_par3, run_aug, run_itA, run_fld, run_fldM, run_tyes, fAdd_i, fSub_i, fLt_i, fLe_i, fGt_i, fGe_i, fEq_i, fNe_i, fAbs_i, fInt_i, fInt_b, fEq_s, fNe_s, fEq_b, fMax2_i, fMin2_i, fIAdd_i, fTru_b, fTru_i, run_methF, List.getElem?_cons_succ, List.getElem?_cons_zero, List.length_cons, List.length_nil, List.set_cons_succ, List.set_cons_zero, if_true, if_false, Bool.false_eq_true, Bool.not_true, Bool.not_false, decide_true, decide_false, ite_true, ite_false, Nat.zero_add, Nat.reduceAdd, oR, S, md2, mu2, k1, w2]
  · simp only [bind_ok, bind_exn, bindS_ok, bindS_exn, then_next, then_ret, then_brk, then_cont, then_exn, only_next, only_exn, run_nil, run_ret, run_retN, run_drop, run_if, run_asg, run_brk, run_cont, run_raise, run_gN, run_C, run_var, run_m2, run_lnil, run_lcons, run_tup, run_bool, run_tru, run_and, run_or, run_not, run_andV, run_orV, run_notV, run_ifE, run_chain, run_neg, run_sl, run_no, run_some, run_call, run_callF, run_meth, run_subM, run_par, run_par3, run_aug, run_itA, run_fld, run_fldM, run_tyes, fAdd_i, fSub_i, fLt_i, fLe_i, fGt_i, fGe_i, fEq_i, fNe_i, fAbs_i, fInt_i, fInt_b, fEq_s, fNe_s, fEq_b, fMax2_i, fMin2_i, fIAdd_i, fTru_b, fTru_i, run_methF, List.getElem?_cons_succ, List.getElem?_cons_zero, List.length_cons, List.length_nil, List.set_cons_succ, List.set_cons_zero, if_true, if_false, Bool.false_eq_true, Bool.not_true, Bool.not_false, decide_true, decide_false, ite_true, ite_false, Nat.zero_add, Nat.reduceAdd, oR, S, F1]
  · have t : mTold told_cs (mCallF 2 f_field (mCons (mVar 3) (mCons (mVar 2) mNil))) [some (.ref i), some (.int a), some (.int m), some (.int z), y, some (.int n)] h1 = .ok (.str "order") h1 := by
      refine told_exn (x := ⟨"BadOrder", []⟩) ?_ rfl
      simp only [bind_ok, bind_exn, bindS_ok, bindS_exn, then_next, then_ret, then_brk, then_cont, then_exn, only_next, only_exn, run_nil, run_ret, run_retN, run_drop, run_if, run_asg, run_brk, run_cont, run_raise, run_gN, run_C, run_var, run_m2, run_lnil, run_lcons, run_tup, run_bool, run_tru, run_and, run_or, run_not, run_andV, run_orV, run_notV, run_ifE, run_chain, run_neg, run_sl, run_no, run_some, run_call, run_callF, run_meth, run_subM, run_par, run_par3, run_aug, run_itA, run_fld, run_fldM, run_tyes, fAdd_i, fSub_i, fLt_i, fLe_i, fGt_i, fGe_i, fEq_i, fNe_i, fAbs_i, fInt_i, fInt_b, fEq_s, fNe_s, fEq_b, fMax2_i, fMin2_i, fIAdd_i, fTru_b, fTru_i, run_methF, List.getElem?_cons_succ, List.getElem?_cons_zero, List.length_cons, List.length_nil, List.set_cons_succ, List.set_cons_zero, if_true, if_false, Bool.false_eq_true, Bool.not_true, Bool.not_false, decide_true, decide_false, ite_true, ite_false, Nat.zero_add, Nat.reduceAdd, oR, F2]
    simp only [bind_ok, bind_exn, bindS_ok, bindS_exn, then_next, then_ret, then_brk, then_cont, then_exn, only_next, only_exn, run_nil, run_ret, run_retN, run_drop, run_if, run_asg, run_brk, run_cont, run_raise, run_gN, run_C, run_var, run_m2, run_lnil, run_lcons, run_tup, run_bool, run_tru, run_and, run_or, run_not, run_andV, run_orV, run_notV, run_ifE, run_chain, run_neg, run_sl, run_no, run_some, run_call, run_callF, run_meth, run_subM, run_par, run_par3, run_aug, run_itA, run_fld, run_fldM, run_tyes, fAdd_i, fSub_i, fLt_i, fLe_i, fGt_i, fGe_i, fEq_i, fNe_i, fAbs_i, fInt_i, fInt_b, fEq_s, fNe_s, fEq_b, fMax2_i, fMin2_i, fIAdd_i, fTru_b, fTru_i, run_methF, List.getElem?_cons_succ, List.getElem?_cons_zero, List.length_cons, List.length_nil, List.set_cons_succ, List.set_cons_zero, if_true, if_false, Bool.false_eq_true, Bool.not_true, Bool.not_false, decide_true, decide_false, ite_true, ite_false, Nat.zero_add, Nat.reduceAdd, oR, t]
theorem word_lc {i ρ : Nat} {env : Ev} (hl : env.length = 12) (h1 : env[1]? = some (some (.ref i))) (h2 : env[2]? = some (some (.ref ρ))) (ne : ρ ≠ i) : ∀ (ds : List D) (h : Hm), IsDice h i → h[ρ]? = some (.lst [.int 0, .int 1, .int 32767, .int 32768, .int 65535]) →
    ∃ (vs : List Int) (h' : Hm), lcL [] (gN 11) tYesM (mIf (mBool (m2 fEq (mCallF 2 f__law_roll (mCons (mVar 1) (mCons (mC (.int 3)) mNil))) (mC (.int 0)))) (m2 fIx (mVar 2) (mCallF 2 f__law_roll (mCons (mVar 1) (mCons (mC (.int 5)) mNil)))) (mCallF 2 f__law_roll (mCons (mVar 1) (mCons (mC (.int 65536)) mNil)))) env ds h = .ok (vs.map D.int) h' ∧ (∀ v ∈ vs, 0 ≤ v ∧ v < 65536) ∧ vs.length = ds.length ∧ IsDice h' i ∧ Fr i h h'
  | [], h, di, er => ⟨[], h, by simp [lcL, gdOk], fun v hv => (by cases hv), rfl, di, Fr.refl⟩
  | d :: ds, h, di, er => by
    obtain ⟨v, ha, v1, v2, rna, da, la, fa⟩ := roll_fr di (show (0 : Int) < 3 by decide) (by decide)
    have ra : f__law_roll [.ref i, .int 3] h = .ok (.int v) ha := rna
    have s1 : (env.set 11 (some d))[1]? = some (some (.ref i)) := by rw [List.getElem?_set_ne (by decide)]; exact h1
    have s2 : (env.set 11 (some d))[2]? = some (some (.ref ρ)) := by rw [List.getElem?_set_ne (by decide)]; exact h2
    obtain ⟨w, hb, tn, w1, w2, db, fb⟩ : ∃ (w : Int) (hb : Hm), lcTurn (gN 11) tYesM (mIf (mBool (m2 fEq (mCallF 2 f__law_roll (mCons (mVar 1) (mCons (mC (.int 3)) mNil))) (mC (.int 0)))) (m2 fIx (mVar 2) (mCallF 2 f__law_roll (mCons (mVar 1) (mCons (mC (.int 5)) mNil)))) (mCallF 2 f__law_roll (mCons (mVar 1) (mCons (mC (.int 65536)) mNil)))) env d h = .ok (some (.int w)) hb ∧ 0 ≤ w ∧ w < 65536 ∧ IsDice hb i ∧ Fr i h hb := by
      by_cases c : v = 0
      · obtain ⟨u, hb, u1, u2, rnb, db, lb, fb⟩ := roll_fr da (show (0 : Int) < 5 by decide) (by decide)
        have rb : f__law_roll [.ref i, .int 5] ha = .ok (.int u) hb := rnb
        have eb := (fa.trans fb).get er ne
        obtain ⟨x, ix, x1, x2⟩ : ∃ x : Int, fIx (.ref ρ) (.int u) hb = .ok (.int x) hb ∧ 0 ≤ x ∧ x < 65536 := by
          have : u = 0 ∨ u = 1 ∨ u = 2 ∨ u = 3 ∨ u = 4 := by omega
          rcases this with rfl | rfl | rfl | rfl | rfl
          · exact ⟨_, fIx_int eb (by decide) rfl, by decide, by decide⟩
          · exact ⟨_, fIx_int eb (by decide) rfl, by decide, by decide⟩
          · exact ⟨_, fIx_int eb (by decide) rfl, by decide, by decide⟩
          · exact ⟨_, fIx_int eb (by decide) rfl, by decide, by decide⟩
          · exact ⟨_, fIx_int eb (by decide) rfl, by decide, by decide⟩
        refine ⟨x, hb, ?_, x1, x2, db, fa.trans fb⟩
        unfold lcTurn
        simp only [bind_ok, bind_exn, bindS_ok, bindS_exn, then_next, then_ret, then_brk, then_cont, then_exn, only_next, only_exn, run_nil, run_ret, run_retN, run_drop, run_if, run_asg, run_brk, run_cont, run_raise, run_gN, run_C, run_var, run_m2, run_lnil, run_lcons, run_tup, run_bool, run_tru, run_and, run_or, run_not, run_andV, run_orV, run_notV, run_ifE, run_chain, run_neg, run_sl, run_no, run_some, run_call, run_callF, run_meth, run_subM, run_par, run_par3, run_aug, run_itA, run_fld, run_fldM, run_tyes, fAdd_i, fSub_i, fLt_i, fLe_i, fGt_i, fGe_i, fEq_i, fNe_i, fAbs_i, fInt_i, fInt_b, fEq_s, fNe_s, fEq_b, fMax2_i, fMin2_i, fIAdd_i, fTru_b, fTru_i, run_methF, List.getElem?_cons_succ, List.getElem?_cons_zero, List.length_cons, List.length_nil, List.set_cons_succ, List.set_cons_zero, if_true, if_false, Bool.false_eq_true, Bool.not_true, Bool.not_false, decide_true, decide_false, ite_true, ite_false, Nat.zero_add, Nat.reduceAdd, oR, s1, s2, ra, rb, ix, c]
      · obtain ⟨u, hb, u1, u2, rnb, db, lb, fb⟩ := roll_fr da (show (0 : Int) < 65536 by decide) (by decide)
        have rb : f__law_roll [.ref i, .int 65536] ha = .ok (.int u) hb := rnb
        refine ⟨u, hb, ?_, u1, u2, db, fa.trans fb⟩
        unfold lcTurn
        simp only [bind_ok, bind_exn, bindS_ok, bindS_exn, then_next, then_ret, then_brk, then_cont, then_exn, only_next, only_exn, run_nil, run_ret, run_retN, run_drop, run_if, run_asg, run_brk, run_cont, run_raise, run_gN, run_C, run_var, run_m2, run_lnil, run_lcons, run_tup, run_bool, run_tru, run_and, run_or, run_not, run_andV, run_orV, run_notV, run_ifE, run_chain, run_neg, run_sl, run_no, run_some, run_call, run_callF, run_meth, run_subM, run_par, run_par3, run_aug, run_itA, run_fld, run_fldM, run_tyes, fAdd_i, fSub_i, fLt_i, fLe_i, fGt_i, fGe_i, fEq_i, fNe_i, fAbs_i, fInt_i, fInt_b, fEq_s, fNe_s, fEq_b, fMax2_i, fMin2_i, fIAdd_i, fTru_b, fTru_i, run_methF, List.getElem?_cons_succ, List.getElem?_cons_zero, List.length_cons, List.length_nil, List.set_cons_succ, List.set_cons_zero, if_true, if_false, Bool.false_eq_true, Bool.not_true, Bool.not_false, decide_true, decide_false, ite_true, ite_false, Nat.zero_add, Nat.reduceAdd, oR, s1, s2, ra, rb, c]
    obtain ⟨vs, h', run, bd, len, d', f'⟩ := word_lc hl h1 h2 ne ds hb db (fb.get er ne)
    refine ⟨w :: vs, h', ?_, fun u hu => ?_, by rw [List.length_cons, List.length_cons, len], d', fb.trans f'⟩
    · rw [lcL_cons (by simp [gdOk]) tn, run]
      rfl
    · rcases List.mem_cons.mp hu with rfl | hu
      · exact ⟨w1, w2⟩
      · exact bd u hu
theorem range_zip {f : Int → Int → Int} : ∀ l m : List Int, l.length = m.length → (List.range l.length).map (fun k => f (l.getD k 0) (m.getD k 0)) = (l.zip m).map fun p => f p.1 p.2
  | [], _, _ => by simp
  | _ :: _, [], h => by cases h
  | x :: l, y :: m, h => by
    have ih := range_zip (f := f) l m (Nat.succ.inj h)
    rw [List.length_cons, List.range_succ_eq_map, List.map_cons, List.map_map, List.zip_cons_cons, List.map_cons, ← ih]
    rfl
theorem zip_lc {h : Hm} {l m : List Int} {env : Ev} {e : Ev → Hm → R D} {f : Int → Int → Int} (hl : env.length = 12) (l16 : l.length = 16) (m16 : m.length = 16) (w : ∀ (g : Hm) (k : Nat), k < 16 → lcTurn (gN 11) tYesM e (wipeE env [11]) (.int (0 + (k : Int))) (h ++ g) = .ok (some (.int (f (l.getD k 0) (m.getD k 0)))) (h ++ g)) :
    Pu (mLc [11] (mRg1 (mCons (mC (.int 16)) mNil)) (gN 11) tYesM e) env h (IsL (((l.zip m).map fun p => f p.1 p.2).map D.int)) := by
  have R := pu_lc (env := env) (h := h) (vs := [11]) (m := mRg1 (mCons (mC (.int 16)) mNil)) (g := gN 11) (t := tYesM) (a := e) (gs := []) (fun k : Nat => D.int (0 + (k : Int))) (fun k => some (.int (f (l.getD k 0) (m.getD k 0)))) (List.range 16) (by decide) ⟨[], by rw [List.append_nil]; exact ⟨rgc_run (n := 16) (by decide), gdOk_nil⟩⟩
    fun g k hk => w g k (List.mem_range.mp hk)
  have := range_zip (f := f) l m (l16.trans m16.symm)
  rw [l16] at this
  rw [← this, List.map_map, ← List.filterMap_eq_map]
  exact R
theorem bits_get : ∀ (n : Nat) (a : Int) (k : Nat), k < n → (bitsL n a)[k]? = some (a / 2 ^ k % 2)
  | 0, _, _, h => by omega
  | n + 1, a, 0, _ => by
    rw [bitsL, List.getElem?_cons_zero, show (2 : Int) ^ 0 = 1 from rfl, Int.ediv_one]
  | n + 1, a, k + 1, h => by
    rw [bitsL, List.getElem?_cons_succ, bits_get n _ k (by omega), Int.pow_succ, Int.mul_comm, dd]
theorem p16 : (2 : Int) ^ 16 = 65536 := by decide
theorem p15 : (2 : Int) ^ 15 = 32768 := by decide
theorem bits16 (a : Int) : bitsL 16 (a % 65536) = bitsL 16 a := by rw [← p16]; exact bits_mod 16 a
theorem sgn_mod (a : Int) (h0 : 0 ≤ a) (h1 : a < 65536) : sgn a % 65536 = a := by
  unfold sgn
  by_cases c : 32768 ≤ a
  · rw [if_pos c]; omega
  · rw [if_neg c]; omega
theorem bits_either (a b : Int) (a0 : 0 ≤ a) (a1 : a < 65536) (b0 : 0 ≤ b) (b1 : b < 65536) : bitsL 16 (a + b - valL (shL a b)) = ((bitsL 16 a).zip (bitsL 16 b)).map fun p => if p.2 > p.1 then p.2 else p.1 := by
  have v := val_zip (fun x y => if y > x then y else x) 1 (fun x y hx hy => by rcases hx with rfl | rfl <;> rcases hy with rfl | rfl <;> decide) (bitsL 16 a) (bitsL 16 b) (by rw [bitsL_len, bitsL_len]) (bitsL_bits _ _) (bitsL_bits _ _)
  rw [val_bits 16 a a0 (by rw [p16]; exact a1), val_bits 16 b b0 (by rw [p16]; exact b1), Int.one_mul] at v
  have B : Bits (((bitsL 16 a).zip (bitsL 16 b)).map fun p => if p.2 > p.1 then p.2 else p.1) := fun x hx => by
    obtain ⟨p, hp, rfl⟩ := List.mem_map.mp hx
    have z := zip_mem hp
    rcases z.1 with e | e <;> rcases z.2 with e' | e' <;> rw [e, e'] <;> decide
  have l : (((bitsL 16 a).zip (bitsL 16 b)).map fun p => if p.2 > p.1 then p.2 else p.1).length = 16 := by rw [List.length_map, List.length_zip, bitsL_len, bitsL_len]; rfl
  have := bits_val _ B
  rw [l] at this
  show bitsL 16 (a + b - valL (((bitsL 16 a).zip (bitsL 16 b)).map fun p => p.1 * p.2)) = _
  rw [← v]
  exact this
theorem bits_unlike (a b : Int) (a0 : 0 ≤ a) (a1 : a < 65536) (b0 : 0 ≤ b) (b1 : b < 65536) : bitsL 16 (a + b - 2 * valL (shL a b)) = ((bitsL 16 a).zip (bitsL 16 b)).map fun p => (p.1 + p.2) % 2 := by
  have v := val_zip (fun x y => (x + y) % 2) 2 (fun x y hx hy => by rcases hx with rfl | rfl <;> rcases hy with rfl | rfl <;> decide) (bitsL 16 a) (bitsL 16 b) (by rw [bitsL_len, bitsL_len]) (bitsL_bits _ _) (bitsL_bits _ _)
  rw [val_bits 16 a a0 (by rw [p16]; exact a1), val_bits 16 b b0 (by rw [p16]; exact b1)] at v
  have B : Bits (((bitsL 16 a).zip (bitsL 16 b)).map fun p => (p.1 + p.2) % 2) := fun x hx => by
    obtain ⟨p, hp, rfl⟩ := List.mem_map.mp hx
    have z := zip_mem hp
    rcases z.1 with e | e <;> rcases z.2 with e' | e' <;> rw [e, e'] <;> decide
  have l : (((bitsL 16 a).zip (bitsL 16 b)).map fun p => (p.1 + p.2) % 2).length = 16 := by rw [List.length_map, List.length_zip, bitsL_len, bitsL_len]; rfl
  have := bits_val _ B
  rw [l] at this
  show bitsL 16 (a + b - 2 * valL (((bitsL 16 a).zip (bitsL 16 b)).map fun p => p.1 * p.2)) = _
  rw [← v]
  exact this
theorem bits_shared (a b : Int) : bitsL 16 (valL (shL a b)) = shL a b := by
  have := bits_val _ (sh_bits a b)
  rw [sh_len] at this
  exact this
theorem bits_upN (m : Nat) (a : Int) (hm : m < 16) : bitsL 16 (upN m a) = List.replicate m 0 ++ (bitsL 16 a).take (16 - m) := by
  rw [← bits16, upN_eq, bits16, bits_up m 16 a (by omega)]
theorem bits_down (m : Nat) (a : Int) (hm : m < 16) (a0 : 0 ≤ a) (a1 : a < 65536) : bitsL 16 (a / 2 ^ m) = (bitsL 16 a).drop m ++ List.replicate m 0 := by
  rw [bits_drop, bits_split, List.drop_append_of_le_length (by rw [bitsL_len]; omega), p16, show a / 65536 = 0 by omega, bits_zero]
theorem bits_downs (m : Nat) (a : Int) (hm : m < 16) (a0 : 0 ≤ a) (a1 : a < 65536) : bitsL 16 (sgn a / 2 ^ m % 65536) = (bitsL 16 a).drop m ++ List.replicate m (a / 2 ^ 15 % 2) := by
  rw [bits16, bits_drop, bits_split, List.drop_append_of_le_length (by rw [bitsL_len]; omega), p16, p15]
  have e : bitsL 16 (sgn a) = bitsL 16 a := by rw [← bits16, sgn_mod a a0 a1]
  rw [e]
  unfold sgn
  by_cases c : 32768 ≤ a
  · rw [if_pos c, show (a - 65536) / 65536 = -1 by omega, bits_neg, show a / 32768 % 2 = 1 by omega]
  · rw [if_neg c, show a / 65536 = 0 by omega, bits_zero, show a / 32768 % 2 = 0 by omega]
theorem rep_flat (d : D) : ∀ m : Nat, (List.replicate m [d]).flatten = List.replicate m d
  | 0 => rfl
  | m + 1 => by rw [List.replicate_succ, List.flatten_cons, rep_flat d m, List.replicate_succ]; rfl
theorem sgn_if (a : Int) : (if a < 32768 then a else a - 65536) = sgn a := by
  unfold sgn
  by_cases c : a < 32768
  · rw [if_pos c, if_neg (by omega)]
  · rw [if_neg c, if_pos (by omega)]
theorem q2_run (d x1 x2 x5 x6 x7 x8 x9 x10 x11 : Option D) (a b : Int) (h : Hm) : q_2 [d, x1, x2, some (.int a), some (.int b), x5, x6, x7, x8, x9, x10, x11] h = .next [d, x1, x2, some (.int a), some (.int b), some (.int (sgn a)), some (.int (sgn b)), x7, x8, x9, x10, x11] h := by
  have go : ∀ (k : Nat) (a : Int) (env : Ev), env[k]? = some (some (.int a)) → mIf (mBool (m2 fLt (mVar k) (mC (.int 32768)))) (mVar k) (m2 fSub (mVar k) (mC (.int 65536))) env h = .ok (.int (sgn a)) h := fun k a env e => by
    rw [← sgn_if]
    by_cases c : a < 32768
    · simp only [bind_ok, bind_exn, bindS_ok, bindS_exn, then_next, then_ret, then_brk, then_cont, then_exn, only_next, only_exn, run_nil, run_ret, run_retN, run_drop, run_if, run_asg, run_brk, run_cont, run_raise, run_gN, run_C, run_var, run_m2, run_lnil, run_lcons, run_tup, run_bool, run_tru, run_and, run_or, run_not, run_andV, run_orV, run_notV, run_ifE, run_chain, run_neg, run_sl, run_no, run_some, run_call, run_callF, run_meth, run_subM, run_par, run_par3, run_aug, run_itA, run_fld, run_fldM, run_tyes, fAdd_i, fSub_i, fLt_i, fLe_i, fGt_i, fGe_i, fEq_i, fNe_i, fAbs_i, fInt_i, fInt_b, fEq_s, fNe_s, fEq_b, fMax2_i, fMin2_i, fIAdd_i, fTru_b, fTru_i, run_methF, List.getElem?_cons_succ, List.getElem?_cons_zero, List.length_cons, List.length_nil, List.set_cons_succ, List.set_cons_zero, if_true, if_false, Bool.false_eq_true, Bool.not_true, Bool.not_false, decide_true, decide_false, ite_true, ite_false, Nat.zero_add, Nat.reduceAdd, oR, e, c]
    · simp only [bind_ok, bind_exn, bindS_ok, bindS_exn, then_next, then_ret, then_brk, then_cont, then_exn, only_next, only_exn, run_nil, run_ret, run_retN, run_drop, run_if, run_asg, run_brk, run_cont, run_raise, run_gN, run_C, run_var, run_m2, run_lnil, run_lcons, run_tup, run_bool, run_tru, run_and, run_or, run_not, run_andV, run_orV, run_notV, run_ifE, run_chain, run_neg, run_sl, run_no, run_some, run_call, run_callF, run_meth, run_subM, run_par, run_par3, run_aug, run_itA, run_fld, run_fldM, run_tyes, fAdd_i, fSub_i, fLt_i, fLe_i, fGt_i, fGe_i, fEq_i, fNe_i, fAbs_i, fInt_i, fInt_b, fEq_s, fNe_s, fEq_b, fMax2_i, fMin2_i, fIAdd_i, fTru_b, fTru_i, run_methF, List.getElem?_cons_succ, List.getElem?_cons_zero, List.length_cons, List.length_nil, List.set_cons_succ, List.set_cons_zero, if_true, if_false, Bool.false_eq_true, Bool.not_true, Bool.not_false, decide_true, decide_false, ite_true, ite_false, Nat.zero_add, Nat.reduceAdd, oR, e, c]
  unfold q_2
  have g1 := go 3 a [d, x1, x2, some (.int a), some (.int b), x5, x6, x7, x8, x9, x10, x11] rfl
  have g2 := go 4 b [d, x1, x2, some (.int a), some (.int b), x5, x6, x7, x8, x9, x10, x11] rfl
  simp only [run_par, run_lcons, g1, bind_ok, g2, run_lnil, bindS_ok, List.set_cons_succ, List.set_cons_zero]
theorem e3 (a b : Int) : ((a + b) % 65536 - a - b) % 65536 = 0 := by omega
theorem e4 (a b : Int) : ((a - b) % 65536 - a + b) % 65536 = 0 := by omega
section
variable {d x5 x6 x9 x10 x11 : Option D} {i ρ X Y : Nat} {a b : Int} {h : Hm}
variable (a0 : 0 ≤ a) (a1 : a < 65536) (b0 : 0 ≤ b) (b1 : b < 65536)
theorem q3_run {x1 x2 x7 x8 : Option D} : q_3 [d, x1, x2, some (.int a), some (.int b), x5, x6, x7, x8, x9, x10, x11] h = .next [d, x1, x2, some (.int a), some (.int b), x5, x6, x7, x8, x9, x10, x11] h := by
  have m1 := fMod_ok (x := (a + b) % 65536 - a - b) (y := 65536) (h := h) (by decide)
  have m2 := fMod_ok (x := (a - b) % 65536 - a + b) (y := 65536) (h := h) (by decide)
  rw [fm16, e3] at m1
  rw [fm16, e4] at m2
  unfold q_3
  simp only [bind_ok, bind_exn, bindS_ok, bindS_exn, then_next, then_ret, then_brk, then_cont, then_exn, only_next, only_exn, run_nil, run_ret, run_retN, run_drop, run_if, run_asg, run_brk, run_cont, run_raise, run_gN, run_C, run_var, run_m2, run_lnil, run_lcons, run_tup, run_bool, run_tru, run_and, run_or, run_not, run_andV, run_orV, run_notV, run_ifE, run_chain, run_neg, run_sl, run_no, run_some, run_call, run_callF, run_meth, run_subM, run_par, run_par3, run_aug, run_itA, run_fld, run_fldM, run_tyes, fAdd_i, fSub_i, fLt_i, fLe_i, fGt_i, fGe_i, fEq_i, fNe_i, fAbs_i, fInt_i, fInt_b, fEq_s, fNe_s, fEq_b, fMax2_i, fMin2_i, fIAdd_i, fTru_b, fTru_i, run_methF, List.getElem?_cons_succ, List.getElem?_cons_zero, List.length_cons, List.length_nil, List.set_cons_succ, List.set_cons_zero, if_true, if_false, Bool.false_eq_true, Bool.not_true, Bool.not_false, decide_true, decide_false, ite_true, ite_false, Nat.zero_add, Nat.reduceAdd, oR, add_run, less_run, m1, m2]
include a0 a1 b0 b1
theorem q4_run {x1 x2 x7 x8 : Option D} : q_4 [d, x1, x2, some (.int a), some (.int b), some (.int (sgn a)), x6, x7, x8, x9, x10, x11] h = .next [d, x1, x2, some (.int a), some (.int b), some (.int (sgn a)), x6, x7, x8, x9, x10, x11] h := by
  have c : CMul a b := .inl ⟨by omega, by omega⟩
  have m1 := fMod_ok (x := a * b) (y := 65536) (h := h) (by decide)
  have mu := fMul_ok (h := h) c
  have ti := times_run a b h c
  rw [fm16] at m1
  have w : (a + 65536) % 65536 = a := by omega
  unfold q_4
  simp only [bind_ok, bind_exn, bindS_ok, bindS_exn, then_next, then_ret, then_brk, then_cont, then_exn, only_next, only_exn, run_nil, run_ret, run_retN, run_drop, run_if, run_asg, run_brk, run_cont, run_raise, run_gN, run_C, run_var, run_m2, run_lnil, run_lcons, run_tup, run_bool, run_tru, run_and, run_or, run_not, run_andV, run_orV, run_notV, run_ifE, run_chain, run_neg, run_sl, run_no, run_some, run_call, run_callF, run_meth, run_subM, run_par, run_par3, run_aug, run_itA, run_fld, run_fldM, run_tyes, fAdd_i, fSub_i, fLt_i, fLe_i, fGt_i, fGe_i, fEq_i, fNe_i, fAbs_i, fInt_i, fInt_b, fEq_s, fNe_s, fEq_b, fMax2_i, fMin2_i, fIAdd_i, fTru_b, fTru_i, run_methF, List.getElem?_cons_succ, List.getElem?_cons_zero, List.length_cons, List.length_nil, List.set_cons_succ, List.set_cons_zero, if_true, if_false, Bool.false_eq_true, Bool.not_true, Bool.not_false, decide_true, decide_false, ite_true, ite_false, Nat.zero_add, Nat.reduceAdd, oR, ti, mu, m1, signed_run, word_run, sgn_mod a a0 a1, w]
omit a0 a1 b0 b1 in
theorem q5_run {x1 x2 x7 x8 : Option D} : q_5 [d, x1, x2, some (.int a), some (.int b), x5, x6, x7, x8, x9, x10, x11] h = .next [d, x1, x2, some (.int a), some (.int b), x5, x6, some (.ref h.length), some (.ref (h.length + 1)), x9, x10, x11] (h ++ [.lst ((bitsL 16 a).map D.int), .lst ((bitsL 16 b).map D.int)]) := by
  have l1 := lbits_run a h
  have l2 := lbits_run b (h ++ [.lst ((bitsL 16 a).map D.int)])
  rw [List.length_append, List.length_singleton, List.append_assoc] at l2
  unfold q_5
  simp only [bind_ok, bind_exn, bindS_ok, bindS_exn, then_next, then_ret, then_brk, then_cont, then_exn, only_next, only_exn, run_nil, run_ret, run_retN, run_drop, run_if, run_asg, run_brk, run_cont, run_raise, run_gN, run_C, run_var, run_m2, run_lnil, run_lcons, run_tup, run_bool, run_tru, run_and, run_or, run_not, run_andV, run_orV, run_notV, run_ifE, run_chain, run_neg, run_sl, run_no, run_some, run_call, run_callF, run_meth, run_subM, run_par, run_par3, run_aug, run_itA, run_fld, run_fldM, run_tyes, fAdd_i, fSub_i, fLt_i, fLe_i, fGt_i, fGe_i, fEq_i, fNe_i, fAbs_i, fInt_i, fInt_b, fEq_s, fNe_s, fEq_b, fMax2_i, fMin2_i, fIAdd_i, fTru_b, fTru_i, run_methF, List.getElem?_cons_succ, List.getElem?_cons_zero, List.length_cons, List.length_nil, List.set_cons_succ, List.set_cons_zero, if_true, if_false, Bool.false_eq_true, Bool.not_true, Bool.not_false, decide_true, decide_false, ite_true, ite_false, Nat.zero_add, Nat.reduceAdd, oR, l1, l2, gU, gsCons, gsNil]
  rfl
omit b0 b1 in
theorem q6_run {x1 x2 x8 : Option D} (eX : h[X]? = some (.lst ((bitsL 16 a).map D.int))) : Ps q_6 [d, x1, x2, some (.int a), some (.int b), x5, x6, some (.ref X), x8, x9, x10, x11] h [d, x1, x2, some (.int a), some (.int b), x5, x6, some (.ref X), x8, x9, x10, x11] := by
  refine ps_no (pt_or (pt_neL (pu_listT (pu_call1 (pu_var rfl) fun h x e => ?_)) fun g => pu_varL rfl (keep_app eX)) fun g => pt_neI (pu_call1 (pu_varL rfl (keep_app eX)) fun h x ⟨r, e, q⟩ => ?_) fun g => pu_var rfl)
  · obtain ⟨g, B⟩ := bits_run a h
    exact ⟨_, g, by rw [show x = _ from e]; exact B, rfl⟩
  · refine ⟨.int a, [], ?_, rfl⟩
    rw [e, of_run q, List.append_nil, val_bits 16 a a0 (by rw [p16]; exact a1)]
omit a0 a1 b0 b1 in
theorem pu_bits {e : Ev → Hm → R D} {env : Ev} {z : Int} {h : Hm} (he : Pu e env h (Is (.int z))) : Pu (mCallF 1 f_bits_of (mCons e mNil)) env h (Is (.tup ((bitsL 16 z).map D.int))) := pu_call1 he fun h x e => by
  obtain ⟨g, B⟩ := bits_run z h
  exact ⟨_, g, by rw [show x = _ from e]; exact B, rfl⟩
omit a0 a1 b0 b1 in
theorem get_d {l : List Int} {k : Nat} (hk : k < l.length) : (l.map D.int)[k]? = some (.int (l.getD k 0)) := by
  rw [List.getElem?_map, List.getElem?_eq_getElem hk, List.getD_eq_getElem?_getD, List.getElem?_eq_getElem hk]
  rfl
section
variable (eX : h[X]? = some (.lst ((bitsL 16 a).map D.int))) (eY : h[Y]? = some (.lst ((bitsL 16 b).map D.int)))
include eX eY
omit a0 a1 b0 b1 in
theorem q7_run {x1 x2 : Option D} : Ps q_7 [d, x1, x2, some (.int a), some (.int b), x5, x6, some (.ref X), some (.ref Y), x9, x10, x11] h [d, x1, x2, some (.int a), some (.int b), x5, x6, some (.ref X), some (.ref Y), x9, x10, x11] := by
  refine ps_no (pt_neT (l := shL a b) ?_ fun g => pu_tupL (zip_lc (f := fun x y => x * y) rfl (bitsL_len 16 a) (bitsL_len 16 b) fun g2 k hk => ?_))
  · rw [← bits_shared a b]
    refine pu_bits (pu_call2 (pu_var rfl) (fun g => pu_var rfl) mono_is fun h x y e1 e2 => ?_)
    obtain ⟨g, S⟩ := shared_run a b h
    exact ⟨_, g, by rw [show x = _ from e1, show y = _ from e2, S], rfl⟩
  · have ix := fIx_lst (keep_app (g := g2) (keep_app (g := g) eX)) (get_d (by rw [bitsL_len]; exact hk))
    have iy := fIx_lst (keep_app (g := g2) (keep_app (g := g) eY)) (get_d (by rw [bitsL_len]; exact hk))
    have bx := bitsL_bits 16 a ((bitsL 16 a).getD k 0) (by rw [List.getD_eq_getElem?_getD, List.getElem?_eq_getElem (by rw [bitsL_len]; exact hk)]; exact List.getElem_mem _)
    have c : CMul ((bitsL 16 a).getD k 0) ((bitsL 16 b).getD k 0) := .inl (by rcases bx with e | e <;> rw [e] <;> exact ⟨by decide, by decide⟩)
    have mu := fMul_ok (h := h ++ g ++ g2) c
    generalize (bitsL 16 a).getD k 0 = u at *
    generalize (bitsL 16 b).getD k 0 = v at *
    simp only [lcTurn, wipeE, List.set_cons_succ, List.set_cons_zero, Int.zero_add]
    simp only [bind_ok, bind_exn, bindS_ok, bindS_exn, then_next, then_ret, then_brk, then_cont, then_exn, only_next, only_exn, run_nil, run_ret, run_retN, run_drop, run_if, run_asg, run_brk, run_cont, run_raise, run_gN, run_C, run_var, run_m2, run_lnil, run_lcons, run_tup, run_bool, run_tru, run_and, run_or, run_not, run_andV, run_orV, run_notV, run_ifE, run_chain, run_neg, run_sl, run_no, run_some, run_call, run_callF, run_meth, run_subM, run_par, run_par3, run_aug, run_itA, run_fld, run_fldM, run_tyes, fAdd_i, fSub_i, fLt_i, fLe_i, fGt_i, fGe_i, fEq_i, fNe_i, fAbs_i, fInt_i, fInt_b, fEq_s, fNe_s, fEq_b, fMax2_i, fMin2_i, fIAdd_i, fTru_b, fTru_i, run_methF, List.getElem?_cons_succ, List.getElem?_cons_zero, List.length_cons, List.length_nil, List.set_cons_succ, List.set_cons_zero, if_true, if_false, Bool.false_eq_true, Bool.not_true, Bool.not_false, decide_true, decide_false, ite_true, ite_false, Nat.zero_add, Nat.reduceAdd, oR, ix, iy, mu]
include a0 a1 b0 b1
theorem q8_run {x1 x2 : Option D} : Ps q_8 [d, x1, x2, some (.int a), some (.int b), x5, x6, some (.ref X), some (.ref Y), x9, x10, x11] h [d, x1, x2, some (.int a), some (.int b), x5, x6, some (.ref X), some (.ref Y), x9, x10, x11] := by
  refine ps_no (pt_neT (l := ((bitsL 16 a).zip (bitsL 16 b)).map fun p => if p.2 > p.1 then p.2 else p.1) ?_ fun g => pu_tupL (zip_lc (f := fun x y => if y > x then y else x) rfl (bitsL_len 16 a) (bitsL_len 16 b) fun g2 k hk => ?_))
  · rw [← bits_either a b a0 a1 b0 b1]
    refine pu_bits (pu_call2 (pu_var rfl) (fun g => pu_var rfl) mono_is fun h x y e1 e2 => ?_)
    obtain ⟨g, S⟩ := either_run a b h
    exact ⟨_, g, by rw [show x = _ from e1, show y = _ from e2, S], rfl⟩
  · have ix := fIx_lst (keep_app (g := g2) (keep_app (g := g) eX)) (get_d (by rw [bitsL_len]; exact hk))
    have iy := fIx_lst (keep_app (g := g2) (keep_app (g := g) eY)) (get_d (by rw [bitsL_len]; exact hk))
    generalize (bitsL 16 a).getD k 0 = u at *
    generalize (bitsL 16 b).getD k 0 = v at *
    simp only [lcTurn, wipeE, List.set_cons_succ, List.set_cons_zero, Int.zero_add]
    simp only [bind_ok, bind_exn, bindS_ok, bindS_exn, then_next, then_ret, then_brk, then_cont, then_exn, only_next, only_exn, run_nil, run_ret, run_retN, run_drop, run_if, run_asg, run_brk, run_cont, run_raise, run_gN, run_C, run_var, run_m2, run_lnil, run_lcons, run_tup, run_bool, run_tru, run_and, run_or, run_not, run_andV, run_orV, run_notV, run_ifE, run_chain, run_neg, run_sl, run_no, run_some, run_call, run_callF, run_meth, run_subM, run_par, run_par3, run_aug, run_itA, run_fld, run_fldM, run_tyes, fAdd_i, fSub_i, fLt_i, fLe_i, fGt_i, fGe_i, fEq_i, fNe_i, fAbs_i, fInt_i, fInt_b, fEq_s, fNe_s, fEq_b, fMax2_i, fMin2_i, fIAdd_i, fTru_b, fTru_i, run_methF, List.getElem?_cons_succ, List.getElem?_cons_zero, List.length_cons, List.length_nil, List.set_cons_succ, List.set_cons_zero, if_true, if_false, Bool.false_eq_true, Bool.not_true, Bool.not_false, decide_true, decide_false, ite_true, ite_false, Nat.zero_add, Nat.reduceAdd, oR, ix, iy]
theorem q9_run {x1 x2 : Option D} : Ps q_9 [d, x1, x2, some (.int a), some (.int b), x5, x6, some (.ref X), some (.ref Y), x9, x10, x11] h [d, x1, x2, some (.int a), some (.int b), x5, x6, some (.ref X), some (.ref Y), x9, x10, x11] := by
  refine ps_no (pt_neT (l := ((bitsL 16 a).zip (bitsL 16 b)).map fun p => (p.1 + p.2) % 2) ?_ fun g => pu_tupL (zip_lc (f := fun x y => (x + y) % 2) rfl (bitsL_len 16 a) (bitsL_len 16 b) fun g2 k hk => ?_))
  · rw [← bits_unlike a b a0 a1 b0 b1]
    refine pu_bits (pu_call2 (pu_var rfl) (fun g => pu_var rfl) mono_is fun h x y e1 e2 => ?_)
    obtain ⟨g, S⟩ := unlike_run a b h
    exact ⟨_, g, by rw [show x = _ from e1, show y = _ from e2, S], rfl⟩
  · have ix := fIx_lst (keep_app (g := g2) (keep_app (g := g) eX)) (get_d (by rw [bitsL_len]; exact hk))
    have iy := fIx_lst (keep_app (g := g2) (keep_app (g := g) eY)) (get_d (by rw [bitsL_len]; exact hk))
    generalize (bitsL 16 a).getD k 0 = u at *
    generalize (bitsL 16 b).getD k 0 = v at *
    have md := fMod_ok (x := u + v) (y := 2) (h := h ++ g ++ g2) (by decide)
    rw [Int.fmod_eq_emod_of_nonneg _ (by decide)] at md
    simp only [lcTurn, wipeE, List.set_cons_succ, List.set_cons_zero, Int.zero_add]
    simp only [bind_ok, bind_exn, bindS_ok, bindS_exn, then_next, then_ret, then_brk, then_cont, then_exn, only_next, only_exn, run_nil, run_ret, run_retN, run_drop, run_if, run_asg, run_brk, run_cont, run_raise, run_gN, run_C, run_var, run_m2, run_lnil, run_lcons, run_tup, run_bool, run_tru, run_and, run_or, run_not, run_andV, run_orV, run_notV, run_ifE, run_chain, run_neg, run_sl, run_no, run_some, run_call, run_callF, run_meth, run_subM, run_par, run_par3, run_aug, run_itA, run_fld, run_fldM, run_tyes, fAdd_i, fSub_i, fLt_i, fLe_i, fGt_i, fGe_i, fEq_i, fNe_i, fAbs_i, fInt_i, fInt_b, fEq_s, fNe_s, fEq_b, fMax2_i, fMin2_i, fIAdd_i, fTru_b, fTru_i, run_methF, List.getElem?_cons_succ, List.getElem?_cons_zero, List.length_cons, List.length_nil, List.set_cons_succ, List.set_cons_zero, if_true, if_false, Bool.false_eq_true, Bool.not_true, Bool.not_false, decide_true, decide_false, ite_true, ite_false, Nat.zero_add, Nat.reduceAdd, oR, ix, iy, md]
theorem q10_run {x1 x2 x7 x8 : Option D} : q_10 [d, x1, x2, some (.int a), some (.int b), x5, x6, x7, x8, x9, x10, x11] h = .next [d, x1, x2, some (.int a), some (.int b), x5, x6, x7, x8, some (.int (b % 16)), x10, x11] h := by
  have md := fMod_ok (x := b) (y := 16) (h := h) (by decide)
  rw [Int.fmod_eq_emod_of_nonneg _ (by decide)] at md
  unfold q_10
  simp only [bind_ok, bind_exn, bindS_ok, bindS_exn, then_next, then_ret, then_brk, then_cont, then_exn, only_next, only_exn, run_nil, run_ret, run_retN, run_drop, run_if, run_asg, run_brk, run_cont, run_raise, run_gN, run_C, run_var, run_m2, run_lnil, run_lcons, run_tup, run_bool, run_tru, run_and, run_or, run_not, run_andV, run_orV, run_notV, run_ifE, run_chain, run_neg, run_sl, run_no, run_some, run_call, run_callF, run_meth, run_subM, run_par, run_par3, run_aug, run_itA, run_fld, run_fldM, run_tyes, fAdd_i, fSub_i, fLt_i, fLe_i, fGt_i, fGe_i, fEq_i, fNe_i, fAbs_i, fInt_i, fInt_b, fEq_s, fNe_s, fEq_b, fMax2_i, fMin2_i, fIAdd_i, fTru_b, fTru_i, run_methF, List.getElem?_cons_succ, List.getElem?_cons_zero, List.length_cons, List.length_nil, List.set_cons_succ, List.set_cons_zero, if_true, if_false, Bool.false_eq_true, Bool.not_true, Bool.not_false, decide_true, decide_false, ite_true, ite_false, Nat.zero_add, Nat.reduceAdd, oR, md]
omit eY b0 b1 in
theorem q11_run {x1 x2 : Option D} {m : Nat} (hm : b % 16 = (m : Int)) (hlt : m < 16) : Ps q_11 [d, x1, x2, some (.int a), some (.int b), x5, x6, some (.ref X), some (.ref Y), some (.int (m : Int)), x10, x11] h [d, x1, x2, some (.int a), some (.int b), x5, x6, some (.ref X), some (.ref Y), some (.int (m : Int)), x10, x11] := by
  refine ps_no (pt_neL (l := List.replicate m 0 ++ (bitsL 16 a).take (16 - m)) ?_ fun g => ?_)
  · rw [← bits_upN m a hlt]
    refine pu_listT (pu_bits (pu_call2 (pu_var rfl) (fun g => pu_var rfl) mono_is fun h x y e1 e2 => ⟨_, [], ?_, rfl⟩))
    rw [show x = _ from e1, show y = _ from e2, up_run, hm, List.append_nil]
    rfl
  · rw [List.map_append, List.map_replicate, List.map_take]
    have e : List.replicate m (D.int 0) = (List.replicate m [D.int 0]).flatten := by
      exact (rep_flat _ _).symm
    rw [e]
    refine pu_add (pu_rep (pu_lst1 pu_c) (fun g => pu_var rfl) (by decide) (by omega)) (fun g2 => pu_to (pu_varL rfl (keep_app (keep_app eX))) (fun g3 => pu_op pu_c (fun g4 => pu_var rfl) fun h => ?_) ?_) ?_ ?_
    · rw [fSub_i, show (16 : Int) - (m : Int) = ((16 - m : Nat) : Int) by omega]
    · rw [List.length_map, bitsL_len]; omega
    · rw [← e, List.length_replicate]; omega
    · rw [List.length_take, List.length_map, bitsL_len]; omega
omit eY b0 b1 in
theorem q12_run {x1 x2 : Option D} {m : Nat} (hm : b % 16 = (m : Int)) (hlt : m < 16) : Ps q_12 [d, x1, x2, some (.int a), some (.int b), x5, x6, some (.ref X), some (.ref Y), some (.int (m : Int)), x10, x11] h [d, x1, x2, some (.int a), some (.int b), x5, x6, some (.ref X), some (.ref Y), some (.int (m : Int)), x10, x11] := by
  refine ps_no (pt_neL (l := (bitsL 16 a).drop m ++ List.replicate m 0) ?_ fun g => ?_)
  · rw [← bits_down m a hlt a0 a1]
    refine pu_listT (pu_bits (pu_call2 (pu_var rfl) (fun g => pu_var rfl) mono_is fun h x y e1 e2 => ⟨_, [], ?_, rfl⟩))
    rw [show x = _ from e1, show y = _ from e2, down_run, hm, List.append_nil]
    rfl
  · rw [List.map_append, List.map_replicate, List.map_drop]
    have e : List.replicate m (D.int 0) = (List.replicate m [D.int 0]).flatten := by
      exact (rep_flat _ _).symm
    rw [e]
    refine pu_add (pu_from (pu_varL rfl (keep_app eX)) (fun g3 => pu_var rfl) ?_) (fun g2 => pu_rep (pu_lst1 pu_c) (fun g => pu_var rfl) (by decide) (by omega)) ?_ ?_
    · rw [List.length_map, bitsL_len]; omega
    · rw [List.length_drop, List.length_map, bitsL_len]; omega
    · rw [← e, List.length_replicate]; omega
omit eY b0 b1 in
theorem q13_run {x1 x2 : Option D} {m : Nat} (hm : b % 16 = (m : Int)) (hlt : m < 16) : Ps q_13 [d, x1, x2, some (.int a), some (.int b), x5, x6, some (.ref X), some (.ref Y), some (.int (m : Int)), x10, x11] h [d, x1, x2, some (.int a), some (.int b), x5, x6, some (.ref X), some (.ref Y), some (.int (m : Int)), x10, x11] := by
  refine ps_no (pt_neL (l := (bitsL 16 a).drop m ++ List.replicate m (a / 2 ^ 15 % 2)) ?_ fun g => ?_)
  · rw [← bits_downs m a hlt a0 a1]
    refine pu_listT (pu_bits (pu_call2 (pu_var rfl) (fun g => pu_var rfl) mono_is fun h x y e1 e2 => ⟨_, [], ?_, rfl⟩))
    rw [show x = _ from e1, show y = _ from e2, downs_run, hm, List.append_nil]
    rfl
  · rw [List.map_append, List.map_replicate, List.map_drop]
    have e : List.replicate m (D.int (a / 2 ^ 15 % 2)) = (List.replicate m [D.int (a / 2 ^ 15 % 2)]).flatten := by
      exact (rep_flat _ _).symm
    rw [e]
    refine pu_add (pu_from (pu_varL rfl (keep_app eX)) (fun g3 => pu_var rfl) ?_) (fun g2 => pu_rep (pu_lst1 (pu_ix (j := 15) (pu_varL rfl (keep_app (keep_app eX))) (fun g => pu_c) ?_)) (fun g => pu_var rfl) (by simp) (by omega)) ?_ ?_
    · rw [List.length_map, bitsL_len]; omega
    · rw [List.getElem?_map, bits_get 16 a 15 (by decide)]
      rfl
    · rw [List.length_drop, List.length_map, bitsL_len]; omega
    · rw [← e, List.length_replicate]; omega
end
omit a0 a1 b0 b1 in
theorem q14_run {x1 x2 x7 x8 : Option D} : q_14 [d, x1, x2, some (.int a), some (.int b), some (.int (sgn a)), some (.int (sgn b)), x7, x8, x9, x10, x11] h = .next [d, x1, x2, some (.int a), some (.int b), some (.int (sgn a)), some (.int (sgn b)), x7, x8, x9, x10, x11] h := by
  unfold q_14
  simp only [bind_ok, bind_exn, bindS_ok, bindS_exn, then_next, then_ret, then_brk, then_cont, then_exn, only_next, only_exn, run_nil, run_ret, run_retN, run_drop, run_if, run_asg, run_brk, run_cont, run_raise, run_gN, run_C, run_var, run_m2, run_lnil, run_lcons, run_tup, run_bool, run_tru, run_and, run_or, run_not, run_andV, run_orV, run_notV, run_ifE, run_chain, run_neg, run_sl, run_no, run_some, run_call, run_callF, run_meth, run_subM, run_par, run_par3, run_aug, run_itA, run_fld, run_fldM, run_tyes, fAdd_i, fSub_i, fLt_i, fLe_i, fGt_i, fGe_i, fEq_i, fNe_i, fAbs_i, fInt_i, fInt_b, fEq_s, fNe_s, fEq_b, fMax2_i, fMin2_i, fIAdd_i, fTru_b, fTru_i, run_methF, List.getElem?_cons_succ, List.getElem?_cons_zero, List.length_cons, List.length_nil, List.set_cons_succ, List.set_cons_zero, if_true, if_false, Bool.false_eq_true, Bool.not_true, Bool.not_false, decide_true, decide_false, ite_true, ite_false, Nat.zero_add, Nat.reduceAdd, oR, isless_run, isbelow_run]
omit b0 b1 in
theorem q16_run {x1 x2 x4 x7 x8 : Option D} : q_16 [d, x1, x2, some (.int a), x4, x5, x6, x7, x8, x9, x10, x11] h = .next [d, x1, x2, some (.int a), x4, x5, x6, x7, x8, x9, x10, x11] h := by
  unfold q_16
  simp only [bind_ok, bind_exn, bindS_ok, bindS_exn, then_next, then_ret, then_brk, then_cont, then_exn, only_next, only_exn, run_nil, run_ret, run_retN, run_drop, run_if, run_asg, run_brk, run_cont, run_raise, run_gN, run_C, run_var, run_m2, run_lnil, run_lcons, run_tup, run_bool, run_tru, run_and, run_or, run_not, run_andV, run_orV, run_notV, run_ifE, run_chain, run_neg, run_sl, run_no, run_some, run_call, run_callF, run_meth, run_subM, run_par, run_par3, run_aug, run_itA, run_fld, run_fldM, run_tyes, fAdd_i, fSub_i, fLt_i, fLe_i, fGt_i, fGe_i, fEq_i, fNe_i, fAbs_i, fInt_i, fInt_b, fEq_s, fNe_s, fEq_b, fMax2_i, fMin2_i, fIAdd_i, fTru_b, fTru_i, run_methF, List.getElem?_cons_succ, List.getElem?_cons_zero, List.length_cons, List.length_nil, List.set_cons_succ, List.set_cons_zero, if_true, if_false, Bool.false_eq_true, Bool.not_true, Bool.not_false, decide_true, decide_false, ite_true, ite_false, Nat.zero_add, Nat.reduceAdd, oR, check_run a a0 a1]
end
theorem bad_step {x0 x1 x2 x3 x4 x5 x6 x7 x8 x9 x11 : Option D} (d : D) (hd : d = .non ∨ d = .int (-1) ∨ d = .int 65536 ∨ d = .bl true ∨ d = .str "0") (h : Hm) : l_law_0 [x0, x1, x2, x3, x4, x5, x6, x7, x8, x9, some d, x11] h = .next [x0, x1, x2, x3, x4, x5, x6, x7, x8, x9, some d, x11] h := by
  have t : mTold told_cs (mCallF 1 f_check_word (mCons (mVar 10) mNil)) [x0, x1, x2, x3, x4, x5, x6, x7, x8, x9, some d, x11] h = .ok (.str "order") h := by
    refine told_exn (x := ⟨"BadOrder", []⟩) ?_ rfl
    have c := check_bad d hd h
    simp only [bind_ok, bind_exn, bindS_ok, bindS_exn, then_next, then_ret, then_brk, then_cont, then_exn, only_next, only_exn, run_nil, run_ret, run_retN, run_drop, run_if, run_asg, run_brk, run_cont, run_raise, run_gN, run_C, run_var, run_m2, run_lnil, run_lcons, run_tup, run_bool, run_tru, run_and, run_or, run_not, run_andV, run_orV, run_notV, run_ifE, run_chain, run_neg, run_sl, run_no, run_some, run_call, run_callF, run_meth, run_subM, run_par, run_par3, run_aug, run_itA, run_fld, run_fldM, run_tyes, fAdd_i, fSub_i, fLt_i, fLe_i, fGt_i, fGe_i, fEq_i, fNe_i, fAbs_i, fInt_i, fInt_b, fEq_s, fNe_s, fEq_b, fMax2_i, fMin2_i, fIAdd_i, fTru_b, fTru_i, run_methF, List.getElem?_cons_succ, List.getElem?_cons_zero, List.length_cons, List.length_nil, List.set_cons_succ, List.set_cons_zero, if_true, if_false, Bool.false_eq_true, Bool.not_true, Bool.not_false, decide_true, decide_false, ite_true, ite_false, Nat.zero_add, Nat.reduceAdd, oR, c]
  unfold l_law_0
  simp only [bind_ok, bind_exn, bindS_ok, bindS_exn, then_next, then_ret, then_brk, then_cont, then_exn, only_next, only_exn, run_nil, run_ret, run_retN, run_drop, run_if, run_asg, run_brk, run_cont, run_raise, run_gN, run_C, run_var, run_m2, run_lnil, run_lcons, run_tup, run_bool, run_tru, run_and, run_or, run_not, run_andV, run_orV, run_notV, run_ifE, run_chain, run_neg, run_sl, run_no, run_some, run_call, run_callF, run_meth, run_subM, run_par, run_par3, run_aug, run_itA, run_fld, run_fldM, run_tyes, fAdd_i, fSub_i, fLt_i, fLe_i, fGt_i, fGe_i, fEq_i, fNe_i, fAbs_i, fInt_i, fInt_b, fEq_s, fNe_s, fEq_b, fMax2_i, fMin2_i, fIAdd_i, fTru_b, fTru_i, run_methF, List.getElem?_cons_succ, List.getElem?_cons_zero, List.length_cons, List.length_nil, List.set_cons_succ, List.set_cons_zero, if_true, if_false, Bool.false_eq_true, Bool.not_true, Bool.not_false, decide_true, decide_false, ite_true, ite_false, Nat.zero_add, Nat.reduceAdd, oR, t]
theorem bad_loop {x0 x1 x2 x3 x4 x5 x6 x7 x8 x9 x11 : Option D} {gs : List (Nat × O)} {h : Hm} (hg : gdOk gs h = true) : ∀ (ds : List D) (x10 : Option D), (∀ d ∈ ds, d = .non ∨ d = .int (-1) ∨ d = .int 65536 ∨ d = .bl true ∨ d = .str "0") → ∃ y, forL gs (gN 10) l_law_0 ds [x0, x1, x2, x3, x4, x5, x6, x7, x8, x9, x10, x11] h = .next [x0, x1, x2, x3, x4, x5, x6, x7, x8, x9, y, x11] h
  | [], x10, _ => ⟨x10, forL_nil hg⟩
  | d :: ds, x10, w => by
    obtain ⟨y, ih⟩ := bad_loop (x0 := x0) (x1 := x1) (x2 := x2) (x3 := x3) (x4 := x4) (x5 := x5) (x6 := x6) (x7 := x7) (x8 := x8) (x9 := x9) (x11 := x11) hg ds (some d) fun e he => w e (List.mem_cons_of_mem _ he)
    exact ⟨y, forL_next (e1 := [x0, x1, x2, x3, x4, x5, x6, x7, x8, x9, some d, x11]) (h1 := h) hg rfl (bad_step d (w d List.mem_cons_self) h) ih⟩
theorem round_ok : RoundOk 12 l_law_1 := by
  intro d i rest h hl di
  obtain ⟨x2, x3, x4, x5, x6, x7, x8, x9, x10, x11, rfl⟩ : ∃ x2 x3 x4 x5 x6 x7 x8 x9 x10 x11, rest = [x2, x3, x4, x5, x6, x7, x8, x9, x10, x11] := by
    match rest, hl with
    | [x2, x3, x4, x5, x6, x7, x8, x9, x10, x11], _ => exact ⟨_, _, _, _, _, _, _, _, _, _, rfl⟩
  -- q_0
  obtain ⟨h0, hh0⟩ : ∃ h0 : Hm, h0 = h ++ [.lst [.int 0, .int 1, .int 32767, .int 32768, .int 65535]] := ⟨_, rfl⟩
  have d0 : IsDice h0 i := by rw [hh0]; exact di.app
  have F0 : Fr i h h0 := by rw [hh0]; exact Fr.app
  have e0 : h0[h.length]? = some (.lst [.int 0, .int 1, .int 32767, .int 32768, .int 65535]) := by rw [hh0]; exact get_new
  have S0 : q_0 [some d, some (.ref i), x2, x3, x4, x5, x6, x7, x8, x9, x10, x11] h = .next [some d, some (.ref i), some (.ref h.length), x3, x4, x5, x6, x7, x8, x9, x10, x11] h0 := by
    rw [hh0]
    rfl
  have ii := di.lt
  -- q_1
  obtain ⟨vs, h1, rn1, bd, len, d1, f1⟩ := word_lc (i := i) (ρ := h.length) (env := wipeE [some d, some (.ref i), some (.ref h.length), x3, x4, x5, x6, x7, x8, x9, x10, x11] [11]) rfl rfl rfl (by omega) ((List.range 2).map (fun k : Nat => D.int (0 + (k : Int)))) h0 d0 e0
  obtain ⟨a, b, rfl⟩ : ∃ a b, vs = [a, b] := by
    match vs, len with
    | [a, b], _ => exact ⟨a, b, rfl⟩
  obtain ⟨a0, a1⟩ := bd a (by simp)
  obtain ⟨b0, b1⟩ := bd b (by simp)
  obtain ⟨h2, hh2⟩ : ∃ h2 : Hm, h2 = h1 ++ [.lst [.int a, .int b]] := ⟨_, rfl⟩
  have F2 : Fr i h h2 := by rw [hh2]; exact (F0.trans f1).app2
  have d2 : IsDice h2 i := by rw [hh2]; exact d1.app
  have S1 : q_1 [some d, some (.ref i), some (.ref h.length), x3, x4, x5, x6, x7, x8, x9, x10, x11] h0 = .next [some d, some (.ref i), some (.ref h.length), some (.int a), some (.int b), x5, x6, x7, x8, x9, x10, x11] h2 := by
    have m := lc_run (vs := [11]) (env := [some d, some (.ref i), some (.ref h.length), x3, x4, x5, x6, x7, x8, x9, x10, x11]) (rgc_run (n := 2) (by decide)) (by decide) rn1
    have g2 : h2[h1.length]? = some (.lst [.int a, .int b]) := by rw [hh2]; exact get_new
    rw [show h1 ++ [O.lst ([a, b].map D.int)] = h2 by rw [hh2]; rfl, show (((2 : Nat) : Int)) = 2 from rfl] at m
    unfold q_1
    rw [run_asg, m, bindS_ok]
    simp only [gU, g2, gsCons, gsNil, run_gN, then_next, only_next, List.length_cons, List.length_nil, Nat.zero_add, Nat.reduceAdd, if_true, List.set_cons_succ, List.set_cons_zero]
  -- q_2 .. q_5
  have S2 := q2_run (some d) (some (.ref i)) (some (.ref h.length)) x5 x6 x7 x8 x9 x10 x11 a b h2
  have S3 := q3_run (d := some d) (x1 := some (.ref i)) (x2 := some (.ref h.length)) (x5 := some (.int (sgn a))) (x6 := some (.int (sgn b))) (x7 := x7) (x8 := x8) (x9 := x9) (x10 := x10) (x11 := x11) (a := a) (b := b) (h := h2)
  have S4 := q4_run (d := some d) (x1 := some (.ref i)) (x2 := some (.ref h.length)) (x6 := some (.int (sgn b))) (x7 := x7) (x8 := x8) (x9 := x9) (x10 := x10) (x11 := x11) (h := h2) a0 a1 b0 b1
  have S5 := q5_run (d := some d) (x1 := some (.ref i)) (x2 := some (.ref h.length)) (x5 := some (.int (sgn a))) (x6 := some (.int (sgn b))) (x7 := x7) (x8 := x8) (x9 := x9) (x10 := x10) (x11 := x11) (a := a) (b := b) (h := h2)
  obtain ⟨h3, hh3⟩ : ∃ h3 : Hm, h3 = h2 ++ [.lst ((bitsL 16 a).map D.int), .lst ((bitsL 16 b).map D.int)] := ⟨_, rfl⟩
  rw [← hh3] at S5
  have eX : h3[h2.length]? = some (.lst ((bitsL 16 a).map D.int)) := by rw [hh3]; simp
  have eY : h3[h2.length + 1]? = some (.lst ((bitsL 16 b).map D.int)) := by rw [hh3]; simp
  have F3 : Fr i h h3 := by rw [hh3]; exact F2.app2
  have d3 : IsDice h3 i := by rw [hh3]; exact d2.app
  generalize h2.length = X at S5 eX eY
  clear hh3
  obtain ⟨m, hm, hlt⟩ := many_nat b
  -- q_6 .. q_14
  obtain ⟨g6, S6⟩ := q6_run (d := some d) (x1 := some (.ref i)) (x2 := some (.ref h.length)) (x5 := some (.int (sgn a))) (x6 := some (.int (sgn b))) (x8 := some (.ref (X + 1))) (x9 := x9) (x10 := x10) (x11 := x11) (b := b) a0 a1 eX
  have eX6 := keep_app (g := g6) eX
  have eY6 := keep_app (g := g6) eY
  have F6 : Fr i h (h3 ++ g6) := F3.app2
  have d6 : IsDice (h3 ++ g6) i := d3.app
  generalize h3 ++ g6 = h6 at S6 eX6 eY6 F6 d6
  obtain ⟨g7, S7⟩ := q7_run (d := some d) (x1 := some (.ref i)) (x2 := some (.ref h.length)) (x5 := some (.int (sgn a))) (x6 := some (.int (sgn b))) (x9 := x9) (x10 := x10) (x11 := x11) eX6 eY6
  have eX7 := keep_app (g := g7) eX6
  have eY7 := keep_app (g := g7) eY6
  have F7 : Fr i h (h6 ++ g7) := F6.app2
  have d7 : IsDice (h6 ++ g7) i := d6.app
  generalize h6 ++ g7 = h7 at S7 eX7 eY7 F7 d7
  obtain ⟨g8, S8⟩ := q8_run (d := some d) (x1 := some (.ref i)) (x2 := some (.ref h.length)) (x5 := some (.int (sgn a))) (x6 := some (.int (sgn b))) (x9 := x9) (x10 := x10) (x11 := x11) a0 a1 b0 b1 eX7 eY7
  have eX8 := keep_app (g := g8) eX7
  have eY8 := keep_app (g := g8) eY7
  have F8 : Fr i h (h7 ++ g8) := F7.app2
  have d8 : IsDice (h7 ++ g8) i := d7.app
  generalize h7 ++ g8 = h8 at S8 eX8 eY8 F8 d8
  obtain ⟨g9, S9⟩ := q9_run (d := some d) (x1 := some (.ref i)) (x2 := some (.ref h.length)) (x5 := some (.int (sgn a))) (x6 := some (.int (sgn b))) (x9 := x9) (x10 := x10) (x11 := x11) a0 a1 b0 b1 eX8 eY8
  have eX9 := keep_app (g := g9) eX8
  have eY9 := keep_app (g := g9) eY8
  have F9 : Fr i h (h8 ++ g9) := F8.app2
  have d9 : IsDice (h8 ++ g9) i := d8.app
  generalize h8 ++ g9 = h9 at S9 eX9 eY9 F9 d9
  have S10 := q10_run (d := some d) (x1 := some (.ref i)) (x2 := some (.ref h.length)) (x5 := some (.int (sgn a))) (x6 := some (.int (sgn b))) (x7 := some (.ref X)) (x8 := some (.ref (X + 1))) (x9 := x9) (x10 := x10) (x11 := x11) a0 a1 b0 b1 eX9 eY9
  rw [hm] at S10
  obtain ⟨g11, S11⟩ := q11_run (d := some d) (x1 := some (.ref i)) (x2 := some (.ref h.length)) (x5 := some (.int (sgn a))) (x6 := some (.int (sgn b))) (x10 := x10) (x11 := x11) (Y := X + 1) a0 a1 eX9 hm hlt
  have eXb := keep_app (g := g11) eX9
  have Fb : Fr i h (h9 ++ g11) := F9.app2
  have db : IsDice (h9 ++ g11) i := d9.app
  generalize h9 ++ g11 = hb at S11 eXb Fb db
  obtain ⟨g12, S12⟩ := q12_run (d := some d) (x1 := some (.ref i)) (x2 := some (.ref h.length)) (x5 := some (.int (sgn a))) (x6 := some (.int (sgn b))) (x10 := x10) (x11 := x11) (Y := X + 1) a0 a1 eXb hm hlt
  have eXc := keep_app (g := g12) eXb
  have Fc : Fr i h (hb ++ g12) := Fb.app2
  have dc : IsDice (hb ++ g12) i := db.app
  generalize hb ++ g12 = hc at S12 eXc Fc dc
  obtain ⟨g13, S13⟩ := q13_run (d := some d) (x1 := some (.ref i)) (x2 := some (.ref h.length)) (x5 := some (.int (sgn a))) (x6 := some (.int (sgn b))) (x10 := x10) (x11 := x11) (Y := X + 1) a0 a1 eXc hm hlt
  have Fd : Fr i h (hc ++ g13) := Fc.app2
  have dd : IsDice (hc ++ g13) i := dc.app
  generalize hc ++ g13 = hd at S13 Fd dd
  have S14 := q14_run (d := some d) (x1 := some (.ref i)) (x2 := some (.ref h.length)) (x7 := some (.ref X)) (x8 := some (.ref (X + 1))) (x9 := some (.int m)) (x10 := x10) (x11 := x11) (a := a) (b := b) (h := hd)
  -- q_15
  obtain ⟨he, Rf, de, fe⟩ := fields_run dd a
  have S15 : q_15 [some d, some (.ref i), some (.ref h.length), some (.int a), some (.int b), some (.int (sgn a)), some (.int (sgn b)), some (.ref X), some (.ref (X + 1)), some (.int m), x10, x11] hd = .next [some d, some (.ref i), some (.ref h.length), some (.int a), some (.int b), some (.int (sgn a)), some (.int (sgn b)), some (.ref X), some (.ref (X + 1)), some (.int m), x10, x11] he := by
    unfold q_15
    simp only [bind_ok, bind_exn, bindS_ok, bindS_exn, then_next, then_ret, then_brk, then_cont, then_exn, only_next, only_exn, run_nil, run_ret, run_retN, run_drop, run_if, run_asg, run_brk, run_cont, run_raise, run_gN, run_C, run_var, run_m2, run_lnil, run_lcons, run_tup, run_bool, run_tru, run_and, run_or, run_not, run_andV, run_orV, run_notV, run_ifE, run_chain, run_neg, run_sl, run_no, run_some, run_call, run_callF, run_meth, run_subM, run_par, run_par3, run_aug, run_itA, run_fld, run_fldM, run_tyes, fAdd_i, fSub_i, fLt_i, fLe_i, fGt_i, fGe_i, fEq_i, fNe_i, fAbs_i, fInt_i, fInt_b, fEq_s, fNe_s, fEq_b, fMax2_i, fMin2_i, fIAdd_i, fTru_b, fTru_i, run_methF, List.getElem?_cons_succ, List.getElem?_cons_zero, List.length_cons, List.length_nil, List.set_cons_succ, List.set_cons_zero, if_true, if_false, Bool.false_eq_true, Bool.not_true, Bool.not_false, decide_true, decide_false, ite_true, ite_false, Nat.zero_add, Nat.reduceAdd, oR, Rf]
  have Fe : Fr i h he := Fd.trans fe
  have S16 := q16_run (d := some d) (x1 := some (.ref i)) (x2 := some (.ref h.length)) (x4 := some (.int b)) (x5 := some (.int (sgn a))) (x6 := some (.int (sgn b))) (x7 := some (.ref X)) (x8 := some (.ref (X + 1))) (x9 := some (.int m)) (x10 := x10) (x11 := x11) (h := he) a0 a1
  -- q_17
  obtain ⟨hf, hhf⟩ : ∃ hf : Hm, hf = he ++ [.lst [.non, .int (-1), .int 65536, .bl true, .str "0"]] := ⟨_, rfl⟩
  have ef : hf[he.length]? = some (.lst [.non, .int (-1), .int 65536, .bl true, .str "0"]) := by rw [hhf]; exact get_new
  obtain ⟨y, B⟩ := bad_loop (x0 := some d) (x1 := some (.ref i)) (x2 := some (.ref h.length)) (x3 := some (.int a)) (x4 := some (.int b)) (x5 := some (.int (sgn a))) (x6 := some (.int (sgn b))) (x7 := some (.ref X)) (x8 := some (.ref (X + 1))) (x9 := some (.int m)) (x11 := x11) (gdOk_one ef) [.non, .int (-1), .int 65536, .bl true, .str "0"] x10 (by simp)
  have S17 : q_17 [some d, some (.ref i), some (.ref h.length), some (.int a), some (.int b), some (.int (sgn a)), some (.int (sgn b)), some (.ref X), some (.ref (X + 1)), some (.int m), x10, x11] he = .next [some d, some (.ref i), some (.ref h.length), some (.int a), some (.int b), some (.int (sgn a)), some (.int (sgn b)), some (.ref X), some (.ref (X + 1)), some (.int m), y, x11] hf := by
    refine for_run (it := ([.non, .int (-1), .int 65536, .bl true, .str "0"], [(he.length, .lst [.non, .int (-1), .int 65536, .bl true, .str "0"])])) ?_ B
    have ml : mLst (mCons (mC .non) (mCons (m2 fSub (mC (.int 0)) (mC (.int 1))) (mCons (mC (.int 65536)) (mCons (mC (.bl true)) (mCons (mC (.str "0")) mNil))))) [some d, some (.ref i), some (.ref h.length), some (.int a), some (.int b), some (.int (sgn a)), some (.int (sgn b)), some (.ref X), some (.ref (X + 1)), some (.int m), x10, x11] he = .ok (.ref he.length) hf := by
      rw [hhf]
      rfl
    have e2 := itL_lst ef
    simp only [run_itA, ml, bind_ok, e2, oR]
  refine ⟨[some (.ref h.length), some (.int a), some (.int b), some (.int (sgn a)), some (.int (sgn b)), some (.ref X), some (.ref (X + 1)), some (.int m), y, x11], hf, ?_, rfl, by rw [hhf]; exact Fe.app2⟩
  exact seq_next S0 (seq_next S1 (seq_next S2 (seq_next S3 (seq_next S4 (seq_next S5 (seq_next S6 (seq_next S7 (seq_next S8 (seq_next S9 (seq_next S10 (seq_next S11 (seq_next S12 (seq_next S13 (seq_next S14 (seq_next S15 (seq_next S16 S17))))))))))))))))
theorem plain (n : Nat) : PlainLaw f_law n := by
  rw [law_eq]
  exact plain_rounds (by decide) (by decide) round_ok
end K01
end MM

theorem PySem.Challenge.cw_corehall_k01_words_of_bits_holds : PySem.Challenge.rw_corehall_k01_words_of_bits.Holds := by
  exact MM.K01.holds MM.K01.plain
