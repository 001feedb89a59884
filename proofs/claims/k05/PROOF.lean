import PyProof.Rows.All
import Wide.All
import OpenK.AllK
import Wide.FinOn
import HandS.ForMost
import HandS.ForExc
import HandS.IsInst
import HandS.Deep
import HandS.Walk
import HandS.TupAny
import HandS.Wide
import HandS.SortInts
import HandS.Flow
import HandS.Style
import KE.SortData
import HandS.WordsExc
import HandS.Words
import PySem.Challenge.RW_gamekinds_k05_arrows_of_kinds
set_option Elab.async false
set_option linter.all false
set_option maxRecDepth 100000
set_option maxHeartbeats 4444444
namespace DI
open PySem L2 PySem.Spec PyProof.Rows
/-! values as plain data; what stands for them in the heap -/
abbrev St := L2.St

/-- plain data; draw: the law's own drawing list; fn: a def by its name -/
inductive D where
  | non | bl (b : Bool) | int (i : Int) | str (s : Str) | tup (xs : List D) | lst (xs : List D) | draw | fn (x : Str)
mutual
def D.py : D → PyData
  | .non => .none
  | .bl b => .bool b
  | .int i => .int i
  | .str s => .str s
  | .tup xs => .tuple (pyAll xs)
  | .lst xs => .list (pyAll xs)
  | .draw => .dict []
  | .fn _ => .dict []
def pyAll : List D → List PyData
  | [] => []
  | x :: xs => x.py :: pyAll xs
end
mutual
/-- no list within -/
def D.nol : D → Bool
  | .lst _ => false
  | .tup xs => nolAll xs
  | _ => true
def nolAll : List D → Bool
  | [] => true
  | x :: xs => x.nol && nolAll xs
end

/-- a list that stays as it is -/
def SqP (K : PySem.W.Frag) (H : Hp) (a : Addr) (xs : List V) : Prop := ∃ o, H a = some (.frz o (.lst xs))
theorem SqP.l {K : PySem.W.Frag} {H : Hp} {a : Addr} {xs : List V} (h : SqP K H a xs) : SqL K H a xs := by
  obtain ⟨o, h⟩ := h
  exact .inl (.inr ⟨o, h⟩)

/-- the law's drawing list and its cells -/
structure DA where
  ad : Addr
  ac : Addr
mutual
inductive Rep (K : PySem.W.Frag) (mg : Str → Option Value) (ad : DA) (H : Hp) : V → D → Prop
  | non : Rep K mg ad H .non .non
  | bl (b : Bool) : Rep K mg ad H (.bl b) (.bl b)
  | int (i : Int) : Rep K mg ad H (.int i) (.int i)
  | str (x : Str) : Rep K mg ad H (.str x) (.str x)
  | tup {a : Addr} {xs : List V} {ds : List D} : SqT K H a xs → RepAll K mg ad H xs ds → Rep K mg ad H (.ref a) (.tup ds)
  | lst {a : Addr} {xs : List V} {ds : List D} : SqP K H a xs → RepAll K mg ad H xs ds → Rep K mg ad H (.ref a) (.lst ds)
  | draw : Rep K mg ad H (.ref ad.ad) .draw
  | fn {x : Str} {f : Addr} : mg x = some (.ref f) → Rep K mg ad H (.ref f) (.fn x)
inductive RepAll (K : PySem.W.Frag) (mg : Str → Option Value) (ad : DA) (H : Hp) : List V → List D → Prop
  | nil : RepAll K mg ad H [] []
  | cons {v : V} {vs : List V} {d : D} {ds : List D} : Rep K mg ad H v d → RepAll K mg ad H vs ds → RepAll K mg ad H (v :: vs) (d :: ds)
end

section
variable {K : PySem.W.Frag} {mg : Str → Option Value} {ad : DA} {H H' : Hp}
mutual
theorem Rep.map (ht : ∀ a xs, SqT K H a xs → SqT K H' a xs) (hl : ∀ a xs, SqP K H a xs → SqP K H' a xs) : ∀ (d : D) (v : V), Rep K mg ad H v d → Rep K mg ad H' v d
  | .non, _, h => by cases h; exact .non
  | .bl _, _, h => by cases h; exact .bl _
  | .int _, _, h => by cases h; exact .int _
  | .str _, _, h => by cases h; exact .str _
  | .draw, _, h => by cases h; exact .draw
  | .fn _, _, h => by cases h with | fn e => exact .fn e
  | .tup ds, _, h => by cases h with | tup s r => exact .tup (ht _ _ s) (RepAll.map ht hl ds _ r)
  | .lst ds, _, h => by cases h with | lst s r => exact .lst (hl _ _ s) (RepAll.map ht hl ds _ r)
theorem RepAll.map (ht : ∀ a xs, SqT K H a xs → SqT K H' a xs) (hl : ∀ a xs, SqP K H a xs → SqP K H' a xs) : ∀ (ds : List D) (vs : List V), RepAll K mg ad H vs ds → RepAll K mg ad H' vs ds
  | [], _, h => by cases h; exact .nil
  | d :: ds, _, h => by cases h with | cons a b => exact .cons (Rep.map ht hl d _ a) (RepAll.map ht hl ds _ b)
end
mutual
theorem Rep.mapN (ht : ∀ a xs, SqT K H a xs → SqT K H' a xs) : ∀ (d : D) (v : V), d.nol = true → Rep K mg ad H v d → Rep K mg ad H' v d
  | .non, _, _, h => by cases h; exact .non
  | .bl _, _, _, h => by cases h; exact .bl _
  | .int _, _, _, h => by cases h; exact .int _
  | .str _, _, _, h => by cases h; exact .str _
  | .draw, _, _, h => by cases h; exact .draw
  | .fn _, _, _, h => by cases h with | fn e => exact .fn e
  | .tup ds, _, n, h => by
    cases h with
    | tup s r =>
      simp only [D.nol] at n
      exact .tup (ht _ _ s) (RepAll.mapN ht ds _ n r)
  | .lst ds, _, n, h => by simp [D.nol] at n
theorem RepAll.mapN (ht : ∀ a xs, SqT K H a xs → SqT K H' a xs) : ∀ (ds : List D) (vs : List V), nolAll ds = true → RepAll K mg ad H vs ds → RepAll K mg ad H' vs ds
  | [], _, _, h => by cases h; exact .nil
  | d :: ds, _, n, h => by
    simp only [nolAll, Bool.and_eq_true] at n
    cases h with | cons a b => exact .cons (Rep.mapN ht d _ n.1 a) (RepAll.mapN ht ds _ n.2 b)
end
mutual
theorem Rep.dp : ∀ (d : D) (v : V), (d.py).canLay0 = true → Rep K mg ad H v d → Dp K H v d.py
  | .non, _, _, h => by cases h; exact .non
  | .bl _, _, _, h => by cases h; exact .bl _
  | .int _, _, _, h => by cases h; exact .int _
  | .str _, _, _, h => by cases h; exact .str _
  | .draw, _, n, h => by simp [D.py, PyData.canLay0] at n
  | .fn _, _, n, h => by simp [D.py, PyData.canLay0] at n
  | .tup ds, _, n, h => by
    simp only [D.py, PyData.canLay0] at n
    cases h with | tup s r => exact .tup s (RepAll.dp ds _ n r)
  | .lst ds, _, n, h => by
    simp only [D.py, PyData.canLay0] at n
    cases h with | lst s r => exact .lst s.l (RepAll.dp ds _ n r)
theorem RepAll.dp : ∀ (ds : List D) (vs : List V), PyData.canLayAll0 (pyAll ds) = true → RepAll K mg ad H vs ds → DpAll K H vs (pyAll ds)
  | [], _, _, h => by cases h; exact .nil
  | d :: ds, _, n, h => by
    simp only [pyAll, PyData.canLayAll0, Bool.and_eq_true] at n
    cases h with | cons a b => exact .cons (Rep.dp d _ n.1 a) (RepAll.dp ds _ n.2 b)
end
theorem RepAll.len : ∀ {vs : List V} {ds : List D}, RepAll K mg ad H vs ds → vs.length = ds.length
  | _, _, .nil => rfl
  | _, _, .cons _ b => by rw [List.length_cons, List.length_cons, RepAll.len b]
theorem RepAll.get : ∀ {vs : List V} {ds : List D} {i : Nat} {d : D}, RepAll K mg ad H vs ds → ds[i]? = some d → ∃ v, vs[i]? = some v ∧ Rep K mg ad H v d
  | _, _, _, _, .nil, e => by simp at e
  | _, _, 0, _, .cons a _, e => by simp at e; subst e; exact ⟨_, rfl, a⟩
  | _, _, i + 1, d, .cons _ b, e => by
    obtain ⟨v, h1, h2⟩ := RepAll.get (i := i) (d := d) b (by simpa using e)
    exact ⟨v, by simpa using h1, h2⟩
theorem RepAll.getV : ∀ {vs : List V} {ds : List D} {i : Nat} {v : V}, RepAll K mg ad H vs ds → vs[i]? = some v → ∃ d, ds[i]? = some d ∧ Rep K mg ad H v d
  | _, _, _, _, .nil, e => by simp at e
  | _, _, 0, _, .cons a _, e => by simp at e; subst e; exact ⟨_, rfl, a⟩
  | _, _, i + 1, v, .cons _ b, e => by
    obtain ⟨d, h1, h2⟩ := RepAll.getV (i := i) (v := v) b (by simpa using e)
    exact ⟨d, by simpa using h1, h2⟩
theorem RepAll.app : ∀ {vs : List V} {ds : List D} {ws : List V} {es : List D}, RepAll K mg ad H vs ds → RepAll K mg ad H ws es → RepAll K mg ad H (vs ++ ws) (ds ++ es)
  | _, _, _, _, .nil, h => h
  | _, _, _, _, .cons a b, h => .cons a (RepAll.app b h)
theorem RepAll.take : ∀ {vs : List V} {ds : List D} (n : Nat), RepAll K mg ad H vs ds → RepAll K mg ad H (vs.take n) (ds.take n)
  | _, _, 0, _ => .nil
  | _, _, _ + 1, .nil => .nil
  | _, _, n + 1, .cons a b => .cons a (RepAll.take n b)
theorem RepAll.drop : ∀ {vs : List V} {ds : List D} (n : Nat), RepAll K mg ad H vs ds → RepAll K mg ad H (vs.drop n) (ds.drop n)
  | _, _, 0, h => h
  | _, _, _ + 1, .nil => .nil
  | _, _, n + 1, .cons _ b => RepAll.drop n b
theorem RepAll.set {v : V} {d : D} (r : Rep K mg ad H v d) : ∀ {vs : List V} {ds : List D} (n : Nat), RepAll K mg ad H vs ds → RepAll K mg ad H (vs.set n v) (ds.set n d)
  | _, _, _, .nil => .nil
  | _, _, 0, .cons _ b => .cons r b
  | _, _, n + 1, .cons a b => .cons a (RepAll.set r n b)
theorem RepAll.erase : ∀ {vs : List V} {ds : List D} (n : Nat), RepAll K mg ad H vs ds → RepAll K mg ad H (vs.eraseIdx n) (ds.eraseIdx n)
  | _, _, _, .nil => .nil
  | _, _, 0, .cons _ b => b
  | _, _, n + 1, .cons a b => .cons a (RepAll.erase n b)
end

/-- the law's draws: its cells, the place, what is left of the present one, the mixed row -/
structure G where
  cells : List Int
  at_ : Int
  cur : Int
  seed : Int
/-- an exception: its class's name, its own attributes -/
structure Exn where
  cls : Str
  arg : List (Str × D)
inductive R (α : Type) where
  | ok (a : α) (g : G) | er (x : Exn) (g : G) | bad
def R.bind {α β : Type} : R α → (α → G → R β) → R β
  | .ok a g, f => f a g
  | .er x g, _ => .er x g
  | .bad, _ => .bad
def R.map {α β : Type} (f : α → β) : R α → R β
  | .ok a g => .ok (f a) g
  | .er x g => .er x g
  | .bad => .bad
@[simp] theorem R.bind_ok {α β : Type} (a : α) (g : G) (f : α → G → R β) : (R.ok a g).bind f = f a g := rfl
@[simp] theorem R.bind_er {α β : Type} (x : Exn) (g : G) (f : α → G → R β) : (R.er x g).bind f = .er x g := rfl
@[simp] theorem R.bind_bad {α β : Type} (f : α → G → R β) : (R.bad).bind f = .bad := rfl
@[simp] theorem R.map_ok {α β : Type} (a : α) (g : G) (f : α → β) : (R.ok a g).map f = .ok (f a) g := rfl
@[simp] theorem R.map_er {α β : Type} (x : Exn) (g : G) (f : α → β) : (R.er x g).map f = .er x g := rfl
@[simp] theorem R.map_bad {α β : Type} (f : α → β) : (R.bad).map f = .bad := rfl
def lift {α : Type} : Option α → G → R α
  | some a, g => .ok a g
  | none, _ => .bad
@[simp] theorem lift_some {α : Type} (a : α) (g : G) : lift (some a) g = .ok a g := rfl
@[simp] theorem lift_none {α : Type} (g : G) : lift (none : Option α) g = .bad := rfl

/-- what was tracked is as it was, but the draws -/
def Keep (ad : DA) (H H' : Hp) : Prop := ∀ a o, H a = some o → a ≠ ad.ad → H' a = some o
theorem Keep.refl (ad : DA) (H : Hp) : Keep ad H H := fun _ _ h _ => h
theorem Keep.trans {ad : DA} {H H1 H2 : Hp} (a : Keep ad H H1) (b : Keep ad H1 H2) : Keep ad H H2 := fun c o h n => b c o (a c o h n) n
theorem Keep.free {ad : DA} {a : Addr} {H H' : Hp} (k : Keep ad H H') (n : a ≠ ad.ad) (h : H' a = none) : H a = none := by
  cases q : H a with
  | none => rfl
  | some o => rw [k a o q n] at h; cases h
theorem Keep.upd {ad : DA} {p : Addr} {H : Hp} {o : HO} (h : H p = none) : Keep ad H (upd H p o) := fun b x e _ => by
  rw [upd_ne (ne_of_none e h)]; exact e
def DrawOk (ad : DA) (H : Hp) (g : G) : Prop := H ad.ad = some (.lst [.ref ad.ac, .int g.at_, .int g.cur, .int g.seed]) ∧ ∃ o, H ad.ac = some (.frz o (.lst (g.cells.map V.int)))
theorem DrawOk.upd {ad : DA} {p : Addr} {H : Hp} {o : HO} {g : G} (d : DrawOk ad H g) (h : H p = none) : DrawOk ad (upd H p o) g := by
  obtain ⟨h1, oc, h2⟩ := d
  refine ⟨?_, oc, ?_⟩
  · rw [upd_ne (ne_of_none h1 h)]; exact h1
  · rw [upd_ne (ne_of_none h2 h)]; exact h2
theorem DrawOk.ne {ad : DA} {p : Addr} {H : Hp} {g : G} (d : DrawOk ad H g) (h : H p = none) : p ≠ ad.ad := by
  obtain ⟨h1, oc, h2⟩ := d
  exact fun e => ne_of_none h1 h e.symm
/-- at another heap that has these two -/
theorem DrawOk.at_ {ad : DA} {H H' : Hp} {g : G} (d : DrawOk ad H g) (h1 : ∀ xs, H ad.ad = some (.lst xs) → H' ad.ad = some (.lst xs)) (h2 : ∀ o u, H ad.ac = some (.frz o u) → H' ad.ac = some (.frz o u)) : DrawOk ad H' g := by
  obtain ⟨e1, oc, e2⟩ := d
  exact ⟨h1 _ e1, oc, h2 _ _ e2⟩
section
variable {K : PySem.W.Frag} {mg : Str → Option Value} {ad : DA} {H H' : Hp} {g : G}
theorem Keep.sqT (k : Keep ad H H') (dk : DrawOk ad H g) {a : Addr} {xs : List V} (h : SqT K H a xs) : SqT K H' a xs := by
  obtain ⟨e, _⟩ := dk
  rcases h with (h | ⟨o, h⟩) | h
  · exact .inl (.inl (k _ _ h (ne_of h e (by intro z; cases z))))
  · exact .inl (.inr ⟨o, k _ _ h (ne_of h e (by intro z; cases z))⟩)
  · exact .inr h
theorem Keep.sqP (k : Keep ad H H') (dk : DrawOk ad H g) {a : Addr} {xs : List V} (h : SqP K H a xs) : SqP K H' a xs := by
  obtain ⟨e, _⟩ := dk
  obtain ⟨o, h⟩ := h
  exact ⟨o, k _ _ h (ne_of h e (by intro z; cases z))⟩
theorem Rep.keep {v : V} {d : D} (r : Rep K mg ad H v d) (k : Keep ad H H') (dk : DrawOk ad H g) : Rep K mg ad H' v d := Rep.map (fun _ _ => k.sqT dk) (fun _ _ => k.sqP dk) d v r
theorem RepAll.keep {v : List V} {d : List D} (r : RepAll K mg ad H v d) (k : Keep ad H H') (dk : DrawOk ad H g) : RepAll K mg ad H' v d := RepAll.map (fun _ _ => k.sqT dk) (fun _ _ => k.sqP dk) d v r
end

/-- an exception's class and own attributes -/
def ExRep (K : PySem.W.Frag) (mg : Str → Option Value) (ad : DA) (H : Hp) (c : Value) (dd : Option Addr) (x : Exn) : Prop :=
  ∃ C, mg x.cls = some (.ref C) ∧ c = .ref C ∧ (x.arg ≠ [] → ∃ p fs, dd = some p ∧ H p = some (.xd fs) ∧ fs.map (·.1) = x.arg.map (·.1) ∧ RepAll K mg ad H (fs.map (·.2)) (x.arg.map (·.2)))

/-- a value: as data, or a list just made -/
inductive Fv where
  | v (d : D) | f (ds : List D)
def Fv.d : Fv → D
  | .v d => d
  | .f ds => .lst ds
def Fv.nol : Fv → Bool
  | .v d => d.nol
  | .f ds => nolAll ds
abbrev DSt := List (Option D)
abbrev ET := DSt → G → R D
abbrev XT := DSt → G → R Fv
abbrev BT := DSt → G → R Bool

section
variable (K : PySem.W.Frag) (mg : Str → Option Value)
def FRep (ad : DA) (H H' : Hp) (v : V) : Fv → Prop
  | .v d => Rep K mg ad H' v d
  | .f ds => ∃ a vs, v = .ref a ∧ H a = none ∧ H' a = some (.lst vs) ∧ RepAll K mg ad H' vs ds
def SR (ad : DA) (H : Hp) (B : List Nat) (σ : St) (S : DSt) : Prop := σ.length = S.length ∧ ∀ i ∈ B, ∀ d, S[i]? = some (some d) → ∃ v, σ[i]? = some (some v) ∧ Rep K mg ad H v d
def postX (ad : DA) (H : Hp) (Q : VK) (W : XK) : R Fv → Prop
  | .ok f g' => ∀ v H', Keep ad H H' → DrawOk ad H' g' → FRep K mg ad H H' v f → Q v H'
  | .er x g' => ∀ c dd H', Keep ad H H' → DrawOk ad H' g' → ExRep K mg ad H' c dd x → W c dd H'
  | .bad => False
def postE (ad : DA) (H : Hp) (Q : VK) (W : XK) : R D → Prop
  | .ok d g' => ∀ v H', Keep ad H H' → DrawOk ad H' g' → Rep K mg ad H' v d → Q v H'
  | .er x g' => ∀ c dd H', Keep ad H H' → DrawOk ad H' g' → ExRep K mg ad H' c dd x → W c dd H'
  | .bad => False
def rdX (W : WX) (B : List Nat) (t : XT) : TE := fun σ H Q => ∃ ad S g, SR K mg ad H B σ S ∧ DrawOk ad H g ∧ postX K mg ad H Q (fun c d H' => W c d σ H') (t S g)
def rdE (W : WX) (B : List Nat) (t : ET) : TE := fun σ H Q => ∃ ad S g, SR K mg ad H B σ S ∧ DrawOk ad H g ∧ postE K mg ad H Q (fun c d H' => W c d σ H') (t S g)
/-- an argument list -/
def postA (ad : DA) (H : Hp) (Q : List V → Hp → Prop) (W : XK) : R (List D) → Prop
  | .ok d g' => ∀ v H', Keep ad H H' → DrawOk ad H' g' → RepAll K mg ad H' v d → Q v H'
  | .er x g' => ∀ c dd H', Keep ad H H' → DrawOk ad H' g' → ExRep K mg ad H' c dd x → W c dd H'
  | .bad => False
def rdA (W : WX) (B : List Nat) (t : DSt → G → R (List D)) : TA := fun σ H Q => ∃ ad S g, SR K mg ad H B σ S ∧ DrawOk ad H g ∧ postA K mg ad H Q (fun c d H' => W c d σ H') (t S g)
/-- a test -/
def postT (ad : DA) (H : Hp) (Q : Bool → Hp → Prop) (W : XK) : R Bool → Prop
  | .ok b g' => ∀ H', Keep ad H H' → DrawOk ad H' g' → Q b H'
  | .er x g' => ∀ c dd H', Keep ad H H' → DrawOk ad H' g' → ExRep K mg ad H' c dd x → W c dd H'
  | .bad => False
def rdT (W : WX) (B : List Nat) (t : BT) : TT := fun σ H Q => ∃ ad S g, SR K mg ad H B σ S ∧ DrawOk ad H g ∧ postT K mg ad H Q (fun c d H' => W c d σ H') (t S g)
end
theorem PE.imp {X : Cx} {e : Expr} {t t' : TE} (h : PE X e t) (i : ∀ σ H Q, t' σ H Q → t σ H Q) : PE X e t' := ⟨fun pins s σ H Q I q => h.run pins s σ H Q I (i σ H Q q)⟩
theorem PT.imp {X : Cx} {e : Expr} {t t' : TT} (h : PT X e t) (i : ∀ σ H Q, t' σ H Q → t σ H Q) : PT X e t' := ⟨fun pins s σ H Q I q => h.run pins s σ H Q I (i σ H Q q)⟩
theorem PW.imp {X : Cx} {e : Expr} {t t' : TT} (h : PW X e t) (i : ∀ σ H Q, t' σ H Q → t σ H Q) : PW X e t' := ⟨fun w pins s σ H Q I q => h.run w pins s σ H Q I (i σ H Q q)⟩
theorem PA.imp {X : Cx} {e : List Expr} {t t' : TA} (h : PA X e t) (i : ∀ σ H Q, t' σ H Q → t σ H Q) : PA X e t' := ⟨fun p pins s σ H Q I q => h.run p pins s σ H Q I (i σ H Q q)⟩
theorem PS.imp {X : Cx} {e : Stmt} {t t' : TS} (h : PS X e t) (i : ∀ D σ H, t' D σ H → t D σ H) : PS X e t' := ⟨fun pins s σ H D I q => h.run pins s σ H D I (i D σ H q)⟩
theorem PSs.imp {X : Cx} {e : List Stmt} {t t' : TS} (h : PSs X e t) (i : ∀ D σ H, t' D σ H → t D σ H) : PSs X e t' := ⟨fun pins s σ H D I q => h.run pins s σ H D I (i D σ H q)⟩

/-! ### lists frozen and unfrozen -/
open Classical in
noncomputable def fzSet (S : Addr → Prop) (h : Heap) (H : Hp) : Hp := fun a => if S a then (match H a, h.get? a with | some (.lst xs), some o => some (.frz o (.lst xs)) | x, _ => x) else H a
open Classical in
noncomputable def ufSet (S : Addr → Prop) (H : Hp) : Hp := fun a => if S a then (match H a with | some (.frz _ (.lst xs)) => some (.lst xs) | x => x) else H a
section
variable {S : Addr → Prop} {h : Heap} {H : Hp} {a : Addr}
theorem fz_no (n : ¬ S a) : fzSet S h H a = H a := by unfold fzSet; rw [if_neg n]
theorem fz_yes {xs : List V} {o : Obj} (y : S a) (e : H a = some (.lst xs)) (e2 : h.get? a = some o) : fzSet S h H a = some (.frz o (.lst xs)) := by unfold fzSet; rw [if_pos y, e, e2]
theorem fz_other {x : HO} (e : H a = some x) (n : ∀ xs, x ≠ .lst xs) : fzSet S h H a = some x := by
  unfold fzSet
  split
  · rw [e]
    cases x with
    | lst xs => exact absurd rfl (n xs)
    | _ => rfl
  · exact e
theorem fz_none (e : H a = none) : fzSet S h H a = none := by
  unfold fzSet
  split
  · rw [e]
  · exact e
theorem uf_no (n : ¬ S a) : ufSet S H a = H a := by unfold ufSet; rw [if_neg n]
theorem uf_yes {xs : List V} {o : Obj} (y : S a) (e : H a = some (.frz o (.lst xs))) : ufSet S H a = some (.lst xs) := by unfold ufSet; rw [if_pos y, e]
theorem uf_none (e : H a = none) : ufSet S H a = none := by
  unfold ufSet
  split
  · rw [e]
  · exact e
theorem uf_other {x : HO} (e : H a = some x) (n : ∀ o xs, x ≠ .frz o (.lst xs)) : ufSet S H a = some x := by
  unfold ufSet
  split
  · rw [e]
    cases x with
    | frz o u =>
      cases u with
      | lst xs => exact absurd rfl (n o xs)
      | _ => rfl
    | _ => rfl
  · exact e
theorem fz_cases {x : HO} (e : fzSet S h H a = some x) : H a = some x ∨ ∃ xs o, H a = some (.lst xs) ∧ h.get? a = some o ∧ x = .frz o (.lst xs) := by
  unfold fzSet at e
  split at e
  · cases q : H a with
    | none => rw [q] at e; cases e
    | some y =>
      rw [q] at e
      cases y with
      | lst xs =>
        cases r : h.get? a with
        | none => rw [r] at e; exact .inl e
        | some o => rw [r] at e; exact .inr ⟨xs, o, rfl, rfl, (Option.some.inj e).symm⟩
      | _ => exact .inl e
  · exact .inl e
theorem uf_cases {x : HO} (e : ufSet S H a = some x) : H a = some x ∨ ∃ xs o, S a ∧ H a = some (.frz o (.lst xs)) ∧ x = .lst xs := by
  unfold ufSet at e
  split at e
  · rename_i hs
    cases q : H a with
    | none => rw [q] at e; cases e
    | some y =>
      rw [q] at e
      cases y with
      | frz o u =>
        cases u with
        | lst xs => exact .inr ⟨xs, o, hs, rfl, (Option.some.inj e).symm⟩
        | _ => exact .inl e
      | _ => exact .inl e
  · exact .inl e
end
section
variable {X : Cx} {pins : List (Addr × Obj)} {σ : St} {H H' : Hp} {s : Shared} {S : Addr → Prop}
/-- another abstract heap at the same state -/
theorem ghost (I : Inv X pins σ H s) (hok : HOk X.prog X.w H' s.heap) (free : ∀ b, H b = none → H' b = none) (tups : ∀ b xs, X.H_0 b = some (.tup xs) → H' b = some (.tup xs)) (frzs : ∀ b o u, X.H_0 b = some (.frz o u) → H' b = some (.frz o u))
    (tbls : ∀ b ps, X.H_0 b = some (.tbl ps) → ∃ more, H' b = some (.tbl (ps ++ more))) : Inv X pins σ H' s :=
  ⟨I.ok, I.os, I.bare, ⟨I.base.keep, I.base.slot, fun b o e n hx => free b (I.base.free b o e n hx), I.base.there, tups, frzs, tbls⟩, I.loc, I.cell, free _ I.free, fun x c e => free c (I.freeC x c e), fun p hp => ⟨(I.pin p hp).1, free _ (I.pin p hp).2.1, (I.pin p hp).2.2⟩, hok, I.len⟩
theorem freeze (I : Inv X pins σ H s) (S : Addr → Prop) : Inv X pins σ (fzSet S s.heap H) s := by
  have stay : ∀ {a : Addr} {o : HO}, ObjOk X.prog X.w H s.heap a o → ObjOk X.prog X.w (fzSet S s.heap H) s.heap a o := fun {a o} x =>
    x.stay (fun _ _ _ q => q) (fun _ e => fz_other e (by intro xs z; cases z)) (fun _ _ e => fz_other e (by intro xs z; cases z))
  refine ghost I (fun a o e => ?_) (fun b e => fz_none e) (fun b xs e => fz_other (I.base.tups b xs e) (by intro xs z; cases z)) (fun b o u e => fz_other (I.base.frzs b o u e) (by intro xs z; cases z)) (fun b ps e => ?_)
  · rcases fz_cases e with e1 | ⟨xs, ob, e1, e2, rfl⟩
    · exact stay (I.hok a o e1)
    · exact ⟨e2, stay (I.hok a _ e1)⟩
  · obtain ⟨m, q⟩ := I.base.tbls b ps e
    exact ⟨m, fz_other q (by intro xs z; cases z)⟩
theorem unfreeze (I : Inv X pins σ H s) (S : Addr → Prop) (h0 : ∀ a, S a → X.H_0 a = none) : Inv X pins σ (ufSet S H) s := by
  have stay : ∀ {a : Addr} {o : HO}, ObjOk X.prog X.w H s.heap a o → ObjOk X.prog X.w (ufSet S H) s.heap a o := fun {a o} x =>
    x.stay (fun _ _ _ q => q) (fun _ e => uf_other e (by intro o xs z; cases z)) (fun _ _ e => uf_other e (by intro o xs z; cases z))
  refine ghost I (fun a o e => ?_) (fun b e => uf_none e) (fun b xs e => uf_other (I.base.tups b xs e) (by intro o xs z; cases z)) (fun b o u e => ?_) (fun b ps e => ?_)
  · rcases uf_cases e with e1 | ⟨xs, ob, _, e1, rfl⟩
    · exact stay (I.hok a o e1)
    · have z : ObjOk X.prog X.w H s.heap a (.frz ob (.lst xs)) := I.hok a _ e1
      obtain ⟨_, z⟩ := z
      exact stay z
  · have n : ¬ S b := fun hs => by rw [h0 b hs] at e; cases e
    rw [uf_no n]
    exact I.base.frzs b o u e
  · obtain ⟨m, q⟩ := I.base.tbls b ps e
    exact ⟨m, uf_other q (by intro o xs z; cases z)⟩
end

/-! expressions -/

/-- how a result's kind lies in the heap: by the heap ahead, the heap behind -/
abbrev RpT (γ α : Type) := DA → Hp → Hp → γ → α → Prop
def pst {γ α : Type} (Rp : RpT γ α) (K : PySem.W.Frag) (mg : Str → Option Value) (ad : DA) (H : Hp) (Q : γ → Hp → Prop) (W : XK) : R α → Prop
  | .ok f g' => ∀ v H', Keep ad H H' → DrawOk ad H' g' → Rp ad H H' v f → Q v H'
  | .er x g' => ∀ c dd H', Keep ad H H' → DrawOk ad H' g' → ExRep K mg ad H' c dd x → W c dd H'
  | .bad => False
/-- from a known state -/
structure At {γ α : Type} (Rp : RpT γ α) (K : PySem.W.Frag) (mg : Str → Option Value) (W : WX) (B : List Nat) (t : DSt → G → R α) (ad : DA) (S : DSt) (g : G) (σ : St) (H : Hp) (Q : γ → Hp → Prop) : Prop where
  sr : SR K mg ad H B σ S
  dk : DrawOk ad H g
  po : pst Rp K mg ad H Q (fun c d H' => W c d σ H') (t S g)
def rd {γ α : Type} (Rp : RpT γ α) (K : PySem.W.Frag) (mg : Str → Option Value) (W : WX) (B : List Nat) (t : DSt → G → R α) : St → Hp → (γ → Hp → Prop) → Prop := fun σ H Q => ∃ ad S g, At Rp K mg W B t ad S g σ H Q
section
variable (K : PySem.W.Frag) (mg : Str → Option Value)
abbrev RpE : RpT V D := fun ad _ H' v d => Rep K mg ad H' v d
abbrev RpX : RpT V Fv := fun ad H H' v f => FRep K mg ad H H' v f
abbrev RpA : RpT (List V) (List D) := fun ad _ H' v d => RepAll K mg ad H' v d
abbrev RpT' : RpT Bool Bool := fun _ _ _ b c => b = c
abbrev eE (W : WX) (B : List Nat) (t : ET) : TE := rd (RpE K mg) K mg W B t
abbrev eX (W : WX) (B : List Nat) (t : XT) : TE := rd (RpX K mg) K mg W B t
abbrev eA (W : WX) (B : List Nat) (t : DSt → G → R (List D)) : TA := rd (RpA K mg) K mg W B t
abbrev eT (W : WX) (B : List Nat) (t : BT) : TT := rd RpT' K mg W B t
end
/-- the result's kind stands also over an earlier heap -/
def Bk {γ α : Type} (Rp : RpT γ α) : Prop := ∀ ad H H1 H' g v a, Keep ad H H1 → DrawOk ad H1 g → Rp ad H1 H' v a → Rp ad H H' v a
section
variable {K : PySem.W.Frag} {mg : Str → Option Value} {W : WX}
theorem bkE : Bk (RpE K mg) := fun _ _ _ _ _ _ _ _ _ h => h
theorem bkA : Bk (RpA K mg) := fun _ _ _ _ _ _ _ _ _ h => h
theorem bkT : Bk RpT' := fun _ _ _ _ _ _ _ _ _ h => h
theorem bkX : Bk (RpX K mg) := fun ad H H1 H' g v a k dk h => by
  cases a with
  | v d => exact h
  | f ds =>
    obtain ⟨p, vs, e, n, q⟩ := h
    exact ⟨p, vs, e, k.free (dk.ne n) n, q⟩
theorem SR.keep {ad : DA} {H H' : Hp} {B : List Nat} {σ : St} {S : DSt} {g : G} (h : SR K mg ad H B σ S) (k : Keep ad H H') (dk : DrawOk ad H g) : SR K mg ad H' B σ S := ⟨h.1, fun i hi d e => by
  obtain ⟨v, h1, h2⟩ := h.2 i hi d e
  exact ⟨v, h1, h2.keep k dk⟩⟩
theorem SR.left {ad : DA} {H : Hp} {B C : List Nat} {σ : St} {S : DSt} (h : SR K mg ad H (B ++ C) σ S) : SR K mg ad H B σ S := ⟨h.1, fun i hi => h.2 i (List.mem_append_left _ hi)⟩
theorem SR.right {ad : DA} {H : Hp} {B C : List Nat} {σ : St} {S : DSt} (h : SR K mg ad H (B ++ C) σ S) : SR K mg ad H C σ S := ⟨h.1, fun i hi => h.2 i (List.mem_append_right _ hi)⟩
theorem pst.back {γ α : Type} {Rp : RpT γ α} (b : Bk Rp) {ad : DA} {H H1 : Hp} {g : G} {Q : γ → Hp → Prop} {V : XK} {r : R α} (k : Keep ad H H1) (dk : DrawOk ad H1 g) (p : pst Rp K mg ad H Q V r) : pst Rp K mg ad H1 Q V r := by
  cases r with
  | ok a g' => exact fun v H' k' d' q => p v H' (k.trans k') d' (b _ _ _ _ _ _ _ k dk q)
  | er x g' => exact fun c dd H' k' d' q => p c dd H' (k.trans k') d' q
  | bad => exact p
/-- one after another -/
theorem At.bind {γ1 α1 γ2 α2 : Type} {Rp1 : RpT γ1 α1} {Rp2 : RpT γ2 α2} (b2 : Bk Rp2) {B1 B2 : List Nat} {t : DSt → G → R α1} {k : α1 → DSt → G → R α2} {ad : DA} {S : DSt} {g : G} {σ : St} {H : Hp} {Q : γ2 → Hp → Prop}
    (h : At Rp2 K mg W (B1 ++ B2) (fun S g => (t S g).bind fun a g1 => k a S g1) ad S g σ H Q) :
    At Rp1 K mg W B1 t ad S g σ H fun v H1 => ∃ a g1, Keep ad H H1 ∧ DrawOk ad H1 g1 ∧ Rp1 ad H H1 v a ∧ At Rp2 K mg W B2 (k a) ad S g1 σ H1 Q := by
  refine ⟨h.sr.left, h.dk, ?_⟩
  have p := h.po
  cases r : t S g with
  | bad => simp only [r, R.bind] at p; exact p
  | er x g' => simp only [r, R.bind] at p; exact p
  | ok a g1 =>
    simp only [r, R.bind] at p
    exact fun v H1 k1 d1 q => ⟨a, g1, k1, d1, q, h.sr.right.keep k1 h.dk, d1, p.back b2 k1 d1⟩
theorem rd.mk {γ α : Type} {Rp : RpT γ α} {B : List Nat} {t : DSt → G → R α} {ad : DA} {S : DSt} {g : G} {σ : St} {H : Hp} {Q : γ → Hp → Prop} (h : At Rp K mg W B t ad S g σ H Q) : rd Rp K mg W B t σ H Q := ⟨ad, S, g, h⟩
theorem At.imp {γ α : Type} {Rp : RpT γ α} {B : List Nat} {t : DSt → G → R α} {ad : DA} {S : DSt} {g : G} {σ : St} {H : Hp} {Q Q' : γ → Hp → Prop} (h : At Rp K mg W B t ad S g σ H Q) (i : ∀ v H', Q v H' → Q' v H') : At Rp K mg W B t ad S g σ H Q' := by
  refine ⟨h.sr, h.dk, ?_⟩
  have p := h.po
  cases r : t S g with
  | bad => rw [r] at p; exact p
  | er x g' => rw [r] at p; exact p
  | ok a g1 => rw [r] at p; exact fun v H1 k1 d1 q => i _ _ (p v H1 k1 d1 q)
/-- a result that is there -/
theorem At.ret {γ α : Type} {Rp : RpT γ α} {B : List Nat} {t : DSt → G → R α} {ad : DA} {S : DSt} {g g' : G} {σ : St} {H : Hp} {Q : γ → Hp → Prop} {a : α} (h : At Rp K mg W B t ad S g σ H Q) (e : t S g = .ok a g') : ∀ v H', Keep ad H H' → DrawOk ad H' g' → Rp ad H H' v a → Q v H' := by
  have p := h.po
  rw [e] at p
  exact p
end

section
variable {X : Cx} {W : WX} {B : List Nat}
/-- a list just made is laid by -/
theorem xE {e : Expr} {t : XT} (h : PE X e (eX X.K X.mg W B t)) : PE X e (eE X.K X.mg W B (fun S g => (t S g).map Fv.d)) := by
  refine ⟨fun pins s σ H Q I hq => ?_⟩
  obtain ⟨ad, S, g, sr, dk, po⟩ := hq
  refine thn (h.run pins s σ H (fun v H1 => ∃ f g', t S g = .ok f g' ∧ Keep ad H H1 ∧ DrawOk ad H1 g' ∧ FRep X.K X.mg ad H H1 v f) I ⟨ad, S, g, sr, dk, ?_⟩) fun u s1 ⟨v, H1, I1, r, f, g', ef, k1, d1, fr⟩ => ?_
  · cases r : t S g with
    | bad => simp only [r, R.map] at po; exact po
    | er x g' => simp only [r, R.map] at po; exact po
    | ok f g' => exact fun v H1 k1 d1 q => ⟨f, g', rfl, k1, d1, q⟩
  · rw [ef] at po
    cases f with
    | v d => exact ⟨v, H1, I1, r, po v H1 k1 d1 fr⟩
    | f ds =>
      obtain ⟨a, vs, rfl, na, ea, ra⟩ := fr
      have ne : a ≠ ad.ad := dk.ne na
      have old : ∀ b o, H b = some o → b ≠ a := fun b o e z => by rw [z, na] at e; cases e
      obtain ⟨ob, eo⟩ : ∃ ob, s1.heap.get? a = some ob := objOk_get (I1.hok a _ ea)
      have ht : ∀ b xs, SqT X.K H1 b xs → SqT X.K (fzSet (fun c => c = a) s1.heap H1) b xs := fun b xs q => by
        rcases q with (q | ⟨o, q⟩) | q
        · exact .inl (.inl (fz_other q (by intro xs z; cases z)))
        · exact .inl (.inr ⟨o, fz_other q (by intro xs z; cases z)⟩)
        · exact .inr q
      have hl : ∀ b xs, SqP X.K H1 b xs → SqP X.K (fzSet (fun c => c = a) s1.heap H1) b xs := fun b xs q => by
        obtain ⟨o, q⟩ := q
        exact ⟨o, fz_other q (by intro xs z; cases z)⟩
      refine ⟨.ref a, fzSet (fun c => c = a) s1.heap H1, freeze I1 _, r, po _ _ (fun b o e n => ?_) (d1.at_ (fun xs e => ?_) fun o u e => fz_other e (by intro xs z; cases z)) ?_⟩
      · rw [fz_no (S := fun c => c = a) (old b o e)]; exact k1 b o e n
      · rw [fz_no (S := fun c => c = a) (Ne.symm ne)]; exact e
      · exact .lst (⟨ob, fz_yes (S := fun c => c = a) rfl ea eo⟩) (RepAll.map ht hl ds vs ra)
end

/-! ### by values -/
/-- an operator's rule serves a function on data -/
def AdG {α : Type} (Rp : RpT V α) (K : PySem.W.Frag) (mg : Str → Option Value) (r : R2) (op : D → D → Option α) : Prop :=
  ∀ ad H g x y a b c, DrawOk ad H g → Rep K mg ad H x a → Rep K mg ad H y b → op a b = some c → ∀ Q, (∀ v H', Keep ad H H' → DrawOk ad H' g → Rp ad H H' v c → Q v H') → r x y H Q
def AdU {α : Type} (Rp : RpT V α) (K : PySem.W.Frag) (mg : Str → Option Value) (r : V → Hp → VK → Prop) (op : D → Option α) : Prop :=
  ∀ ad H g x a c, DrawOk ad H g → Rep K mg ad H x a → op a = some c → ∀ Q, (∀ v H', Keep ad H H' → DrawOk ad H' g → Rp ad H H' v c → Q v H') → r x H Q
def AdC {α : Type} (Rp : RpT V α) (K : PySem.W.Frag) (mg : Str → Option Value) (r : List V → Hp → VK → Prop) (op : List D → Option α) : Prop :=
  ∀ ad H g xs ds c, DrawOk ad H g → RepAll K mg ad H xs ds → op ds = some c → ∀ Q, (∀ v H', Keep ad H H' → DrawOk ad H' g → Rp ad H H' v c → Q v H') → r xs H Q
def AdM {α : Type} (Rp : RpT V α) (K : PySem.W.Frag) (mg : Str → Option Value) (r : V → List V → Hp → VK → Prop) (op : D → List D → Option α) : Prop :=
  ∀ ad H g x xs d ds c, DrawOk ad H g → Rep K mg ad H x d → RepAll K mg ad H xs ds → op d ds = some c → ∀ Q, (∀ v H', Keep ad H H' → DrawOk ad H' g → Rp ad H H' v c → Q v H') → r x xs H Q
def dBin {α : Type} (op : D → D → Option α) (ta tb : ET) : DSt → G → R α := fun S g => (ta S g).bind fun a g1 => (tb S g1).bind fun b g2 => lift (op a b) g2
def dUn {α : Type} (op : D → Option α) (ta : ET) : DSt → G → R α := fun S g => (ta S g).bind fun a g1 => lift (op a) g1
def dCB {α : Type} (op : List D → Option α) (ts : DSt → G → R (List D)) : DSt → G → R α := fun S g => (ts S g).bind fun a g1 => lift (op a) g1
section
variable {K : PySem.W.Frag} {mg : Str → Option Value} {W : WX} {α : Type} {Rp : RpT V α} {Ba Bb : List Nat} {ta tb : ET}
theorem At.lift {o : DSt → Option α} {ad : DA} {S : DSt} {g : G} {σ : St} {H : Hp} {Q : VK} {B : List Nat} (h : At Rp K mg W B (fun S g => lift (o S) g) ad S g σ H Q) : ∃ c, o S = some c ∧ ∀ v H', Keep ad H H' → DrawOk ad H' g → Rp ad H H' v c → Q v H' := by
  have p := h.po
  cases e : o S with
  | none => simp only [e, lift_none] at p; exact p.elim
  | some c => simp only [e, lift_some] at p; exact ⟨c, rfl, p⟩
theorem AdG.ap {r : R2} {op : D → D → Option α} (ad : AdG Rp K mg r op) (b : Bk Rp) : ∀ σ H Q, rd Rp K mg W (Ba ++ Bb) (dBin op ta tb) σ H Q → tOp r (eE K mg W Ba ta) (eE K mg W Bb tb) σ H Q := fun σ H Q ⟨a0, S, g, h⟩ => by
  refine .mk ((h.bind (Rp1 := RpE K mg) b).imp fun x H1 ⟨a, g1, k1, d1, r1, h2⟩ => ?_)
  have h2 : At Rp K mg W (Bb ++ []) (fun S g => (tb S g).bind fun b g1 => (fun b (_ : DSt) g => DI.lift (op a b) g) b S g1) a0 S g1 σ H1 Q := by rw [List.append_nil]; exact h2
  refine .mk ((h2.bind (Rp1 := RpE K mg) b).imp fun y H2 ⟨c, g2, k2, d2, r2, h3⟩ => ?_)
  obtain ⟨z, e, q⟩ := At.lift (o := fun _ => op a c) h3
  exact ad a0 H2 g2 x y a c z d2 (r1.keep k2 d1) r2 e Q q
theorem AdU.ap {r : V → Hp → VK → Prop} {op : D → Option α} (ad : AdU Rp K mg r op) (b : Bk Rp) : ∀ σ H Q, rd Rp K mg W Ba (dUn op ta) σ H Q → tUn r (eE K mg W Ba ta) σ H Q := fun σ H Q ⟨a0, S, g, h⟩ => by
  have h : At Rp K mg W (Ba ++ []) (dUn op ta) a0 S g σ H Q := by rw [List.append_nil]; exact h
  refine .mk ((h.bind (Rp1 := RpE K mg) b).imp fun x H1 ⟨a, g1, k1, d1, r1, h2⟩ => ?_)
  obtain ⟨z, e, q⟩ := At.lift (o := fun _ => op a) h2
  exact ad a0 H1 g1 x a z d1 r1 e Q q
theorem AdC.ap {r : List V → Hp → VK → Prop} {op : List D → Option α} {ts : DSt → G → R (List D)} (ad : AdC Rp K mg r op) (b : Bk Rp) : ∀ σ H Q, rd Rp K mg W Ba (dCB op ts) σ H Q → tCB r (eA K mg W Ba ts) σ H Q := fun σ H Q ⟨a0, S, g, h⟩ => by
  have h : At Rp K mg W (Ba ++ []) (dCB op ts) a0 S g σ H Q := by rw [List.append_nil]; exact h
  refine .mk ((h.bind (Rp1 := RpA K mg) b).imp fun x H1 ⟨a, g1, k1, d1, r1, h2⟩ => ?_)
  obtain ⟨z, e, q⟩ := At.lift (o := fun _ => op a) h2
  exact ad a0 H1 g1 x a z d1 r1 e Q q
end
/-- which receivers a method of a built-in type takes -/
def okTy (T : String) : D → Bool
  | .lst _ => T == "list"
  | .str _ => T == "str"
  | .int _ => T == "int"
  | _ => false
def dMt {α : Type} (T : String) (op : D → List D → Option α) (ta : ET) (ts : DSt → G → R (List D)) : DSt → G → R α := fun S g => (ta S g).bind fun a g1 => if okTy T a then (ts S g1).bind fun b g2 => lift (op a b) g2 else .bad
section
variable {K : PySem.W.Frag} {mg : Str → Option Value} {W : WX} {α : Type} {Rp : RpT V α} {Ba Bb : List Nat} {ta tb : ET}
theorem okTy_tyV {T : String} {ad : DA} {H : Hp} {x : V} {d : D} (r : Rep K mg ad H x d) (t : okTy T d = true) : tyV K T x H := by
  cases r with
  | lst s _ => exact .inl ⟨by simpa [okTy] using t, _, s.l⟩
  | str _ => exact (by simpa [okTy] using t : T = "str")
  | int _ => exact (by simpa [okTy] using t : T = "int")
  | non => simp [okTy] at t
  | bl _ => simp [okTy] at t
  | tup _ _ => simp [okTy] at t
  | draw => simp [okTy] at t
  | fn _ => simp [okTy] at t
theorem AdM.ap {T : String} {r : V → List V → Hp → VK → Prop} {op : D → List D → Option α} {ts : DSt → G → R (List D)} (ad : AdM Rp K mg r op) (b : Bk Rp) : ∀ σ H Q, rd Rp K mg W (Ba ++ Bb) (dMt T op ta ts) σ H Q → tBM K T r (eE K mg W Ba ta) (eA K mg W Bb ts) σ H Q := fun σ H Q ⟨a0, S, g, h⟩ => by
  refine .mk ((h.bind (Rp1 := RpE K mg) b (k := fun a S g1 => if okTy T a then (ts S g1).bind fun b g2 => lift (op a b) g2 else .bad)).imp fun x H1 ⟨a, g1, k1, d1, r1, h2⟩ => ?_)
  cases e : okTy T a with
  | false =>
    have p := h2.po
    simp only [e, Bool.false_eq_true, if_false] at p
    exact p.elim
  | true =>
    refine ⟨okTy_tyV r1 e, ?_⟩
    simp only [e, if_true] at h2
    have h2 : At Rp K mg W (Bb ++ []) (fun S g => (ts S g).bind fun b g1 => (fun b (_ : DSt) g => DI.lift (op a b) g) b S g1) a0 S g1 σ H1 Q := by rw [List.append_nil]; exact h2
    refine .mk ((h2.bind (Rp1 := RpA K mg) b).imp fun y H2 ⟨c, g2, k2, d2, r2, h3⟩ => ?_)
    obtain ⟨z, e, q⟩ := At.lift (o := fun _ => op a c) h3
    exact ad a0 H2 g2 x y a c z d2 (r1.keep k2 d1) r2 e Q q
def dMt0 {α : Type} (T : String) (op : D → Option α) (ta : ET) : DSt → G → R α := fun S g => (ta S g).bind fun a g1 => if okTy T a then lift (op a) g1 else .bad
end

/-! ### the rules -/
def eVar (i : Nat) : ET := fun S g => match S[i]? with
  | some (some d) => .ok d g
  | _ => .bad
def eC (d : D) : ET := fun _ g => .ok d g
def aNil : DSt → G → R (List D) := fun _ g => .ok [] g
def aCons (t : ET) (ts : DSt → G → R (List D)) : DSt → G → R (List D) := fun S g => (t S g).bind fun a g1 => (ts S g1).bind fun b g2 => .ok (a :: b) g2
section
variable {X : Cx} {W : WX} {B Ba Bb : List Nat} {e a b : Expr} {es : List Expr} {ta tb : ET} {pos : Pos} {α : Type}
theorem de_var (i : Nat) {x : Str} {pos : Pos} (hN : X.N[i]? = some x := by rfl) (hv : Vis X.env.scope x := by first | exact Or.inl rfl | exact Or.inr (Or.inl rfl) | exact Or.inr (Or.inr rfl)) (hd : (x == ("__debug__" : Str)) = false := by decide)
    (hcd : (x == ("__classdict__" : Str)) = false := by decide) : PE X (.Name x pos) (eE X.K X.mg W [i] (eVar i)) :=
  PE.imp (pe_var hN hv hd hcd) fun σ H Q ⟨a0, S, g, h⟩ => by
    have p := h.po
    unfold eVar at p
    split at p
    · rename_i d e
      obtain ⟨v, e1, r⟩ := h.sr.2 i (by simp) d e
      exact ⟨v, e1, p v H (.refl _ _) h.dk r⟩
    · exact p.elim
theorem de_c {v : V} {d : D} (h : PE X e (tC v)) (r : ∀ ad H, Rep X.K X.mg ad H v d) : PE X e (eE X.K X.mg W [] (eC d)) :=
  PE.imp h fun σ H Q ⟨a0, S, g, h⟩ => h.po v H (.refl _ _) h.dk (r _ _)
theorem de_int {i : Int} {j : Nat} : PE X (.Constant (.int i) j pos) (eE X.K X.mg W [] (eC (.int i))) := de_c pe_int fun _ _ => .int i
theorem de_bl {i : Bool} {j : Nat} : PE X (.Constant (.bool i) j pos) (eE X.K X.mg W [] (eC (.bl i))) := de_c pe_bl fun _ _ => .bl i
theorem de_non {j : Nat} : PE X (.Constant .none j pos) (eE X.K X.mg W [] (eC .non)) := de_c pe_non fun _ _ => .non
theorem de_str {i : Str} {j : Nat} : PE X (.Constant (.str i) j pos) (eE X.K X.mg W [] (eC (.str i))) := de_c pe_str fun _ _ => .str i
/-- a module's constant, or a def by its name -/
theorem de_glob {x : Str} {v : V} {u : Value} {d : D} (hg : Gl X x) (hm : X.mg x = some u) (r : RelV v u) (rp : ∀ ad H, Rep X.K X.mg ad H v d) (hd : (x == ("__debug__" : Str)) = false := by decide) : PE X (.Name x pos) (eE X.K X.mg W [] (eC d)) := de_c (pe_glob hg hm r hd) rp
theorem da_nil : PA X [] (eA X.K X.mg W [] aNil) := PA.imp pa_nil fun σ H Q ⟨a0, S, g, h⟩ => h.po [] H (.refl _ _) h.dk .nil
theorem da_cons {ts : DSt → G → R (List D)} (ha : PE X e (eE X.K X.mg W Ba ta)) (hr : PA X es (eA X.K X.mg W Bb ts)) (hs : starEach (e :: es) X.env = (false, eval e X.env) :: starEach es X.env := by rfl) : PA X (e :: es) (eA X.K X.mg W (Ba ++ Bb) (aCons ta ts)) :=
  PA.imp (pa_cons ha hr hs) fun σ H Q ⟨a0, S, g, h⟩ => by
    refine .mk ((h.bind (Rp1 := RpE X.K X.mg) bkA).imp fun x H1 ⟨a, g1, k1, d1, r1, h2⟩ => ?_)
    have h2 : At (RpA X.K X.mg) X.K X.mg W (Bb ++ []) (fun S g => (ts S g).bind fun b g1 => (fun b (_ : DSt) g => .ok (a :: b) g) b S g1) a0 S g1 σ H1 Q := by rw [List.append_nil]; exact h2
    refine .mk ((h2.bind (Rp1 := RpA X.K X.mg) bkA).imp fun y H2 ⟨c, g2, k2, d2, r2, h3⟩ => ?_)
    exact h3.po (x :: y) H2 (.refl _ _) d2 (.cons (r1.keep k2 d1) r2)
/-- a tuple's display -/
def eTup (ts : DSt → G → R (List D)) : ET := fun S g => (ts S g).bind fun ds g1 => if ds.length ≤ sizeLine then .ok (.tup ds) g1 else .bad
theorem de_tup {ts : DSt → G → R (List D)} {k : Nat} (h : PA X es (eA X.K X.mg W B ts)) : PE X (.Tuple es k pos) (eE X.K X.mg W B (eTup ts)) :=
  PE.imp (pe_tup h) fun σ H Q ⟨a0, S, g, h⟩ => by
    have h : At (RpE X.K X.mg) X.K X.mg W (B ++ []) (eTup ts) a0 S g σ H Q := by rw [List.append_nil]; exact h
    refine .mk ((h.bind (Rp1 := RpA X.K X.mg) bkE (k := fun ds _ g1 => if ds.length ≤ sizeLine then .ok (.tup ds) g1 else .bad)).imp fun xs H1 ⟨ds, g1, k1, d1, r1, h2⟩ => ?_)
    have p := h2.po
    by_cases hl : ds.length ≤ sizeLine
    · rw [if_pos hl] at p
      refine ⟨by rw [r1.len]; exact hl, fun q hq => p _ _ (Keep.upd hq) (d1.upd hq) (.tup (.of upd_same) (r1.keep (Keep.upd hq) d1))⟩
    · rw [if_neg hl] at p
      exact p.elim
/-- a list's display -/
def xLst (ts : DSt → G → R (List D)) : XT := fun S g => (ts S g).bind fun ds g1 => if ds.length ≤ sizeLine then .ok (.f ds) g1 else .bad
theorem dx_lst {ts : DSt → G → R (List D)} (h : PA X es (eA X.K X.mg W B ts)) : PE X (.List es pos) (eX X.K X.mg W B (xLst ts)) :=
  PE.imp (pe_lst h) fun σ H Q ⟨a0, S, g, h⟩ => by
    have h : At (RpX X.K X.mg) X.K X.mg W (B ++ []) (xLst ts) a0 S g σ H Q := by rw [List.append_nil]; exact h
    refine .mk ((h.bind (Rp1 := RpA X.K X.mg) bkX (k := fun ds _ g1 => if ds.length ≤ sizeLine then .ok (.f ds) g1 else .bad)).imp fun xs H1 ⟨ds, g1, k1, d1, r1, h2⟩ => ?_)
    have p := h2.po
    by_cases hl : ds.length ≤ sizeLine
    · rw [if_pos hl] at p
      refine ⟨by rw [r1.len]; exact hl, fun q hq => p _ _ (Keep.upd hq) (d1.upd hq) ⟨q, xs, rfl, hq, upd_same, r1.keep (Keep.upd hq) d1⟩⟩
    · rw [if_neg hl] at p
      exact p.elim
/-! operators, comparisons, subscripts, calls of built-ins, by values; Rp: what comes out -/
variable {Rp : RpT V α}
theorem dr_op {op : Operator} {r : R2} {f : D → D → Option α} (bk : Bk Rp) (ho : OpR X (binaryOp op) r) (ad : AdG Rp X.K X.mg r f) (ha : PE X a (eE X.K X.mg W Ba ta)) (hb : PE X b (eE X.K X.mg W Bb tb)) : PE X (.BinOp a op b pos) (rd Rp X.K X.mg W (Ba ++ Bb) (dBin f ta tb)) := PE.imp (pe_op ho ha hb) (ad.ap bk)
theorem dr_un {op : UnaryOp} {r : V → Hp → VK → Prop} {f : D → Option α} (bk : Bk Rp) (ho : UnR X (unaryOp op) r) (ad : AdU Rp X.K X.mg r f) (ha : PE X a (eE X.K X.mg W Ba ta)) : PE X (.UnaryOp op a pos) (rd Rp X.K X.mg W Ba (dUn f ta)) := PE.imp (pe_un ho ha) (ad.ap bk)
theorem dr_cmp {op : CmpOp} {r : R2} {f : D → D → Option α} (bk : Bk Rp) (ho : OpR X (compareOp op) r) (ad : AdG Rp X.K X.mg r f) (ha : PE X a (eE X.K X.mg W Ba ta)) (hb : PE X b (eE X.K X.mg W Bb tb)) (hm : behindInMarks op b = false) : PE X (.Compare a [op] [b] pos) (rd Rp X.K X.mg W (Ba ++ Bb) (dBin f ta tb)) := PE.imp (pe_cmpR ho ha hb hm) (ad.ap bk)
theorem dr_ix {r : R2} {f : D → D → Option α} (bk : Bk Rp) (hr : IxR X r) (ad : AdG Rp X.K X.mg r f) (ha : PE X a (eE X.K X.mg W Ba ta)) (hb : PE X b (eE X.K X.mg W Bb tb)) (hs : PlainIx b) : PE X (.Subscript a b pos) (rd Rp X.K X.mg W (Ba ++ Bb) (dBin f ta tb)) := PE.imp (pe_ix hr ha hb hs) (ad.ap bk)
theorem dr_callB {x : Str} {p : Pos} {id : String} {r : List V → Hp → VK → Prop} {f : List D → Option α} {ts : DSt → G → R (List D)} (bk : Bk Rp) (hc : CallR X (.builtin id) r) (ad : AdC Rp X.K X.mg r f) (hg : Gl X x) (hm : X.mg x = none) (hv : bootBuiltins x = some (.builtin id)) (ha : PA X (e :: es) (eA X.K X.mg W B ts))
    (hn : x ≠ "__name__" := by decide) (hdb : (x == ("__debug__" : Str)) = false := by decide) (he : starEach (e :: es) X.env = (false, eval e X.env) :: starEach es X.env := by rfl) (hpl : (backTo pos (starEach es X.env)).any (·.1) = false := by rfl) :
    PE X (.Call (.Name x p) (e :: es) [] pos) (rd Rp X.K X.mg W B (dCB f ts)) := PE.imp (pe_callB hc hg hm hv ha hn hdb he hpl) (ad.ap bk)
theorem dr_callTy {x : Str} {p : Pos} {T : String} {r : List V → Hp → VK → Prop} {f : List D → Option α} {ts : DSt → G → R (List D)} (bk : Bk Rp) (hc : CallR X (.type T) r) (ad : AdC Rp X.K X.mg r f) (hg : Gl X x) (hm : X.mg x = none) (hv : bootBuiltins x = some (.type T)) (ha : PA X (e :: es) (eA X.K X.mg W B ts))
    (hn : x ≠ "__name__" := by decide) (hdb : (x == ("__debug__" : Str)) = false := by decide) (he : starEach (e :: es) X.env = (false, eval e X.env) :: starEach es X.env := by rfl) (hpl : (backTo pos (starEach es X.env)).any (·.1) = false := by rfl) :
    PE X (.Call (.Name x p) (e :: es) [] pos) (rd Rp X.K X.mg W B (dCB f ts)) := PE.imp (pe_callTy hc hg hm hv ha hn hdb he hpl) (ad.ap bk)
theorem dr_bm {T id : String} {name : Str} {apos cpos : Pos} {r : V → List V → Hp → VK → Prop} {f : D → List D → Option α} {ts : DSt → G → R (List D)} (bk : Bk Rp) (pa : PlainAttrs T) (slot : Slot T name id) (hty : typeOf (.builtin id) = pure (.type "method_descriptor")) (hm : MtR X id r) (ad : AdM Rp X.K X.mg r f)
    (ho : PE X a (eE X.K X.mg W Ba ta)) (ha : PA X (e :: es) (eA X.K X.mg W B ts))
    (hbase : attributeBase a name X.env (eval a X.env) = eval a X.env := by rfl)
    (hfew : ((backTo cpos (starEach (e :: es) X.env)).all (fun x => !x.1) && (backToKw cpos (keywordEach [] X.env)).all (fun x => x.1.isSome)
      && decide ((e :: es).length + ([] : List Keyword).length + (if ([] : List Keyword).isEmpty then 0 else 1) < 30)) = true := by rfl)
    (hline : (apos.endLine == cpos.line) = true := by rfl) (hs : starEach (e :: es) X.env = (false, eval e X.env) :: starEach es X.env := by rfl) (hplain : (backTo cpos (starEach es X.env)).any (·.1) = false := by rfl) :
    PE X (.Call (.Attribute a name apos) (e :: es) [] cpos) (rd Rp X.K X.mg W (Ba ++ B) (dMt T f ta ts)) := PE.imp (pe_bm pa slot hty hm ho ha hbase hfew hline hs hplain) (ad.ap bk)
end

/-! the operators on data -/
section
variable {X : Cx} {K : PySem.W.Frag} {mg : Str → Option Value}
theorem lstP {pins : List (Addr × Obj)} {σ : St} {H : Hp} {s : Shared} {a : Addr} {xs : List V} (I : Inv X pins σ H s) (h : SqP X.K H a xs) :
    xs.length ≤ sizeLine ∧ ∃ (its : List Value) (n : Nat), Vals xs its ∧ xs.length = its.length ∧ s.heap.get? a = some { cls := .type "list", data := .seq its.toArray n } := by
  obtain ⟨o, h⟩ := h
  obtain ⟨_, z, its, n, r, e⟩ := I.hok a _ h
  exact ⟨z, its, n, r, r.length, e⟩
/-- two lists in a row -/
def rCatL (K : PySem.W.Frag) : R2 := fun x y H Q => ∃ l b xs zs, x = .ref l ∧ y = .ref b ∧ SqP K H l xs ∧ SqP K H b zs ∧ xs.length + zs.length ≤ sizeLine ∧ ∀ p, H p = none → Q (.ref p) (upd H p (.lst (xs ++ zs)))
theorem op_catL : OpR X (binaryOp .Add) (rCatL X.K) := by
  intro pins s σ H x y v u Q I rx ry h
  obtain ⟨l, b, xs, zs, rfl, rfl, hH, hB, hz, q⟩ := h
  cases rx
  cases ry
  obtain ⟨z, its, n, r, hl, e⟩ := lstP I hH
  obtain ⟨z2, its2, n2, r2, hl2, e2⟩ := lstP I hB
  refine PySem.P.add_list e e2 ?_ (by rw [List.size_toArray, List.size_toArray]; omega)
  have ea : its.toArray ++ its2.toArray = (its ++ its2).toArray := by simp
  rw [ea]
  exact ⟨.ref _, _, I.lnew (t' := s.toks) (r.append r2) (by rw [List.length_append]; omega), rfl, q _ I.fresh⟩
def rAddAll (K : PySem.W.Frag) : R2 := fun x y H Q => (rI0 (fun i j => .int (i + j)) x y H Q ∨ (∃ i j, x = .str i ∧ y = .str j ∧ i.length + j.length ≤ sizeLine ∧ Q (.str (i ++ j)) H)) ∨ (rCatA K x y H Q ∨ rCatL K x y H Q)
theorem op_addAll : OpR X (binaryOp .Add) (rAddAll X.K) := OpR.or (OpR.or op_add op_add_str) (OpR.or op_catA op_catL)
def addD : D → D → Option Fv
  | .int i, .int j => some (.v (.int (i + j)))
  | .str x, .str y => if x.length + y.length ≤ sizeLine then some (.v (.str (x ++ y))) else none
  | .tup x, .tup y => if x.length + y.length ≤ sizeLine then some (.v (.tup (x ++ y))) else none
  | .lst x, .lst y => if x.length + y.length ≤ sizeLine then some (.f (x ++ y)) else none
  | _, _ => none
theorem ad_add : AdG (RpX K mg) K mg (rAddAll K) addD := by
  intro ad H g x y a b c dk rx ry e Q q
  unfold addD at e
  split at e
  · cases rx; cases ry
    cases e
    exact .inl (.inl ⟨_, _, rfl, rfl, q _ _ (.refl _ _) dk (.int _)⟩)
  · cases rx; cases ry
    split at e
    · cases e
      exact .inl (.inr ⟨_, _, rfl, rfl, by assumption, q _ _ (.refl _ _) dk (.str _)⟩)
    · cases e
  · cases rx with
    | tup s1 r1 =>
      cases ry with
      | tup s2 r2 =>
        split at e
        · rename_i hl
          cases e
          refine .inr (.inl ⟨_, _, _, _, rfl, rfl, s1, s2, by rw [r1.len, r2.len]; exact hl, fun ez => ?_, fun n1 ez => ?_, fun n1 n2 p hp => ?_⟩)
          · subst ez
            cases r1
            exact q _ _ (.refl _ _) dk (.tup s2 r2)
          · subst ez
            cases r2
            rw [List.append_nil] at q
            exact q _ _ (.refl _ _) dk (.tup s1 r1)
          · exact q _ _ (Keep.upd hp) (dk.upd hp) (.tup (.of upd_same) ((r1.app r2).keep (Keep.upd hp) dk))
        · cases e
  · cases rx with
    | lst s1 r1 =>
      cases ry with
      | lst s2 r2 =>
        split at e
        · rename_i hl
          cases e
          refine .inr (.inr ⟨_, _, _, _, rfl, rfl, s1, s2, by rw [r1.len, r2.len]; exact hl, fun p hp => ?_⟩)
          exact q _ _ (Keep.upd hp) (dk.upd hp) ⟨p, _, rfl, hp, upd_same, (r1.app r2).keep (Keep.upd hp) dk⟩
        · cases e
  · cases e
/-- ints to an int -/
def intD (f : Int → Int → Option D) : D → D → Option D
  | .int i, .int j => f i j
  | _, _ => none
theorem ad_int {C : Int → Int → Prop} {h : Int → Int → V} {f : Int → Int → Option D} (hf : ∀ i j d, f i j = some d → C i j ∧ ∀ ad H, Rep K mg ad H (h i j) d) : AdG (RpE K mg) K mg (rI C h) (intD f) := by
  intro ad H g x y a b c dk rx ry e Q q
  unfold intD at e
  split at e
  · cases rx; cases ry
    obtain ⟨h1, h2⟩ := hf _ _ _ e
    exact ⟨_, _, rfl, rfl, h1, q _ _ (.refl _ _) dk (h2 _ _)⟩
  · cases e
theorem ad_int0 {h : Int → Int → V} {f : Int → Int → D} (hf : ∀ i j ad H, Rep K mg ad H (h i j) (f i j)) : AdG (RpE K mg) K mg (rI0 h) (intD fun i j => some (f i j)) := by
  intro ad H g x y a b c dk rx ry e Q q
  unfold intD at e
  split at e
  · cases rx; cases ry
    cases e
    exact ⟨_, _, rfl, rfl, q _ _ (.refl _ _) dk (hf _ _ _ _)⟩
  · cases e
abbrev subD : D → D → Option D := intD fun i j => some (.int (i - j))
theorem ad_sub : AdG (RpE K mg) K mg (rI0 fun i j => .int (i - j)) subD := ad_int0 fun _ _ _ _ => .int _
/-- a product: one factor below 2 ^ 64 -/
instance (i j : Int) : Decidable (CMul i j) := inferInstanceAs (Decidable (_ ∨ _))
abbrev mulD : D → D → Option D := intD fun i j => if CMul i j then some (.int (i * j)) else none
theorem ad_mul : AdG (RpE K mg) K mg (rI CMul fun i j => .int (i * j)) mulD := ad_int fun i j d e => by
  split at e
  · cases e; exact ⟨by assumption, fun _ _ => .int _⟩
  · cases e
instance (i j : Int) : Decidable (CDivN i j) := inferInstanceAs (Decidable (_ ∧ _))
abbrev fdivD : D → D → Option D := intD fun i j => if CDivN i j then some (.int (i.fdiv j)) else none
theorem ad_fdiv : AdG (RpE K mg) K mg (rI CDivN fun i j => .int (i.fdiv j)) fdivD := ad_int fun i j d e => by
  split at e
  · cases e; exact ⟨by assumption, fun _ _ => .int _⟩
  · cases e
abbrev modD : D → D → Option D := intD fun i j => if j ≠ 0 then some (.int (i.fmod j)) else none
theorem ad_mod : AdG (RpE K mg) K mg (rI (fun _ j => j ≠ 0) fun i j => .int (i.fmod j)) modD := ad_int fun i j d e => by
  split at e
  · cases e; exact ⟨by assumption, fun _ _ => .int _⟩
  · cases e
def negD : D → Option D
  | .int i => some (.int (-i))
  | _ => none
theorem ad_neg : AdU (RpE K mg) K mg (rU fun i => .int (-i)) negD := by
  intro ad H g x a c dk rx e Q q
  unfold negD at e
  split at e
  · cases rx; cases e
    exact ⟨_, rfl, q _ _ (.refl _ _) dk (.int _)⟩
  · cases e
/-! comparisons: to a bool -/
abbrev ltI (p : Int → Int → Bool) : D → D → Option D := intD fun i j => some (.bl (p i j))
theorem ad_cmpI {p : Int → Int → Bool} : AdG (RpE K mg) K mg (rI0 fun i j => .bl (p i j)) (ltI p) := ad_int0 fun _ _ _ _ => .bl _
def eqD (a b : D) : Option D := if SeqAt.shaped a.py = true ∧ SeqAt.shaped b.py = true then some (.bl (PyData.eqv a.py b.py)) else none
def neD (a b : D) : Option D := if SeqAt.shaped a.py = true ∧ SeqAt.shaped b.py = true then some (.bl (!PyData.eqv a.py b.py)) else none
theorem ad_eq : AdG (RpE K mg) K mg (rEqD K) eqD := by
  intro ad H g x y a b c dk rx ry e Q q
  unfold eqD at e
  split at e
  · rename_i h
    cases e
    exact ⟨_, _, rx.dp _ _ (SeqAt.canLay_of_shaped h.1), ry.dp _ _ (SeqAt.canLay_of_shaped h.2), h.1, h.2, q _ _ (.refl _ _) dk (.bl _)⟩
  · cases e
theorem ad_ne : AdG (RpE K mg) K mg (rNeD K) neD := by
  intro ad H g x y a b c dk rx ry e Q q
  unfold neD at e
  split at e
  · rename_i h
    cases e
    exact ⟨_, _, rx.dp _ _ (SeqAt.canLay_of_shaped h.1), ry.dp _ _ (SeqAt.canLay_of_shaped h.2), h.1, h.2, q _ _ (.refl _ _) dk (.bl _)⟩
  · cases e
/-- x in y: a list, a tuple, a text -/
def rInA (K : PySem.W.Frag) : R2 := fun x y H Q => (∃ d ds, Dp K H x d ∧ (Dp K H y (.list ds) ∧ SeqAt.shaped (.list ds) = true ∨ Dp K H y (.tuple ds) ∧ SeqAt.shaped (.tuple ds) = true) ∧ SeqAt.shaped d = true ∧ Q (.bl (ds.any fun z => PyData.eqv z d)) H) ∨
  (∃ i j, x = .str i ∧ y = .str j ∧ Q (.bl (!(Builtin.Str.occurrences j i 0 j.length 1).isEmpty)) H)
def rNotInA (K : PySem.W.Frag) : R2 := fun x y H Q => (∃ d ds, Dp K H x d ∧ (Dp K H y (.list ds) ∧ SeqAt.shaped (.list ds) = true ∨ Dp K H y (.tuple ds) ∧ SeqAt.shaped (.tuple ds) = true) ∧ SeqAt.shaped d = true ∧ Q (.bl (!ds.any fun z => PyData.eqv z d)) H) ∨
  (∃ i j, x = .str i ∧ y = .str j ∧ Q (.bl (!(!(Builtin.Str.occurrences j i 0 j.length 1).isEmpty))) H)
theorem op_inA (hu : X.A.units + 65 < cLine) : OpR X (compareOp .In) (rInA X.K) := by
  refine OpR.or (fun pins s σ H x y v u Q I rx ry h => ?_) op_in_str
  obtain ⟨d, ds, hd, he, sd, q⟩ := h
  obtain ⟨as, r1⟩ := Dp.reads I d x v hd rx
  rcases he with ⟨he, se⟩ | ⟨he, se⟩
  · obtain ⟨bs, r2⟩ := Dp.reads I (.list ds) y u he ry
    exact SeqAt.in_list_reads r2 r1 (SeqAt.canLay_of_shaped se) (SeqAt.canLay_of_shaped sd) (room_in_shaped sd hu) ⟨.bl _, H, I, rfl, q⟩
  · obtain ⟨bs, r2⟩ := Dp.reads I (.tuple ds) y u he ry
    exact SeqAt.in_tuple_reads r2 r1 (SeqAt.canLay_of_shaped se) (SeqAt.canLay_of_shaped sd) (room_in_shaped sd hu) ⟨.bl _, H, I, rfl, q⟩
theorem op_notInA (hu : X.A.units + 65 < cLine) : OpR X (compareOp .NotIn) (rNotInA X.K) := by
  refine OpR.or (fun pins s σ H x y v u Q I rx ry h => ?_) op_notin_str
  obtain ⟨d, ds, hd, he, sd, q⟩ := h
  obtain ⟨as, r1⟩ := Dp.reads I d x v hd rx
  rcases he with ⟨he, se⟩ | ⟨he, se⟩
  · obtain ⟨bs, r2⟩ := Dp.reads I (.list ds) y u he ry
    exact SeqAt.notIn_list_reads r2 r1 (SeqAt.canLay_of_shaped se) (SeqAt.canLay_of_shaped sd) (room_in_shaped sd hu) ⟨.bl _, H, I, rfl, q⟩
  · obtain ⟨bs, r2⟩ := Dp.reads I (.tuple ds) y u he ry
    exact SeqAt.notIn_tuple_reads r2 r1 (SeqAt.canLay_of_shaped se) (SeqAt.canLay_of_shaped sd) (room_in_shaped sd hu) ⟨.bl _, H, I, rfl, q⟩
def inB (a : D) : D → Option Bool
  | .lst ds => if SeqAt.shaped a.py = true ∧ SeqAt.shaped (D.lst ds).py = true then some (ds.any fun z => PyData.eqv z.py a.py) else none
  | .tup ds => if SeqAt.shaped a.py = true ∧ SeqAt.shaped (D.tup ds).py = true then some (ds.any fun z => PyData.eqv z.py a.py) else none
  | .str j => match a with
    | .str i => some (!(Builtin.Str.occurrences j i 0 j.length 1).isEmpty)
    | _ => none
  | _ => none
def inD (a b : D) : Option D := (inB a b).map fun c => .bl c
def notInD (a b : D) : Option D := (inB a b).map fun c => .bl (!c)
theorem any_py (f : PyData → Bool) : ∀ ds : List D, (pyAll ds).any f = ds.any fun z => f z.py
  | [] => rfl
  | d :: ds => by simp [pyAll, any_py f ds]
theorem ad_in : AdG (RpE K mg) K mg (rInA K) inD := by
  intro ad H g x y a b c dk rx ry e Q q
  unfold inD inB at e
  split at e
  · split at e
    · rename_i h
      cases e
      refine .inl ⟨a.py, _, rx.dp _ _ (SeqAt.canLay_of_shaped h.1), .inl ⟨ry.dp _ _ (SeqAt.canLay_of_shaped h.2), h.2⟩, h.1, ?_⟩
      rw [any_py]
      exact q _ _ (.refl _ _) dk (.bl _)
    · cases e
  · split at e
    · rename_i h
      cases e
      refine .inl ⟨a.py, _, rx.dp _ _ (SeqAt.canLay_of_shaped h.1), .inr ⟨ry.dp _ _ (SeqAt.canLay_of_shaped h.2), h.2⟩, h.1, ?_⟩
      rw [any_py]
      exact q _ _ (.refl _ _) dk (.bl _)
    · cases e
  · split at e
    · cases rx; cases ry; cases e
      exact .inr ⟨_, _, rfl, rfl, q _ _ (.refl _ _) dk (.bl _)⟩
    · cases e
  · cases e
theorem ad_notIn : AdG (RpE K mg) K mg (rNotInA K) notInD := by
  intro ad H g x y a b c dk rx ry e Q q
  unfold notInD inB at e
  split at e
  · split at e
    · rename_i h
      cases e
      refine .inl ⟨a.py, _, rx.dp _ _ (SeqAt.canLay_of_shaped h.1), .inl ⟨ry.dp _ _ (SeqAt.canLay_of_shaped h.2), h.2⟩, h.1, ?_⟩
      rw [any_py]
      exact q _ _ (.refl _ _) dk (.bl _)
    · cases e
  · split at e
    · rename_i h
      cases e
      refine .inl ⟨a.py, _, rx.dp _ _ (SeqAt.canLay_of_shaped h.1), .inr ⟨ry.dp _ _ (SeqAt.canLay_of_shaped h.2), h.2⟩, h.1, ?_⟩
      rw [any_py]
      exact q _ _ (.refl _ _) dk (.bl _)
    · cases e
  · split at e
    · cases rx; cases ry; cases e
      exact .inr ⟨_, _, rfl, rfl, q _ _ (.refl _ _) dk (.bl _)⟩
    · cases e
  · cases e
/-- is None, is not None -/
def isND (a b : D) : Option D := match b with
  | .non => some (.bl (match a with | .non => true | _ => false))
  | _ => none
def notND (a b : D) : Option D := match b with
  | .non => some (.bl (match a with | .non => false | _ => true))
  | _ => none
theorem ad_isN : AdG (RpE K mg) K mg (fun x y H Q => y = .non ∧ Q (.bl (decide (x = .non))) H) isND := by
  intro ad H g x y a b c dk rx ry e Q q
  unfold isND at e
  split at e
  · cases ry
    cases e
    refine ⟨rfl, q _ _ (.refl _ _) dk ?_⟩
    cases rx <;> exact .bl _
  · cases e
theorem ad_notN : AdG (RpE K mg) K mg (fun x y H Q => y = .non ∧ Q (.bl (!decide (x = .non))) H) notND := by
  intro ad H g x y a b c dk rx ry e Q q
  unfold notND at e
  split at e
  · cases ry
    cases e
    refine ⟨rfl, q _ _ (.refl _ _) dk ?_⟩
    cases rx <;> exact .bl _
  · cases e
/-- an item -/
def idxD (a b : D) : Option D := match b with
  | .int i => match a with
    | .lst ds => atI ds i
    | .tup ds => atI ds i
    | .str z => if z.length ≤ sizeLine then (atI z.cps.toList i).map fun c => .str ⟨#[c]⟩ else none
    | _ => none
  | _ => none
theorem RepAll.atI {ad : DA} {H : Hp} {vs : List V} {ds : List D} {i : Int} {d : D} (r : RepAll K mg ad H vs ds) (e : L2.atI ds i = some d) : ∃ v, L2.atI vs i = some v ∧ Rep K mg ad H v d := by
  unfold L2.atI at e ⊢
  rw [r.len]
  cases q : ixN ds.length i with
  | none => rw [q] at e; cases e
  | some j =>
    rw [q] at e
    exact r.get e
theorem ad_idx : AdG (RpE K mg) K mg (rIx K) idxD := by
  intro ad H g x y a b c dk rx ry e Q q
  unfold idxD at e
  split at e
  · cases ry
    split at e
    · cases rx with
      | lst s r =>
        obtain ⟨v, h1, h2⟩ := r.atI e
        exact .inl ⟨_, _, _, _, rfl, rfl, s.l, h1, q _ _ (.refl _ _) dk h2⟩
    · cases rx with
      | tup s r =>
        obtain ⟨v, h1, h2⟩ := r.atI e
        exact .inr (.inl ⟨_, _, _, _, rfl, rfl, s, h1, q _ _ (.refl _ _) dk h2⟩)
    · cases rx
      split at e
      · rename_i hl
        rw [Option.map_eq_some_iff] at e
        obtain ⟨c', h1, rfl⟩ := e
        exact .inr (.inr ⟨_, _, _, rfl, rfl, hl, h1, q _ _ (.refl _ _) dk (.str _)⟩)
      · cases e
    · cases e
  · cases e
end

/-! built-in calls, tests, choices, slices -/
section
variable {X : Cx} {K : PySem.W.Frag} {mg : Str → Option Value}
/-! ### built-ins -/
def lenD : List D → Option D
  | [.lst ds] => some (.int ds.length)
  | [.tup ds] => some (.int ds.length)
  | [.str x] => if x.length ≤ sizeLine then some (.int x.length) else none
  | _ => none
theorem RepAll.one {ad : DA} {H : Hp} {xs : List V} {d : D} (h : RepAll K mg ad H xs [d]) : ∃ x, xs = [x] ∧ Rep K mg ad H x d := by
  cases h with
  | cons a b => cases b; exact ⟨_, rfl, a⟩
theorem RepAll.two {ad : DA} {H : Hp} {xs : List V} {d e : D} (h : RepAll K mg ad H xs [d, e]) : ∃ x y, xs = [x, y] ∧ Rep K mg ad H x d ∧ Rep K mg ad H y e := by
  cases h with
  | cons a b => obtain ⟨y, rfl, r⟩ := b.one; exact ⟨_, _, rfl, a, r⟩
theorem ad_len : AdC (RpE K mg) K mg (fun xs H Q => ∃ x n, xs = [x] ∧ LenV K x H n ∧ Q (.int n) H) lenD := by
  intro ad H g xs ds c dk r e Q q
  unfold lenD at e
  split at e
  · obtain ⟨x, rfl, rx⟩ := r.one
    cases e
    cases rx with
    | lst s ra => exact ⟨_, _, rfl, .inl ⟨_, s.l, ra.len.symm⟩, q _ _ (.refl _ _) dk (.int _)⟩
  · obtain ⟨x, rfl, rx⟩ := r.one
    cases e
    cases rx with
    | tup s ra => exact ⟨_, _, rfl, .inr ⟨_, s, ra.len.symm⟩, q _ _ (.refl _ _) dk (.int _)⟩
  · obtain ⟨x, rfl, rx⟩ := r.one
    split at e
    · rename_i hl
      cases e
      cases rx
      exact ⟨_, _, rfl, (show _ ∧ _ from ⟨hl, rfl⟩), q _ _ (.refl _ _) dk (.int _)⟩
    · cases e
  · cases e
/-- a list of bools -/
def bools : List D → Option (List Bool)
  | [] => some []
  | .bl b :: r => (bools r).map (b :: ·)
  | _ :: _ => none
theorem bools_rep {ad : DA} {H : Hp} : ∀ {ds : List D} {bs : List Bool} {vs : List V}, bools ds = some bs → RepAll K mg ad H vs ds → vs = bs.map V.bl
  | [], _, _, e, r => by cases e; cases r; rfl
  | .bl b :: ds, _, _, e, r => by
    simp only [bools, Option.map_eq_some_iff] at e
    obtain ⟨bs, e, rfl⟩ := e
    cases r with
    | cons a r =>
      cases a
      rw [bools_rep e r]
      rfl
  | .non :: _, _, _, e, _ => by simp [bools] at e
  | .int _ :: _, _, _, e, _ => by simp [bools] at e
  | .str _ :: _, _, _, e, _ => by simp [bools] at e
  | .tup _ :: _, _, _, e, _ => by simp [bools] at e
  | .lst _ :: _, _, _, e, _ => by simp [bools] at e
  | .draw :: _, _, _, e, _ => by simp [bools] at e
  | .fn _ :: _, _, _, e, _ => by simp [bools] at e
def allD : List D → Option D
  | [.lst ds] => (bools ds).map fun bs => .bl (bs.all id)
  | _ => none
def anyD : List D → Option D
  | [.lst ds] => (bools ds).map fun bs => .bl (bs.any id)
  | _ => none
theorem ad_all : AdC (RpE K mg) K mg (rAll K) allD := by
  intro ad H g xs ds c dk r e Q q
  unfold allD at e
  split at e
  · obtain ⟨x, rfl, rx⟩ := r.one
    rw [Option.map_eq_some_iff] at e
    obtain ⟨bs, e, rfl⟩ := e
    cases rx with
    | lst s ra =>
      have := bools_rep e ra
      subst this
      exact ⟨_, _, rfl, s.l, q _ _ (.refl _ _) dk (.bl _)⟩
  · cases e
theorem ad_any : AdC (RpE K mg) K mg (rAny K) anyD := by
  intro ad H g xs ds c dk r e Q q
  unfold anyD at e
  split at e
  · obtain ⟨x, rfl, rx⟩ := r.one
    rw [Option.map_eq_some_iff] at e
    obtain ⟨bs, e, rfl⟩ := e
    cases rx with
    | lst s ra =>
      have := bools_rep e ra
      subst this
      exact ⟨_, _, rfl, s.l, q _ _ (.refl _ _) dk (.bl _)⟩
  · cases e
def absD : List D → Option D
  | [.int i] => some (.int (if i < 0 then -i else i))
  | _ => none
theorem ad_abs : AdC (RpE K mg) K mg (fun xs H Q => ∃ i, xs = [.int i] ∧ Q (.int (if i < 0 then -i else i)) H) absD := by
  intro ad H g xs ds c dk r e Q q
  unfold absD at e
  split at e
  · obtain ⟨x, rfl, rx⟩ := r.one
    cases rx; cases e
    exact ⟨_, rfl, q _ _ (.refl _ _) dk (.int _)⟩
  · cases e
def intOfD : List D → Option D
  | [.int i] => some (.int i)
  | [.bl b] => some (.int (if b then 1 else 0))
  | _ => none
theorem ad_intOf : AdC (RpE K mg) K mg (fun xs H Q => (∃ i, xs = [.int i] ∧ Q (.int i) H) ∨ ∃ k, xs = [.bl k] ∧ Q (.int (if k then 1 else 0)) H) intOfD := by
  intro ad H g xs ds c dk r e Q q
  unfold intOfD at e
  split at e
  · obtain ⟨x, rfl, rx⟩ := r.one
    cases rx; cases e
    exact .inl ⟨_, rfl, q _ _ (.refl _ _) dk (.int _)⟩
  · obtain ⟨x, rfl, rx⟩ := r.one
    cases rx; cases e
    exact .inr ⟨_, rfl, q _ _ (.refl _ _) dk (.int _)⟩
  · cases e
/-- tuple(..) of a list or a tuple -/
def tupOfD : List D → Option D
  | [.lst ds] => some (.tup ds)
  | [.tup ds] => some (.tup ds)
  | _ => none
theorem ad_tupOf : AdC (RpE K mg) K mg (fun xs H Q => ∃ p ys, xs = [.ref p] ∧ ((SqL K H p ys ∧ ∀ l, H l = none → Q (.ref l) (upd H l (.tup ys))) ∨ (SqT K H p ys ∧ Q (.ref p) H))) tupOfD := by
  intro ad H g xs ds c dk r e Q q
  unfold tupOfD at e
  split at e
  · obtain ⟨x, rfl, rx⟩ := r.one
    cases e
    cases rx with
    | lst s ra => exact ⟨_, _, rfl, .inl ⟨s.l, fun l hl => q _ _ (Keep.upd hl) (dk.upd hl) (.tup (.of upd_same) (ra.keep (Keep.upd hl) dk))⟩⟩
  · obtain ⟨x, rfl, rx⟩ := r.one
    cases e
    cases rx with
    | tup s ra => exact ⟨_, _, rfl, .inr ⟨s, q _ _ (.refl _ _) dk (.tup s ra)⟩⟩
  · cases e
/-- list(..) of a list or a tuple: a new one -/
def lstOfD : List D → Option Fv
  | [.lst ds] => some (.f ds)
  | [.tup ds] => some (.f ds)
  | _ => none
theorem ad_lstOf : AdC (RpX K mg) K mg (fun xs H Q => ∃ p ys, xs = [.ref p] ∧ (SqL K H p ys ∨ SqT K H p ys) ∧ ∀ l, H l = none → Q (.ref l) (upd H l (.lst ys))) lstOfD := by
  intro ad H g xs ds c dk r e Q q
  unfold lstOfD at e
  split at e
  · obtain ⟨x, rfl, rx⟩ := r.one
    cases e
    cases rx with
    | lst s ra => exact ⟨_, _, rfl, .inl s.l, fun l hl => q _ _ (Keep.upd hl) (dk.upd hl) ⟨l, _, rfl, hl, upd_same, ra.keep (Keep.upd hl) dk⟩⟩
  · obtain ⟨x, rfl, rx⟩ := r.one
    cases e
    cases rx with
    | tup s ra => exact ⟨_, _, rfl, .inr s, fun l hl => q _ _ (Keep.upd hl) (dk.upd hl) ⟨l, _, rfl, hl, upd_same, ra.keep (Keep.upd hl) dk⟩⟩
  · cases e
/-- s.split(t): a new list of texts -/
def splitD (a : D) (bs : List D) : Option Fv := match a, bs with
  | .str x, [.str y] => if (y.length == 0) = false ∧ x.length + 2 ≤ sizeLine then some (.f ((Txt.split x y).map .str)) else none
  | _, _ => none
theorem rep_strs {ad : DA} {H : Hp} : ∀ ys : List Str, RepAll K mg ad H (ys.map V.str) (ys.map D.str)
  | [] => .nil
  | y :: ys => .cons (.str y) (rep_strs ys)
theorem ad_split : AdM (RpX K mg) K mg (fun x xs H Q => ∃ a b, x = .str a ∧ xs = [.str b] ∧ (b.length == 0) = false ∧ a.length + 2 ≤ sizeLine ∧ rNewStrs (Txt.split a b) H Q) splitD := by
  intro ad H g x xs d ds c dk rx rs e Q q
  unfold splitD at e
  split at e
  · obtain ⟨y, rfl, r⟩ := rs.one
    cases rx; cases r
    split at e
    · rename_i h
      cases e
      exact ⟨_, _, rfl, rfl, h.1, h.2, fun p hp => q _ _ (Keep.upd hp) (dk.upd hp) ⟨p, _, rfl, hp, upd_same, rep_strs _⟩⟩
    · cases e
  · cases e

/-! ### isinstance of a built-in class -/
def tyD : D → String
  | .non => "NoneType"
  | .bl _ => "bool"
  | .int _ => "int"
  | .str _ => "str"
  | .tup _ => "tuple"
  | .lst _ => "list"
  | _ => ""
def isiD (T : String) (a : D) : Option D := match a, T with
  | .draw, _ => none
  | .fn _, _ => none
  | .bl _, "int" => some (.bl true)
  | a, T => if T = "int" ∨ T = "str" ∨ T = "tuple" ∨ T = "list" ∨ T = "bool" then some (.bl (tyD a == T)) else none
theorem Rep.ty {ad : DA} {H : Hp} {x : V} {d : D} (r : Rep K mg ad H x d) (h : tyD d ≠ "") : TyX K H x (.type (tyD d)) := by
  cases r with
  | non => exact .base .non
  | bl _ => exact .base (.bl _)
  | int _ => exact .base (.int _)
  | str _ => exact .base (.str _)
  | tup s _ =>
    rcases s with (s | ⟨o, s⟩) | ⟨o, its, n, e, c, _⟩
    · exact .base (.tup s)
    · exact .fTuple s
    · exact .kTuple e c
  | lst s _ => obtain ⟨o, s⟩ := s; exact .base (.frz s)
  | draw => exact absurd rfl h
  | fn _ => exact absurd rfl h
theorem isi_kit {T : String} {a c : D} (e : isiD T a = some c) : tyD a ≠ "" ∧ ∃ b, c = .bl b ∧ kitB (tyD a) T = some b := by
  have all : ∀ t ∈ ["NoneType", "bool", "int", "str", "tuple", "list"], ∀ T ∈ ["int", "str", "tuple", "list", "bool"], kitB t T = some (if t = "bool" ∧ T = "int" then true else t == T) := by decide +kernel
  have mem : ∀ T, (T = "int" ∨ T = "str" ∨ T = "tuple" ∨ T = "list" ∨ T = "bool") → T ∈ ["int", "str", "tuple", "list", "bool"] := fun T h => by simpa using h
  unfold isiD at e
  split at e
  · cases e
  · cases e
  · cases e
    exact ⟨(by decide : ("bool" : String) ≠ ""), true, rfl, (by decide +kernel : kitB "bool" "int" = some true)⟩
  · rename_i h1 h2 h3
    split at e
    · rename_i hT
      cases e
      have ht : tyD a ∈ ["NoneType", "bool", "int", "str", "tuple", "list"] := by
        cases a <;> first | exact (h1 rfl).elim | exact (h2 _ rfl).elim | simp [tyD]
      refine ⟨fun z => by rw [z] at ht; exact absurd ht (by decide), _, rfl, ?_⟩
      rw [all _ ht _ (mem _ hT), if_neg]
      rintro ⟨z1, z2⟩
      cases a <;> first | exact h3 _ rfl z2 | simp [tyD] at z1
    · cases e
theorem de_isi {W : WX} {B : List Nat} {e : Expr} {ta : ET} {T : String} {x : Str} {p p2 pos : Pos} (ha : PE X e (eE X.K X.mg W B ta)) (hg : Gl X "isinstance") (hm : X.mg "isinstance" = none) (hg2 : Gl X x) (hm2 : X.mg x = none) (hv : bootBuiltins x = some (.type T)) (hn : x ≠ "__name__" := by decide) (hd : (x == ("__debug__" : Str)) = false := by decide)
    (hs : starEach [e, .Name x p2] X.env = (false, eval e X.env) :: starEach [.Name x p2] X.env := by rfl) (hpl : (backTo pos (starEach [.Name x p2] X.env)).any (·.1) = false := by rfl) (hs2 : starEach [.Name x p2] X.env = (false, eval (.Name x p2) X.env) :: starEach [] X.env := by rfl) :
    PE X (.Call (.Name "isinstance" p) [e, .Name x p2] [] pos) (eE X.K X.mg W B (dUn (isiD T) ta)) :=
  PE.imp (pe_callB call_isi hg hm PyProof.Rows.boot_isinstance (pa_cons ha (pa_cons (pe_bltn hg2 hm2 hv (v := .ty T) rfl hn hd) pa_nil hs2) hs) (by decide) (by decide) hs hpl) fun σ H Q ⟨a0, S, g, h⟩ => by
    have h : At (RpE X.K X.mg) X.K X.mg W (B ++ []) (dUn (isiD T) ta) a0 S g σ H Q := by rw [List.append_nil]; exact h
    refine .mk ((h.bind (Rp1 := RpE X.K X.mg) bkE).imp fun x H1 ⟨a, g1, k1, d1, r1, h2⟩ => ?_)
    obtain ⟨z, e, q⟩ := At.lift (o := fun _ => isiD T a) h2
    obtain ⟨h1, b, rfl, hk⟩ := isi_kit e
    exact ⟨x, .ty T, _, _, b, rfl, .ty T, r1.ty h1, kit_ty hk, q _ _ (.refl _ _) d1 (.bl b)⟩
end

/-! ### tests -/
section
variable {X : Cx} {W : WX} {B Ba Bb Bc : List Nat} {e a b c : Expr} {ta tb tc : ET} {sa sb : BT} {pos : Pos} {rest : List Expr}
/-- a bool as a test -/
def tOf (t : ET) : BT := fun S g => (t S g).bind fun d g1 => match d with
  | .bl b => .ok b g1
  | _ => .bad
theorem tOf_ap {t : ET} : ∀ σ H Q, eT X.K X.mg W B (tOf t) σ H Q → tB (eE X.K X.mg W B t) σ H Q := fun σ H Q ⟨a0, S, g, h⟩ => by
  have h : At RpT' X.K X.mg W (B ++ []) (tOf t) a0 S g σ H Q := by rw [List.append_nil]; exact h
  refine .mk ((h.bind (Rp1 := RpE X.K X.mg) bkT (k := fun d _ g1 => match d with | .bl b => .ok b g1 | _ => .bad)).imp fun x H1 ⟨a, g1, k1, d1, r1, h2⟩ => ?_)
  have p := h2.po
  cases r1 with
  | bl b => exact ⟨b, rfl, p b H1 (.refl _ _) d1 rfl⟩
  | _ => exact p.elim
theorem dt_val (h : PE X e (eE X.K X.mg W B ta)) (he : ∀ whole, isTrue e X.env whole = (do let v ← whole; standAt e.pos; holding [v] (truthy v)) := by intro _; rfl) : PT X e (eT X.K X.mg W B (tOf ta)) := PT.imp (pt_val h he) tOf_ap
/-- a comparison as a test -/
theorem dt_cmp {op : CmpOp} {r : R2} {f : D → D → Option D} (ho : OpR X (compareOp op) r) (ad : AdG (RpE X.K X.mg) X.K X.mg r f) (ha : PE X a (eE X.K X.mg W Ba ta)) (hb : PE X b (eE X.K X.mg W Bb tb)) (hm : behindInMarks op b = false) : PT X (.Compare a [op] [b] pos) (eT X.K X.mg W (Ba ++ Bb) (tOf (dBin f ta tb))) :=
  PT.imp (pt_cmpR ho ha hb hm) fun σ H Q h => ad.ap bkE σ H _ (tOf_ap σ H Q h)
/-- truth of any value -/
def truD : D → Option Bool
  | .non => some false
  | .bl b => some b
  | .int i => some (i != 0)
  | .str y => if y.length ≤ sizeLine then some ((y.length : Int) != 0) else none
  | .lst ds => some (!ds.isEmpty)
  | .tup ds => some (!ds.isEmpty)
  | _ => none
theorem truD_ok {K : PySem.W.Frag} {mg : Str → Option Value} {ad : DA} {H : Hp} {x : V} {d : D} {k : Bool} (r : Rep K mg ad H x d) (e : truD d = some k) : TruV K x H k := by
  have em : ∀ {vs : List V} {ds : List D}, RepAll K mg ad H vs ds → (!ds.isEmpty) = !vs.isEmpty := fun h => by cases h <;> rfl
  cases r with
  | non => cases e; rfl
  | bl _ => cases e; rfl
  | int _ => cases e; rfl
  | str y =>
    simp only [truD] at e
    split at e
    · cases e; exact ⟨by assumption, rfl⟩
    · cases e
  | tup s ra => cases e; exact .inr (.inl ⟨_, s, em ra⟩)
  | lst s ra => cases e; exact .inl ⟨_, s.l, em ra⟩
  | draw => cases e
  | fn _ => cases e
def tTru (t : ET) : BT := fun S g => (t S g).bind fun d g1 => lift (truD d) g1
theorem dt_tru (h : PE X e (eE X.K X.mg W B ta)) (he : ∀ whole, isTrue e X.env whole = (do let v ← whole; standAt e.pos; holding [v] (truthy v)) := by intro _; rfl) : PT X e (eT X.K X.mg W B (tTru ta)) :=
  PT.imp (pt_truth h he) fun σ H Q ⟨a0, S, g, h⟩ => by
    have h : At RpT' X.K X.mg W (B ++ []) (tTru ta) a0 S g σ H Q := by rw [List.append_nil]; exact h
    refine .mk ((h.bind (Rp1 := RpE X.K X.mg) bkT (k := fun d _ g1 => lift (truD d) g1)).imp fun x H1 ⟨a, g1, k1, d1, r1, h2⟩ => ?_)
    have p := h2.po
    cases e : truD a with
    | none => simp only [e, lift_none] at p; exact p.elim
    | some k => simp only [e, lift_some] at p; exact ⟨k, truD_ok r1 e, p k H1 (.refl _ _) d1 rfl⟩
def tNotD (s : BT) : BT := fun S g => (s S g).bind fun b g1 => .ok (!b) g1
theorem dt_not (h : PT X a (eT X.K X.mg W B sa)) : PT X (.UnaryOp .Not a pos) (eT X.K X.mg W B (tNotD sa)) := PT.imp (pt_not h) fun σ H Q ⟨a0, S, g, h⟩ => by
  have h : At RpT' X.K X.mg W (B ++ []) (tNotD sa) a0 S g σ H Q := by rw [List.append_nil]; exact h
  refine .mk ((h.bind (Rp1 := RpT') bkT (k := fun b _ g1 => .ok (!b) g1)).imp fun x H1 ⟨a, g1, k1, d1, r1, h2⟩ => ?_)
  cases r1
  exact h2.po _ _ (.refl _ _) d1 rfl
def tAndD (s t : BT) : BT := fun S g => (s S g).bind fun b g1 => if b = true then t S g1 else .ok false g1
def tOrD (s t : BT) : BT := fun S g => (s S g).bind fun b g1 => if b = true then .ok true g1 else t S g1
theorem At.ok {γ α : Type} {Rp : RpT γ α} {K : PySem.W.Frag} {mg : Str → Option Value} {B : List Nat} {t : DSt → G → R α} {ad : DA} {S : DSt} {g : G} {σ : St} {H : Hp} {Q : γ → Hp → Prop} (h : At Rp K mg W B t ad S g σ H Q) {a : α} {v : γ} (e : t S g = .ok a g) (r : Rp ad H H v a) : Q v H := by
  have p := h.po
  rw [e] at p
  exact p v H (.refl _ _) h.dk r
theorem tAndD_ap : ∀ σ H Q, eT X.K X.mg W (Ba ++ Bb) (tAndD sa sb) σ H Q → tAnd (eT X.K X.mg W Ba sa) (eT X.K X.mg W Bb sb) σ H Q := fun σ H Q ⟨a0, S, g, h⟩ => by
  refine .mk ((h.bind (Rp1 := RpT') bkT (k := fun b S g1 => if b = true then sb S g1 else .ok false g1)).imp fun x H1 ⟨a, g1, k1, d1, r1, h2⟩ => ?_)
  cases r1
  cases x with
  | true => rw [if_pos rfl]; exact .mk h2
  | false => rw [if_neg Bool.false_ne_true]; exact h2.ok rfl rfl
theorem tOrD_ap : ∀ σ H Q, eT X.K X.mg W (Ba ++ Bb) (tOrD sa sb) σ H Q → tOr (eT X.K X.mg W Ba sa) (eT X.K X.mg W Bb sb) σ H Q := fun σ H Q ⟨a0, S, g, h⟩ => by
  refine .mk ((h.bind (Rp1 := RpT') bkT (k := fun b S g1 => if b = true then .ok true g1 else sb S g1)).imp fun x H1 ⟨a, g1, k1, d1, r1, h2⟩ => ?_)
  cases r1
  cases x with
  | true => rw [if_pos rfl]; exact h2.ok rfl rfl
  | false => rw [if_neg Bool.false_ne_true]; exact .mk h2
theorem dw_and1 (h : PT X a (eT X.K X.mg W B sa)) : PW X (.BoolOp .And [a] pos) (eT X.K X.mg W B sa) := pw_and1 h
theorem dw_or1 (h : PT X a (eT X.K X.mg W B sa)) : PW X (.BoolOp .Or [a] pos) (eT X.K X.mg W B sa) := pw_or1 h
theorem dw_and (ha : PT X a (eT X.K X.mg W Ba sa)) (hb : PW X (.BoolOp .And (b :: rest) pos) (eT X.K X.mg W Bb sb)) : PW X (.BoolOp .And (a :: b :: rest) pos) (eT X.K X.mg W (Ba ++ Bb) (tAndD sa sb)) := PW.imp (pw_and ha hb) tAndD_ap
theorem dw_or (ha : PT X a (eT X.K X.mg W Ba sa)) (hb : PW X (.BoolOp .Or (b :: rest) pos) (eT X.K X.mg W Bb sb)) : PW X (.BoolOp .Or (a :: b :: rest) pos) (eT X.K X.mg W (Ba ++ Bb) (tOrD sa sb)) := PW.imp (pw_or ha hb) tOrD_ap
/-! as values: the first ones by their truth -/
def eAnd (t u : ET) : ET := fun S g => (t S g).bind fun d g1 => match truD d with
  | some true => u S g1
  | some false => .ok d g1
  | none => .bad
def eOr (t u : ET) : ET := fun S g => (t S g).bind fun d g1 => match truD d with
  | some true => .ok d g1
  | some false => u S g1
  | none => .bad
def eNot (t : ET) : ET := fun S g => (t S g).bind fun d g1 => lift ((truD d).map fun b => .bl (!b)) g1
theorem de_one {op : BoolOp} (h : PE X a (eE X.K X.mg W B ta)) : PE X (.BoolOp op [a] pos) (eE X.K X.mg W B ta) := pe_one h
theorem de_and (ha : PE X a (eE X.K X.mg W Ba ta)) (hb : PE X (.BoolOp .And (b :: rest) pos) (eE X.K X.mg W Bb tb)) : PE X (.BoolOp .And (a :: b :: rest) pos) (eE X.K X.mg W (Ba ++ Bb) (eAnd ta tb)) := PE.imp (pe_andT ha hb) fun σ H Q ⟨a0, S, g, h⟩ => by
  refine .mk ((h.bind (Rp1 := RpE X.K X.mg) bkE (k := fun d S g1 => match truD d with | some true => tb S g1 | some false => .ok d g1 | none => .bad)).imp fun x H1 ⟨a, g1, k1, d1, r1, h2⟩ => ?_)
  cases e : truD a with
  | none => have p := h2.po; simp only [e] at p; exact p.elim
  | some k =>
    refine ⟨k, truD_ok r1 e, ?_⟩
    cases k with
    | true => rw [if_pos rfl]; simp only [e] at h2; exact .mk h2
    | false => rw [if_neg Bool.false_ne_true]; simp only [e] at h2; exact h2.ok rfl r1
theorem de_or (ha : PE X a (eE X.K X.mg W Ba ta)) (hb : PE X (.BoolOp .Or (b :: rest) pos) (eE X.K X.mg W Bb tb)) : PE X (.BoolOp .Or (a :: b :: rest) pos) (eE X.K X.mg W (Ba ++ Bb) (eOr ta tb)) := PE.imp (pe_orT ha hb) fun σ H Q ⟨a0, S, g, h⟩ => by
  refine .mk ((h.bind (Rp1 := RpE X.K X.mg) bkE (k := fun d S g1 => match truD d with | some true => .ok d g1 | some false => tb S g1 | none => .bad)).imp fun x H1 ⟨a, g1, k1, d1, r1, h2⟩ => ?_)
  cases e : truD a with
  | none => have p := h2.po; simp only [e] at p; exact p.elim
  | some k =>
    refine ⟨k, truD_ok r1 e, ?_⟩
    cases k with
    | true => rw [if_pos rfl]; simp only [e] at h2; exact h2.ok rfl r1
    | false => rw [if_neg Bool.false_ne_true]; simp only [e] at h2; exact .mk h2
theorem de_not (h : PE X a (eE X.K X.mg W B ta)) : PE X (.UnaryOp .Not a pos) (eE X.K X.mg W B (eNot ta)) := PE.imp (pe_notT h) fun σ H Q ⟨a0, S, g, h⟩ => by
  have h : At (RpE X.K X.mg) X.K X.mg W (B ++ []) (eNot ta) a0 S g σ H Q := by rw [List.append_nil]; exact h
  refine .mk ((h.bind (Rp1 := RpE X.K X.mg) bkE (k := fun d _ g1 => lift ((truD d).map fun b => .bl (!b)) g1)).imp fun x H1 ⟨a, g1, k1, d1, r1, h2⟩ => ?_)
  cases e : truD a with
  | none => have p := h2.po; simp only [e] at p; exact p.elim
  | some k =>
    have p := h2.po
    simp only [e] at p
    exact ⟨k, truD_ok r1 e, p _ _ (.refl _ _) d1 (.bl _)⟩
/-- x if t else y -/
def eIf {α : Type} (s : BT) (t u : DSt → G → R α) : DSt → G → R α := fun S g => (s S g).bind fun b g1 => if b = true then t S g1 else u S g1
theorem At.sub {γ α : Type} {Rp : RpT γ α} {K : PySem.W.Frag} {mg : Str → Option Value} {B C : List Nat} {t : DSt → G → R α} {ad : DA} {S : DSt} {g : G} {σ : St} {H : Hp} {Q : γ → Hp → Prop} (h : At Rp K mg W B t ad S g σ H Q) (i : ∀ x ∈ C, x ∈ B) : At Rp K mg W C t ad S g σ H Q := ⟨⟨h.sr.1, fun x hx => h.sr.2 x (i x hx)⟩, h.dk, h.po⟩
theorem dr_if {α : Type} {Rp : RpT V α} {t u : DSt → G → R α} (bk : Bk Rp) (hc : PT X c (eT X.K X.mg W Bc sa)) (ha : PE X a (rd Rp X.K X.mg W Ba t)) (hb : PE X b (rd Rp X.K X.mg W Bb u)) : PE X (.IfExp c a b pos) (rd Rp X.K X.mg W (Bc ++ (Ba ++ Bb)) (eIf sa t u)) := PE.imp (pe_ifExp hc ha hb) fun σ H Q ⟨a0, S, g, h⟩ => by
  refine .mk ((h.bind (Rp1 := RpT') bk (k := fun b S g1 => if b = true then t S g1 else u S g1)).imp fun x H1 ⟨a, g1, k1, d1, r1, h2⟩ => ?_)
  cases r1
  cases x with
  | true => rw [if_pos rfl]; exact .mk ((show At Rp X.K X.mg W (Ba ++ Bb) t a0 S g1 σ H1 Q from h2).sub fun x hx => List.mem_append_left _ hx)
  | false => rw [if_neg Bool.false_ne_true]; exact .mk ((show At Rp X.K X.mg W (Ba ++ Bb) u a0 S g1 σ H1 Q from h2).sub fun x hx => List.mem_append_right _ hx)
/-- as a list that may be new -/
theorem dx_of (h : PE X e (eE X.K X.mg W B ta)) : PE X e (eX X.K X.mg W B (fun S g => (ta S g).map Fv.v)) := PE.imp h fun σ H Q ⟨a0, S, g, h⟩ => by
  refine ⟨a0, S, g, h.sr, h.dk, ?_⟩
  have p := h.po
  cases r : ta S g with
  | bad => simp only [r, R.map] at p; exact p
  | er x g' => simp only [r, R.map] at p; exact p
  | ok f g' => simp only [r, R.map] at p; exact p
/-- two comparisons in a row -/
def eChain (f f' : D → D → Option D) (ta tb tc : ET) : ET := fun S g => (ta S g).bind fun a g1 => (tb S g1).bind fun b g2 => match f a b with
  | some (.bl true) => (tc S g2).bind fun c g3 => lift (f' b c) g3
  | some (.bl false) => .ok (.bl false) g2
  | _ => .bad
theorem chain_ap {r r' : R2} {f f' : D → D → Option D} (ad1 : AdG (RpE X.K X.mg) X.K X.mg r f) (ad2 : AdG (RpE X.K X.mg) X.K X.mg r' f') : ∀ σ H Q, eE X.K X.mg W (Ba ++ (Bb ++ Bc)) (eChain f f' ta tb tc) σ H Q → tChain r r' (eE X.K X.mg W Ba ta) (eE X.K X.mg W Bb tb) (eE X.K X.mg W Bc tc) σ H Q := fun σ H Q ⟨a0, S, g, h⟩ => by
  refine .mk ((h.bind (Rp1 := RpE X.K X.mg) bkE (k := fun a S g1 => (tb S g1).bind fun b g2 => match f a b with | some (.bl true) => (tc S g2).bind fun c g3 => lift (f' b c) g3 | some (.bl false) => .ok (.bl false) g2 | _ => .bad)).imp fun x H1 ⟨a, g1, k1, d1, r1, h2⟩ => ?_)
  refine .mk ((h2.bind (Rp1 := RpE X.K X.mg) bkE (k := fun b S g2 => match f a b with | some (.bl true) => (tc S g2).bind fun c g3 => lift (f' b c) g3 | some (.bl false) => .ok (.bl false) g2 | _ => .bad)).imp fun y H2 ⟨b, g2, k2, d2, r2, h3⟩ => ?_)
  have p := h3.po
  cases e : f a b with
  | none => simp only [e] at p; exact p.elim
  | some z =>
    cases z with
    | bl k =>
      refine ad1 a0 H2 g2 x y a b _ d2 (r1.keep k2 d1) r2 e _ fun v H3 k3 d3 r3 => ?_
      cases r3
      refine ⟨k, rfl, ?_⟩
      cases k with
      | true =>
        rw [if_pos rfl]
        simp only [e] at h3
        have h4 : At (RpE X.K X.mg) X.K X.mg W (Bc ++ []) (fun S g => (tc S g).bind fun c g3 => (fun c (_ : DSt) g => DI.lift (f' b c) g) c S g3) a0 S g2 σ H3 Q := by
          rw [List.append_nil]
          exact ⟨h3.sr.keep k3 d2, d3, h3.po.back bkE k3 d3⟩
        refine .mk ((h4.bind (Rp1 := RpE X.K X.mg) bkE).imp fun w H4 ⟨c, g4, k4, d4, r4, h5⟩ => ?_)
        obtain ⟨z, e2, q⟩ := At.lift (o := fun _ => f' b c) h5
        exact ad2 a0 H4 g4 y w b c z d4 ((r2.keep k3 d2).keep k4 d3) r4 e2 Q q
      | false =>
        rw [if_neg Bool.false_ne_true]
        simp only [e] at h3
        exact h3.po _ _ k3 d3 (.bl _)
    | _ => simp only [e] at p; exact p.elim
theorem de_chain {op op' : CmpOp} {r r' : R2} {f f' : D → D → Option D} (ho : OpR X (compareOp op) r) (ho' : OpR X (compareOp op') r') (ad1 : AdG (RpE X.K X.mg) X.K X.mg r f) (ad2 : AdG (RpE X.K X.mg) X.K X.mg r' f')
    (ha : PE X a (eE X.K X.mg W Ba ta)) (hb : PE X b (eE X.K X.mg W Bb tb)) (hc : PE X c (eE X.K X.mg W Bc tc)) (hm : lastMarks [op, op'] [b, c] = false := by with_unfolding_all rfl) : PE X (.Compare a [op, op'] [b, c] pos) (eE X.K X.mg W (Ba ++ (Bb ++ Bc)) (eChain f f' ta tb tc)) := PE.imp (pe_chain ho ho' ha hb hc hm) (chain_ap ad1 ad2)
theorem dt_chain {op op' : CmpOp} {r r' : R2} {f f' : D → D → Option D} (ho : OpR X (compareOp op) r) (ho' : OpR X (compareOp op') r') (ad1 : AdG (RpE X.K X.mg) X.K X.mg r f) (ad2 : AdG (RpE X.K X.mg) X.K X.mg r' f')
    (ha : PE X a (eE X.K X.mg W Ba ta)) (hb : PE X b (eE X.K X.mg W Bb tb)) (hc : PE X c (eE X.K X.mg W Bc tc)) (hm : lastMarks [op, op'] [b, c] = false := by with_unfolding_all rfl) : PT X (.Compare a [op, op'] [b, c] pos) (eT X.K X.mg W (Ba ++ (Bb ++ Bc)) (tOf (eChain f f' ta tb tc))) := PT.imp (pt_chain ho ho' ha hb hc hm) fun σ H Q h => chain_ap ad1 ad2 σ H _ (tOf_ap σ H Q h)
end

/-! statements: slots that hold data, or a list of the def's own -/

inductive SV where
  | val (d : D) | own (ds : List D)
def SV.d : SV → D
  | .val d => d
  | .own ds => .lst ds
abbrev SS := List (Option SV)
def view (S : SS) : DSt := S.map (Option.map SV.d)
def frz1 : Option SV → Option SV
  | some (.own ds) => some (.val (.lst ds))
  | x => x
def frzFrom (B : List Nat) : Nat → SS → SS
  | _, [] => []
  | n, x :: r => (if B.contains n then frz1 x else x) :: frzFrom B (n + 1) r
def frzB (B : List Nat) (S : SS) : SS := frzFrom B 0 S
def post (f : Fv) (B : List Nat) (S : SS) : SS := if f.nol then S else frzB B S
def Fv.sv : Fv → SV
  | .v d => .val d
  | .f ds => .own ds
theorem frzFrom_get (B : List Nat) : ∀ (n : Nat) (S : SS) (i : Nat), (frzFrom B n S)[i]? = S[i]?.map fun x => if B.contains (n + i) then frz1 x else x
  | _, [], i => by simp [frzFrom]
  | n, x :: r, 0 => by simp [frzFrom]
  | n, x :: r, i + 1 => by
    simp only [frzFrom, List.getElem?_cons_succ]
    rw [frzFrom_get B (n + 1) r i, show n + 1 + i = n + (i + 1) by omega]
theorem frzB_get (B : List Nat) (S : SS) (i : Nat) : (frzB B S)[i]? = S[i]?.map fun x => if B.contains i then frz1 x else x := by
  unfold frzB; rw [frzFrom_get]; simp
theorem frzFrom_len (B : List Nat) : ∀ (n : Nat) (S : SS), (frzFrom B n S).length = S.length
  | _, [] => rfl
  | n, _ :: r => by simp [frzFrom, frzFrom_len B (n + 1) r]
theorem view_get (S : SS) (i : Nat) : (view S)[i]? = S[i]?.map (Option.map SV.d) := by simp [view]
theorem frz1_d (x : Option SV) : (frz1 x).map SV.d = x.map SV.d := by
  cases x with
  | none => rfl
  | some v => cases v <;> rfl

/-- tuples and frozen lists stay -/
structure Perm (H H' : Hp) : Prop where
  tup : ∀ a xs, H a = some (.tup xs) → H' a = some (.tup xs)
  frz : ∀ a o u, H a = some (.frz o u) → H' a = some (.frz o u)
theorem Perm.refl (H : Hp) : Perm H H := ⟨fun _ _ h => h, fun _ _ _ h => h⟩
theorem Perm.trans {H H1 H2 : Hp} (a : Perm H H1) (b : Perm H1 H2) : Perm H H2 := ⟨fun c xs h => b.tup c xs (a.tup c xs h), fun c o u h => b.frz c o u (a.frz c o u h)⟩
theorem Keep.perm {ad : DA} {H H' : Hp} {g : G} (k : Keep ad H H') (dk : DrawOk ad H g) : Perm H H' := ⟨fun a xs h => k a _ h (ne_of h dk.1 (by intro z; cases z)), fun a o u h => k a _ h (ne_of h dk.1 (by intro z; cases z))⟩
theorem Perm.upd {H : Hp} {p : Addr} {o : HO} (h : H p = none) : Perm H (upd H p o) := ⟨fun b x e => by rw [upd_ne (ne_of_none e h)]; exact e, fun b x u e => by rw [upd_ne (ne_of_none e h)]; exact e⟩
theorem Perm.sqT {K : PySem.W.Frag} {H H' : Hp} (p : Perm H H') {a : Addr} {xs : List V} (h : SqT K H a xs) : SqT K H' a xs := by
  rcases h with (h | ⟨o, h⟩) | h
  · exact .inl (.inl (p.tup _ _ h))
  · exact .inl (.inr ⟨o, p.frz _ _ _ h⟩)
  · exact .inr h
theorem Perm.sqP {K : PySem.W.Frag} {H H' : Hp} (p : Perm H H') {a : Addr} {xs : List V} (h : SqP K H a xs) : SqP K H' a xs := by
  obtain ⟨o, h⟩ := h
  exact ⟨o, p.frz _ _ _ h⟩
theorem Rep.perm {K : PySem.W.Frag} {mg : Str → Option Value} {ad : DA} {H H' : Hp} {v : V} {d : D} (r : Rep K mg ad H v d) (p : Perm H H') : Rep K mg ad H' v d := Rep.map (fun _ _ => p.sqT) (fun _ _ => p.sqP) d v r
theorem RepAll.perm {K : PySem.W.Frag} {mg : Str → Option Value} {ad : DA} {H H' : Hp} {v : List V} {d : List D} (r : RepAll K mg ad H v d) (p : Perm H H') : RepAll K mg ad H' v d := RepAll.map (fun _ _ => p.sqT) (fun _ _ => p.sqP) d v r

structure SRS (K : PySem.W.Frag) (mg : Str → Option Value) (H0 : Hp) (ad : DA) (H : Hp) (σ : St) (S : SS) : Prop where
  keep : Keep ad H0 H
  val : ∀ (i : Nat) d, S[i]? = some (some (SV.val d)) → ∃ v, σ[i]? = some (some v) ∧ Rep K mg ad H v d
  own : ∀ (i : Nat) ds, S[i]? = some (some (SV.own ds)) → ∃ a vs, σ[i]? = some (some (.ref a)) ∧ H a = some (.lst vs) ∧ RepAll K mg ad H vs ds ∧ H0 a = none ∧ a ≠ ad.ad
  dis : ∀ (i j : Nat) ds es a, S[i]? = some (some (SV.own ds)) → S[j]? = some (some (SV.own es)) → σ[i]? = some (some (.ref a)) → σ[j]? = some (some (.ref a)) → i = j
  len : σ.length = S.length

section
variable {K : PySem.W.Frag} {mg : Str → Option Value} {H0 : Hp} {ad : DA} {H H' : Hp} {σ : St} {S : SS} {g : G}
theorem SRS.keeps (s : SRS K mg H0 ad H σ S) (k : Keep ad H H') (dk : DrawOk ad H g) : SRS K mg H0 ad H' σ S :=
  ⟨s.keep.trans k, fun i d e => let ⟨v, h1, h2⟩ := s.val i d e; ⟨v, h1, h2.keep k dk⟩, fun i ds e => let ⟨a, vs, h1, h2, h3, h4, h5⟩ := s.own i ds e; ⟨a, vs, h1, k a _ h2 h5, h3.keep k dk, h4, h5⟩, s.dis, s.len⟩
theorem SRS.sr (s : SRS K mg H0 ad H σ S) {B : List Nat} (h : ∀ i ∈ B, ∀ ds, S[i]? ≠ some (some (SV.own ds))) : SR K mg ad H B σ (view S) := ⟨by rw [s.len]; simp [view], fun i hi d e => by
  rw [view_get] at e
  cases q : S[i]? with
  | none => rw [q] at e; cases e
  | some x =>
    rw [q] at e
    cases x with
    | none => cases e
    | some v =>
      cases v with
      | val d' => cases e; exact s.val i _ q
      | own ds => exact absurd q (h i hi ds)⟩
/-- forgetting a slot -/
theorem SRS.drop (s : SRS K mg H0 ad H σ S) {S' : SS} (hl : S'.length = S.length) (h : ∀ (i : Nat) v, S'[i]? = some (some v) → S[i]? = some (some v)) : SRS K mg H0 ad H σ S' :=
  ⟨s.keep, fun i d e => s.val i d (h i _ e), fun i ds e => s.own i ds (h i _ e), fun i j ds es a e1 e2 => s.dis i j ds es a (h i _ e1) (h j _ e2), s.len.trans hl.symm⟩
/-- a slot set to data -/
theorem SRS.setVal (s : SRS K mg H0 ad H σ S) {i : Nat} {v : V} {d : D} (r : Rep K mg ad H v d) : SRS K mg H0 ad H (σ.set i (some v)) (S.set i (some (.val d))) := by
  refine ⟨s.keep, fun j d' e => ?_, fun j ds e => ?_, fun j k ds es a e1 e2 e3 e4 => ?_, by simp [s.len]⟩
  · by_cases hj : i = j
    · subst hj
      by_cases hl : i < S.length
      · rw [List.getElem?_set_self hl] at e
        cases e
        exact ⟨v, List.getElem?_set_self (by rw [s.len]; exact hl), r⟩
      · rw [List.getElem?_eq_none (by simpa using hl)] at e; cases e
    · rw [List.getElem?_set_ne hj] at e ⊢
      exact s.val j d' e
  · by_cases hj : i = j
    · subst hj
      by_cases hl : i < S.length
      · rw [List.getElem?_set_self hl] at e; cases e
      · rw [List.getElem?_eq_none (by simpa using hl)] at e; cases e
    · rw [List.getElem?_set_ne hj] at e ⊢
      exact s.own j ds e
  · have ne : ∀ (j : Nat) ds, (S.set i (some (.val d)))[j]? = some (some (.own ds)) → i ≠ j := fun j ds e hj => by
      subst hj
      by_cases hl : i < S.length
      · rw [List.getElem?_set_self hl] at e; cases e
      · rw [List.getElem?_eq_none (by simpa using hl)] at e; cases e
    have n1 := ne j ds e1
    have n2 := ne k es e2
    rw [List.getElem?_set_ne n1] at e1 e3
    rw [List.getElem?_set_ne n2] at e2 e4
    exact s.dis j k ds es a e1 e2 e3 e4
/-- a slot set to a list of one's own -/
theorem SRS.setOwn (s : SRS K mg H0 ad H σ S) {i : Nat} {a : Addr} {vs : List V} {ds : List D} (e : H a = some (.lst vs)) (r : RepAll K mg ad H vs ds) (h0 : H0 a = none) (na : a ≠ ad.ad) (nd : ∀ (j : Nat) es, S[j]? = some (some (SV.own es)) → i ≠ j → σ[j]? ≠ some (some (.ref a))) :
    SRS K mg H0 ad H (σ.set i (some (.ref a))) (S.set i (some (.own ds))) := by
  have get : ∀ {j : Nat} {x}, (S.set i (some (.own ds)))[j]? = some x → (i = j ∧ x = some (.own ds) ∧ (σ.set i (some (.ref a)))[j]? = some (some (.ref a))) ∨ (i ≠ j ∧ S[j]? = some x ∧ (σ.set i (some (.ref a)))[j]? = σ[j]?) := fun {j x} h => by
    by_cases hj : i = j
    · subst hj
      by_cases hl : i < S.length
      · rw [List.getElem?_set_self hl] at h
        exact .inl ⟨rfl, (Option.some.inj h).symm, List.getElem?_set_self (by rw [s.len]; exact hl)⟩
      · rw [List.getElem?_eq_none (by simpa using hl)] at h; cases h
    · rw [List.getElem?_set_ne hj] at h
      exact .inr ⟨hj, h, List.getElem?_set_ne hj⟩
  refine ⟨s.keep, fun j d' h => ?_, fun j ds' h => ?_, fun j k ds1 es a' e1 e2 e3 e4 => ?_, by simp [s.len]⟩
  · rcases get h with ⟨_, h, _⟩ | ⟨_, h, q⟩
    · cases h
    · rw [q]; exact s.val j d' h
  · rcases get h with ⟨_, h, q⟩ | ⟨_, h, q⟩
    · cases h
      exact ⟨a, vs, q, e, r, h0, na⟩
    · rw [q]; exact s.own j ds' h
  · rcases get e1 with ⟨z1, h1, q1⟩ | ⟨z1, h1, q1⟩ <;> rcases get e2 with ⟨z2, h2, q2⟩ | ⟨z2, h2, q2⟩
    · exact z1.symm.trans z2
    · rw [q1] at e3; cases e3
      rw [q2] at e4
      exact absurd e4 (nd k es h2 z2)
    · rw [q2] at e4; cases e4
      rw [q1] at e3
      exact absurd e3 (nd j ds1 h1 z1)
    · rw [q1] at e3; rw [q2] at e4
      exact s.dis j k ds1 es a' h1 h2 e3 e4
end

/-- how a value lies that a statement gets: data, or a list just made -/
def FS (K : PySem.W.Frag) (mg : Str → Option Value) (H0 : Hp) (ad : DA) (H' : Hp) (σ : St) (S' : SS) (v : V) : Fv → Prop
  | .v d => Rep K mg ad H' v d
  | .f ds => ∃ a vs, v = .ref a ∧ H' a = some (.lst vs) ∧ RepAll K mg ad H' vs ds ∧ H0 a = none ∧ a ≠ ad.ad ∧ ∀ (j : Nat) es, S'[j]? = some (some (SV.own es)) → σ[j]? ≠ some (some (.ref a))
def pstB (K : PySem.W.Frag) (mg : Str → Option Value) (H0 : Hp) (ad : DA) (H : Hp) (σ : St) (S : SS) (B : List Nat) (Q : VK) (W : XK) : R Fv → Prop
  | .ok f g' => ∀ v H', Perm H H' → SRS K mg H0 ad H' σ (post f B S) → DrawOk ad H' g' → FS K mg H0 ad H' σ (post f B S) v f → Q v H'
  | .er x g' => ∀ c dd H', Perm H H' → SRS K mg H0 ad H' σ (frzB B S) → DrawOk ad H' g' → ExRep K mg ad H' c dd x → W c dd H'
  | .bad => False
/-- an expression within a statement: the lists of one's own are lent -/
def rdB (K : PySem.W.Frag) (mg : Str → Option Value) (H0 : Hp) (W : WX) (B : List Nat) (t : XT) : TE := fun σ H Q => ∃ ad S g, SRS K mg H0 ad H σ S ∧ DrawOk ad H g ∧ pstB K mg H0 ad H σ S B Q (fun c d H' => W c d σ H') (t (view S) g)

/-- the lists of the slots B are lent, and come back -/
theorem lend {X : Cx} {pins : List (Addr × Obj)} {s : Shared} {σ : St} {H : Hp} {ad : DA} {S : SS} {g : G} (B : List Nat) (I : Inv X pins σ H s) (sr : SRS X.K X.mg X.H_0 ad H σ S) (dk : DrawOk ad H g) :
    ∃ H1, Inv X pins σ H1 s ∧ SRS X.K X.mg X.H_0 ad H1 σ (frzB B S) ∧ SR X.K X.mg ad H1 B σ (view S) ∧ DrawOk ad H1 g ∧ Perm H H1 ∧ (∀ a, H1 a = none → H a = none) ∧
      ∀ H2 s2 g' σ2, Inv X pins σ2 H2 s2 → Keep ad H1 H2 → DrawOk ad H2 g' → ∃ H3, Inv X pins σ2 H3 s2 ∧ SRS X.K X.mg X.H_0 ad H3 σ S ∧ DrawOk ad H3 g' ∧ Perm H H3 ∧ (∀ a xs, SqT X.K H2 a xs → SqT X.K H3 a xs) ∧ (∀ a, H2 a = none → H3 a = none) ∧ (∀ a, H1 a = none → H3 a = H2 a) := by
  -- the lent lists
  let L : Addr → Prop := fun a => ∃ i, B.contains i = true ∧ ∃ ds, S[i]? = some (some (SV.own ds)) ∧ σ[i]? = some (some (.ref a))
  have hL : ∀ a, L a → ∃ vs, H a = some (.lst vs) ∧ X.H_0 a = none ∧ a ≠ ad.ad := fun a ⟨i, _, ds, e1, e2⟩ => by
    obtain ⟨a', vs, h1, h2, _, h4, h5⟩ := sr.own i ds e1
    rw [e2] at h1; cases h1
    exact ⟨vs, h2, h4, h5⟩
  have I1 := freeze I L
  generalize hH1 : fzSet L s.heap H = H1 at I1
  have adL : ¬ L ad.ad := fun z => (hL ad.ad z).choose_spec.2.2 rfl
  -- what is not a list stays
  have oth : ∀ a x, H a = some x → (∀ xs, x ≠ .lst xs) → H1 a = some x := fun a x e n => by rw [← hH1]; exact fz_other e n
  have non : ∀ a, ¬ L a → H1 a = H a := fun a n => by rw [← hH1]; exact fz_no n
  have lent : ∀ a, L a → ∀ vs, H a = some (.lst vs) → ∃ o, H1 a = some (.frz o (.lst vs)) := fun a hl vs e => by
    obtain ⟨ob, eo⟩ : ∃ ob, s.heap.get? a = some ob := objOk_get (I.hok a _ e)
    exact ⟨ob, by rw [← hH1]; exact fz_yes hl e eo⟩
  have gT : ∀ a xs, SqT X.K H a xs → SqT X.K H1 a xs := fun a xs q => by
    rcases q with (q | ⟨o, q⟩) | q
    · exact .inl (.inl (oth _ _ q (by intro xs z; cases z)))
    · exact .inl (.inr ⟨o, oth _ _ q (by intro xs z; cases z)⟩)
    · exact .inr q
  have gP : ∀ a xs, SqP X.K H a xs → SqP X.K H1 a xs := fun a xs ⟨o, q⟩ => ⟨o, oth _ _ q (by intro xs z; cases z)⟩
  have dk1 : DrawOk ad H1 g := dk.at_ (fun xs e => by rw [non ad.ad adL]; exact e) fun o u e => oth _ _ e (by intro xs z; cases z)
  have s1 : SRS X.K X.mg X.H_0 ad H1 σ (frzB B S) := by
    refine ⟨fun a o e n => ?_, fun i d e => ?_, fun i ds e => ?_, fun i j ds es a e1 e2 e3 e4 => ?_, by rw [sr.len]; exact (frzFrom_len B 0 S).symm⟩
    · rw [non a fun z => by obtain ⟨_, _, z, _⟩ := hL a z; rw [e] at z; cases z]
      exact sr.keep a o e n
    · rw [frzB_get] at e
      cases q : S[i]? with
      | none => rw [q] at e; cases e
      | some x =>
        rw [q] at e
        simp only [Option.map_some, Option.some.injEq] at e
        by_cases hb : B.contains i = true
        · rw [if_pos hb] at e
          cases x with
          | none => cases e
          | some v =>
            cases v with
            | val d' =>
              cases e
              obtain ⟨v, h1, h2⟩ := sr.val i _ q
              exact ⟨v, h1, Rep.map gT gP _ _ h2⟩
            | own ds =>
              cases e
              obtain ⟨a, vs, h1, h2, h3, _⟩ := sr.own i _ q
              obtain ⟨o, h6⟩ := lent a ⟨i, hb, ds, q, h1⟩ vs h2
              exact ⟨.ref a, h1, .lst ⟨o, h6⟩ (RepAll.map gT gP _ _ h3)⟩
        · rw [if_neg hb] at e
          subst e
          obtain ⟨v, h1, h2⟩ := sr.val i _ q
          exact ⟨v, h1, Rep.map gT gP _ _ h2⟩
    · rw [frzB_get] at e
      cases q : S[i]? with
      | none => rw [q] at e; cases e
      | some x =>
        rw [q] at e
        simp only [Option.map_some, Option.some.injEq] at e
        by_cases hb : B.contains i = true
        · rw [if_pos hb] at e
          cases x with
          | none => cases e
          | some v => cases v <;> cases e
        · rw [if_neg hb] at e
          subst e
          obtain ⟨a, vs, h1, h2, h3, h4, h5⟩ := sr.own i _ q
          refine ⟨a, vs, h1, ?_, RepAll.map gT gP _ _ h3, h4, h5⟩
          rw [non a fun ⟨j, hj, es, e1, e2⟩ => hb (by rw [sr.dis i j ds es a q e1 h1 e2]; exact hj)]
          exact h2
    · have back : ∀ {i : Nat} {ds}, (frzB B S)[i]? = some (some (.own ds)) → S[i]? = some (some (SV.own ds)) := fun {i ds} e => by
        rw [frzB_get] at e
        cases q : S[i]? with
        | none => rw [q] at e; cases e
        | some x =>
          rw [q] at e
          simp only [Option.map_some, Option.some.injEq] at e
          split at e
          · cases x with
            | none => cases e
            | some v => cases v <;> cases e
          · rw [e]
      exact sr.dis i j ds es a (back e1) (back e2) e3 e4
  have vw : view (frzB B S) = view S := by
    apply List.ext_getElem?
    intro i
    rw [view_get, view_get, frzB_get]
    cases S[i]? with
    | none => rfl
    | some x =>
      simp only [Option.map_some]
      split
      · rw [frz1_d]
      · rfl
  have sr1 : SR X.K X.mg ad H1 B σ (view S) := by
    rw [← vw]
    refine s1.sr fun i hi ds e => ?_
    rw [frzB_get] at e
    cases q : S[i]? with
    | none => rw [q] at e; cases e
    | some x =>
      rw [q] at e
      simp only [Option.map_some, Option.some.injEq] at e
      rw [if_pos (by simpa using hi)] at e
      cases x with
      | none => cases e
      | some v => cases v <;> cases e
  have h1L : ∀ a, H1 a = none → ¬ L a := fun a n hl => by
    obtain ⟨vs, e, _⟩ := hL a hl
    obtain ⟨o, e2⟩ := lent a hl vs e
    rw [n] at e2; cases e2
  refine ⟨H1, I1, s1, sr1, dk1, ⟨fun a xs e => oth _ _ e (by intro xs z; cases z), fun a o u e => oth _ _ e (by intro xs z; cases z)⟩, fun a n => by rw [← non a (h1L a n)]; exact n, fun H2 s2 g' σ2 I2 k2 d2 => ?_⟩
  have I3 := unfreeze I2 L fun a hl => (hL a hl).choose_spec.2.1
  generalize hH3 : ufSet L H2 = H3 at I3
  have oth3 : ∀ a x, H2 a = some x → (∀ o xs, x ≠ .frz o (.lst xs)) → H3 a = some x := fun a x e n => by rw [← hH3]; exact uf_other e n
  have non3 : ∀ a, ¬ L a → H3 a = H2 a := fun a n => by rw [← hH3]; exact uf_no n
  have gT3 : ∀ a xs, SqT X.K H2 a xs → SqT X.K H3 a xs := fun a xs q => by
    rcases q with (q | ⟨o, q⟩) | q
    · exact .inl (.inl (oth3 _ _ q (by intro o xs z; cases z)))
    · exact .inl (.inr ⟨o, oth3 _ _ q (by intro o xs z; cases z)⟩)
    · exact .inr q
  -- from the start: tuples, frozen lists
  have gT0 : ∀ a xs, SqT X.K H a xs → SqT X.K H3 a xs := fun a xs q => gT3 _ _ (k2.sqT dk1 (gT _ _ q))
  have gP0 : ∀ a xs, SqP X.K H a xs → SqP X.K H3 a xs := fun a xs ⟨o, q⟩ => by
    have nl : ¬ L a := fun hl => by obtain ⟨vs, e, _⟩ := hL a hl; rw [q] at e; cases e
    obtain ⟨o', q'⟩ := k2.sqP dk1 (gP a xs ⟨o, q⟩)
    exact ⟨o', by rw [non3 a nl]; exact q'⟩
  have d3 : DrawOk ad H3 g' := d2.at_ (fun xs e => by rw [non3 _ adL]; exact e) fun o u e => by
    rw [non3 _ fun hl => ?_]
    · exact e
    · obtain ⟨vs, e', _⟩ := hL _ hl
      obtain ⟨oc, e2⟩ := dk.2
      rw [e2] at e'; cases e'
  have back : ∀ a vs, L a → H a = some (.lst vs) → H3 a = some (.lst vs) := fun a vs hl e => by
    obtain ⟨o, e2⟩ := lent a hl vs e
    rw [← hH3]
    exact uf_yes hl (k2 a _ e2 fun z => (hL a hl).choose_spec.2.2 z)
  have k3 : Keep ad H H3 := fun a o e n => by
    by_cases hl : L a
    · obtain ⟨vs, e', _⟩ := hL a hl
      rw [e] at e'; cases e'
      exact back a vs hl e
    · rw [non3 a hl]
      exact k2 a o (by rw [non a hl]; exact e) n
  have s3 : SRS X.K X.mg X.H_0 ad H3 σ S := sr.keeps k3 dk
  exact ⟨H3, I3, s3, d3, k3.perm dk, gT3, fun a e => by rw [← hH3]; exact uf_none e, fun a n => non3 a (h1L a n)⟩
theorem post_yes {f : Fv} {B : List Nat} {S : SS} (h : f.nol = true) : post f B S = S := by unfold post; rw [if_pos h]
theorem post_no {f : Fv} {B : List Nat} {S : SS} (h : ¬ f.nol = true) : post f B S = frzB B S := by unfold post; rw [if_neg h]
theorem brw {X : Cx} {W : WX} {B : List Nat} {e : Expr} {t : XT} (h : PE X e (eX X.K X.mg W B t)) : PE X e (rdB X.K X.mg X.H_0 W B t) := by
  refine ⟨fun pins s σ H Q I hq => ?_⟩
  obtain ⟨ad, S, g, sr, dk, po⟩ := hq
  obtain ⟨H1, I1, s1, sr1, dk1, p1, hn0, back⟩ := lend B I sr dk
  refine thn (h.run pins s σ H1 (fun v H2 => ∃ f g', t (view S) g = .ok f g' ∧ Keep ad H1 H2 ∧ DrawOk ad H2 g' ∧ FRep X.K X.mg ad H1 H2 v f) I1 ⟨ad, view S, g, sr1, dk1, ?_⟩) fun u s2 ⟨v, H2, I2, r, f, g', ef, k2, d2, fr⟩ => ?_
  · cases r : t (view S) g with
    | bad => rw [r] at po; exact po
    | er x g' => rw [r] at po; exact fun c dd H' k' d' q => po c dd H' (p1.trans (k'.perm dk1)) (s1.keeps k' dk1) d' q
    | ok f g' => exact fun v H2 k2 d2 q => ⟨f, g', rfl, k2, d2, q⟩
  · rw [ef] at po
    by_cases hn : f.nol = true
    · obtain ⟨H3, I3, s3, d3, p3, gT3, nn, same⟩ := back H2 s2 g' σ I2 k2 d2
      refine ⟨v, H3, I3, r, po v H3 p3 (by rw [post_yes hn]; exact s3) d3 ?_⟩
      rw [post_yes hn]
      cases f with
      | v d => exact Rep.mapN gT3 d v hn fr
      | f ds =>
        obtain ⟨a, vs, rfl, na, ea, ra⟩ := fr
        have na' : H a = none := hn0 a na
        refine ⟨a, vs, rfl, by rw [same a na]; exact ea, RepAll.mapN gT3 ds vs hn ra, sr.keep.free (dk.ne na') na', dk.ne na', fun j es e1 e2 => ?_⟩
        obtain ⟨a', ws, f1, f2, _⟩ := sr.own j es e1
        rw [e2] at f1; cases f1
        rw [na'] at f2; cases f2
    · refine ⟨v, H2, I2, r, po v H2 (p1.trans (k2.perm dk1)) (by rw [post_no hn]; exact s1.keeps k2 dk1) d2 ?_⟩
      rw [post_no hn]
      cases f with
      | v d => exact fr
      | f ds =>
        obtain ⟨a, vs, rfl, na, ea, ra⟩ := fr
        refine ⟨a, vs, rfl, ea, ra, s1.keep.free (dk1.ne na) na, dk1.ne na, fun j es e1 e2 => ?_⟩
        obtain ⟨a', ws, f1, f2, _⟩ := s1.own j es e1
        rw [e2] at f1; cases f1
        rw [na] at f2; cases f2
def pstTB (K : PySem.W.Frag) (mg : Str → Option Value) (H0 : Hp) (ad : DA) (H : Hp) (σ : St) (S : SS) (B : List Nat) (Q : Bool → Hp → Prop) (W : XK) : R Bool → Prop
  | .ok b g' => ∀ H', Perm H H' → SRS K mg H0 ad H' σ S → DrawOk ad H' g' → Q b H'
  | .er x g' => ∀ c dd H', Perm H H' → SRS K mg H0 ad H' σ (frzB B S) → DrawOk ad H' g' → ExRep K mg ad H' c dd x → W c dd H'
  | .bad => False
def rdTB (K : PySem.W.Frag) (mg : Str → Option Value) (H0 : Hp) (W : WX) (B : List Nat) (t : BT) : TT := fun σ H Q => ∃ ad S g, SRS K mg H0 ad H σ S ∧ DrawOk ad H g ∧ pstTB K mg H0 ad H σ S B Q (fun c d H' => W c d σ H') (t (view S) g)
theorem brwT {X : Cx} {W : WX} {B : List Nat} {e : Expr} {t : BT} (h : PT X e (eT X.K X.mg W B t)) : PT X e (rdTB X.K X.mg X.H_0 W B t) := by
  refine ⟨fun pins s σ H Q I hq => ?_⟩
  obtain ⟨ad, S, g, sr, dk, po⟩ := hq
  obtain ⟨H1, I1, s1, sr1, dk1, p1, hn0, back⟩ := lend B I sr dk
  refine thn (h.run pins s σ H1 (fun b H2 => ∃ g', t (view S) g = .ok b g' ∧ Keep ad H1 H2 ∧ DrawOk ad H2 g') I1 ⟨ad, view S, g, sr1, dk1, ?_⟩) fun b s2 ⟨H2, I2, g', ef, k2, d2⟩ => ?_
  · cases r : t (view S) g with
    | bad => rw [r] at po; exact po
    | er x g' => rw [r] at po; exact fun c dd H' k' d' q => po c dd H' (p1.trans (k'.perm dk1)) (s1.keeps k' dk1) d' q
    | ok f g' => exact fun v H2 k2 d2 q => ⟨g', by rw [show v = f from q], k2, d2⟩
  · rw [ef] at po
    obtain ⟨H3, I3, s3, d3, p3, gT3, nn, same⟩ := back H2 s2 g' σ I2 k2 d2
    exact ⟨H3, I3, po H3 p3 s3 d3⟩

/-! statements -/
inductive RS where
  | nx (S : SS) (g : G) | ret (d : D) (g : G) | bk (S : SS) (g : G) | ct (S : SS) (g : G) | er (x : Exn) (S : SS) (g : G) | bad
abbrev SB := SS → G → RS
def pstS (K : PySem.W.Frag) (mg : Str → Option Value) (H0 : Hp) (W : WX) (ad : DA) (H : Hp) (E : Ends) : RS → Prop
  | .nx S g => ∀ σ' H', Perm H H' → SRS K mg H0 ad H' σ' S → DrawOk ad H' g → E.nx σ' H'
  | .bk S g => ∀ σ' H', Perm H H' → SRS K mg H0 ad H' σ' S → DrawOk ad H' g → E.bk σ' H'
  | .ct S g => ∀ σ' H', Perm H H' → SRS K mg H0 ad H' σ' S → DrawOk ad H' g → E.ct σ' H'
  | .ret d g => ∀ v H', Perm H H' → Keep ad H0 H' → DrawOk ad H' g → Rep K mg ad H' v d → E.rt v H'
  | .er x S g => ∀ c dd σ' H', Perm H H' → SRS K mg H0 ad H' σ' S → DrawOk ad H' g → ExRep K mg ad H' c dd x → W c dd σ' H'
  | .bad => False
structure AtS (K : PySem.W.Frag) (mg : Str → Option Value) (H0 : Hp) (W : WX) (b : SB) (ad : DA) (S : SS) (g : G) (E : Ends) (σ : St) (H : Hp) : Prop where
  sr : SRS K mg H0 ad H σ S
  dk : DrawOk ad H g
  po : pstS K mg H0 W ad H E (b S g)
def rdS (K : PySem.W.Frag) (mg : Str → Option Value) (H0 : Hp) (W : WX) (b : SB) : TS := fun E σ H => ∃ ad S g, AtS K mg H0 W b ad S g E σ H
theorem pstS.perm {K : PySem.W.Frag} {mg : Str → Option Value} {H0 : Hp} {W : WX} {ad : DA} {H H1 : Hp} {E : Ends} {r : RS} (p : pstS K mg H0 W ad H E r) (k : Perm H H1) : pstS K mg H0 W ad H1 E r := by
  cases r with
  | nx S g => exact fun σ' H' k' => p σ' H' (k.trans k')
  | bk S g => exact fun σ' H' k' => p σ' H' (k.trans k')
  | ct S g => exact fun σ' H' k' => p σ' H' (k.trans k')
  | ret d g => exact fun σ' H' k' => p σ' H' (k.trans k')
  | er x S g => exact fun c dd σ' H' k' => p c dd σ' H' (k.trans k')
  | bad => exact p

def sSkip : SB := fun S g => .nx S g
def sSeq (a b : SB) : SB := fun S g => match a S g with
  | .nx S1 g1 => b S1 g1
  | r => r
def sSet (i : Nat) (B : List Nat) (t : XT) : SB := fun S g => match t (view S) g with
  | .ok f g' => .nx ((post f B S).set i (some f.sv)) g'
  | .er x g' => .er x (frzB B S) g'
  | .bad => .bad
def sRet (B : List Nat) (t : ET) : SB := fun S g => match t (view S) g with
  | .ok d g' => .ret d g'
  | .er x g' => .er x (frzB B S) g'
  | .bad => .bad
def sRetN : SB := fun S g => .ret .non g
def sExpr (B : List Nat) (t : ET) : SB := fun S g => match t (view S) g with
  | .ok d g' => .nx (post (.v d) B S) g'
  | .er x g' => .er x (frzB B S) g'
  | .bad => .bad
def sIf (B : List Nat) (c : BT) (a b : SB) : SB := fun S g => match c (view S) g with
  | .ok true g' => a S g'
  | .ok false g' => b S g'
  | .er x g' => .er x (frzB B S) g'
  | .bad => .bad
section
variable {X : Cx} {W : WX} {B : List Nat} {e : Expr} {t : XT} {u : ET} {st : Stmt} {rest : List Stmt} {a b : SB} {pos : Pos}
abbrev SD (X : Cx) (W : WX) (st : Stmt) (b : SB) : Prop := PS X st (rdS X.K X.mg X.H_0 W b)
abbrev SDs (X : Cx) (W : WX) (st : List Stmt) (b : SB) : Prop := PSs X st (rdS X.K X.mg X.H_0 W b)
theorem ds_nil : SDs X W [] sSkip := PSs.imp pss_nil fun D σ H ⟨ad, S, g, h⟩ => h.po σ H (.refl _) h.sr h.dk
theorem ds_cons (h1 : SD X W st a) (h2 : SDs X W rest b) : SDs X W (st :: rest) (sSeq a b) := PSs.imp (pss_cons h1 h2) fun D σ H ⟨ad, S, g, h⟩ => by
  refine ⟨ad, S, g, h.sr, h.dk, ?_⟩
  have p := h.po
  unfold sSeq at p
  cases r : a S g with
  | nx S1 g1 => rw [r] at p; exact fun σ' H' k sr dk => ⟨ad, S1, g1, sr, dk, p.perm k⟩
  | bk S1 g1 => rw [r] at p; exact p
  | ct S1 g1 => rw [r] at p; exact p
  | ret d g1 => rw [r] at p; exact p
  | er x S1 g1 => rw [r] at p; exact p
  | bad => rw [r] at p; exact p
theorem ds_one (h1 : SD X W st a) : SDs X W [st] a := PSs.imp (pss_one h1) fun D σ H h => h
theorem ds_pass : SD X W (.Pass pos) sSkip := PS.imp ps_pass fun D σ H ⟨ad, S, g, h⟩ => h.po σ H (.refl _) h.sr h.dk
theorem ds_break : SD X W (.Break pos) (fun S g => .bk S g) := PS.imp ps_break fun D σ H ⟨ad, S, g, h⟩ => h.po σ H (.refl _) h.sr h.dk
theorem ds_continue : SD X W (.Continue pos) (fun S g => .ct S g) := PS.imp ps_continue fun D σ H ⟨ad, S, g, h⟩ => h.po σ H (.refl _) h.sr h.dk
/-- storing what a statement got -/
theorem SRS.store {K : PySem.W.Frag} {mg : Str → Option Value} {H0 : Hp} {ad : DA} {H : Hp} {σ : St} {S : SS} {i : Nat} {v : V} {f : Fv} (s : SRS K mg H0 ad H σ S) (r : FS K mg H0 ad H σ S v f) : SRS K mg H0 ad H (σ.set i (some v)) (S.set i (some f.sv)) := by
  cases f with
  | v d => exact s.setVal r
  | f ds =>
    obtain ⟨a, vs, rfl, e, ra, h0, na, nd⟩ := r
    exact s.setOwn e ra h0 na fun j es h _ => nd j es h
theorem ds_set {i : Nat} {x : Str} {pos' : Pos} (hN : X.N.Nodup) (hi : X.N[i]? = some x) (hx : Loc X.env.scope x) (he : PE X e (eX X.K X.mg W B t)) (hs : swapsWith e (some (.Name x pos')) pos.line X.env = pure false := by rfl) (hf : X.fn x = true ∨ X.env.scope.names.lookup x = some .local := by first | exact .inl rfl | exact .inr rfl | assumption) :
    SD X W (.Assign [.Name x pos'] e pos) (sSet i B t) := PS.imp (ps_set hN hi hx (brw he) hs hf) fun D σ H ⟨ad, S, g, h⟩ => by
  refine ⟨ad, S, g, h.sr, h.dk, ?_⟩
  have p := h.po
  unfold sSet at p
  cases r : t (view S) g with
  | bad => rw [r] at p; exact p
  | er x g' => rw [r] at p; exact fun c dd H' k sr dk q => p c dd _ H' k sr dk q
  | ok f g' => rw [r] at p; exact fun v H' k sr dk q => p _ H' k (sr.store q) dk
theorem ds_ret (he : PE X e (eE X.K X.mg W B u)) : SD X W (.Return (some e) pos) (sRet B u) := PS.imp (ps_ret (brw (dx_of he))) fun D σ H ⟨ad, S, g, h⟩ => by
  refine ⟨ad, S, g, h.sr, h.dk, ?_⟩
  have p := h.po
  unfold sRet at p
  show pstB X.K X.mg X.H_0 ad H σ S B _ _ ((u (view S) g).map Fv.v)
  cases r : u (view S) g with
  | bad => rw [r] at p; exact p
  | er x g' => rw [r] at p; exact fun c dd H' k sr dk q => p c dd _ H' k sr dk q
  | ok f g' => rw [r] at p; exact fun v H' k sr dk q => p v H' k sr.keep dk q
theorem ds_retN : SD X W (.Return none pos) sRetN := PS.imp ps_retN fun D σ H ⟨ad, S, g, h⟩ => h.po .non H (.refl _) h.sr.keep h.dk .non
theorem ds_expr (he : PE X e (eE X.K X.mg W B u)) (hs : swapsWith e none pos.line X.env = pure false := by rfl) : SD X W (.Expr e pos) (sExpr B u) := PS.imp (ps_expr (brw (dx_of he)) hs) fun D σ H ⟨ad, S, g, h⟩ => by
  refine ⟨ad, S, g, h.sr, h.dk, ?_⟩
  have p := h.po
  unfold sExpr at p
  show pstB X.K X.mg X.H_0 ad H σ S B _ _ ((u (view S) g).map Fv.v)
  cases r : u (view S) g with
  | bad => rw [r] at p; exact p
  | er x g' => rw [r] at p; exact fun c dd H' k sr dk q => p c dd _ H' k sr dk q
  | ok f g' => rw [r] at p; exact fun v H' k sr dk q => p σ H' k sr dk
theorem ds_if {c : Expr} {s : BT} {xs ys : List Stmt} (hc : PT X c (eT X.K X.mg W B s)) (ha : SDs X W xs a) (hb : SDs X W ys b) : SD X W (.If c xs ys pos) (sIf B s a b) := PS.imp (ps_if (brwT hc) ha hb) fun D σ H ⟨ad, S, g, h⟩ => by
  refine ⟨ad, S, g, h.sr, h.dk, ?_⟩
  have p := h.po
  unfold sIf at p
  cases r : s (view S) g with
  | bad => rw [r] at p; exact p
  | er x g' => rw [r] at p; exact fun c dd H' k sr dk q => p c dd _ H' k sr dk q
  | ok f g' =>
    rw [r] at p
    cases f with
    | true => exact fun H' k sr dk => (iteT (A := rdS X.K X.mg X.H_0 W a D σ H') ⟨ad, S, g', sr, dk, p.perm k⟩)
    | false => exact fun H' k sr dk => (iteF (B := rdS X.K X.mg X.H_0 W b D σ H') ⟨ad, S, g', sr, dk, p.perm k⟩)
end

/-! ### targets -/
inductive Tgt where
  | nm (i : Nat) | tp (is : List Nat)
def setAll {α : Type} (f : D → α) : List Nat → List D → List (Option α) → Option (List (Option α))
  | [], [], S => some S
  | i :: is, d :: ds, S => setAll f is ds (S.set i (some (f d)))
  | _, _, _ => none
/-- the items of what is unpacked -/
def itemsD : D → Option (List D)
  | .tup ds => some ds
  | .lst ds => some ds
  | _ => none
def setT {α : Type} (f : D → α) : Tgt → D → List (Option α) → Option (List (Option α))
  | .nm i, d, S => some (S.set i (some (f d)))
  | .tp is, d, S => (itemsD d).bind fun ds => setAll f is ds S
abbrev setS : Tgt → D → SS → Option SS := setT SV.val
abbrev setD : Tgt → D → DSt → Option DSt := setT id
/-- what a target asks -/
def gNames : List Nat → TGs
  | [] => gNil
  | i :: is => gCons (gName i) (gNames is)
def gT (K : PySem.W.Frag) : Tgt → TG
  | .nm i => gName i
  | .tp is => fun v σ H Q => gTup K is.length (gNames is) v σ H Q ∨ gLst K is.length (gNames is) v σ H Q
structure TgOk (X : Cx) (tg : Expr) (t : Tgt) : Prop where
  pg : PG X tg (gT X.K t)
section
variable {X : Cx} {pos : Pos}
theorem tg_nm {i : Nat} {x : Str} (hN : X.N.Nodup) (hi : X.N[i]? = some x) (hx : Loc X.env.scope x) (hf : X.fn x = true ∨ X.env.scope.names.lookup x = some .local := by first | exact .inl rfl | exact .inr rfl | assumption) : TgOk X (.Name x pos) (.nm i) := ⟨pg_name hN hi hx hf⟩
theorem tgs_nil : PGs X [] (gNames []) := pgs_nil
theorem tgs_cons {i : Nat} {is : List Nat} {x : Str} {es : List Expr} (hN : X.N.Nodup) (hi : X.N[i]? = some x) (hx : Loc X.env.scope x) (h2 : PGs X es (gNames is)) (hs : (assignEach (.Name x pos :: es) X.env).map (·.2) = assign (.Name x pos) X.env :: (assignEach es X.env).map (·.2) := by rfl)
    (hf : X.fn x = true ∨ X.env.scope.names.lookup x = some .local := by first | exact .inl rfl | exact .inr rfl | assumption) : PGs X (.Name x pos :: es) (gNames (i :: is)) := pgs_cons (pg_name hN hi hx hf) h2 hs
theorem tg_tp {es : List Expr} {k : Nat} {is : List Nat} (hc : X.calm = true) (h : PGs X es (gNames is)) (hn : (assignEach es X.env).length = is.length := by rfl) (hst : (assignEach es X.env).findIdx? (·.1) = none := by rfl) : TgOk X (.Tuple es k pos) (.tp is) :=
  ⟨⟨fun pins s σ H v u Q I r hw => hw.elim (fun q => (pg_tup hc h hn hst).run pins s σ H v u Q I r q) fun q => (pg_lst hc h hn hst).run pins s σ H v u Q I r q⟩⟩
end
section
variable {K : PySem.W.Frag} {mg : Str → Option Value} {H0 : Hp} {ad : DA} {H : Hp}
theorem gNames_S : ∀ {is : List Nat} {vs : List V} {ds : List D} {σ : St} {S S' : SS} {Q : St → Hp → Prop}, RepAll K mg ad H vs ds → SRS K mg H0 ad H σ S → setAll SV.val is ds S = some S' → (∀ σ', SRS K mg H0 ad H σ' S' → Q σ' H) → gNames is vs σ H Q
  | [], _, [], _, _, _, _, r, s, e, q => by cases r; cases e; exact ⟨rfl, q _ s⟩
  | i :: is, _, d :: ds, _, _, _, _, r, s, e, q => by
    cases r with
    | cons a b => exact ⟨_, _, rfl, gNames_S b (s.setVal a) e q⟩
  | [], _, _ :: _, _, _, _, _, _, _, e, _ => by cases e
  | _ :: _, _, [], _, _, _, _, _, _, e, _ => by cases e
theorem setAll_len {α : Type} {f : D → α} : ∀ {is : List Nat} {ds : List D} {S S' : List (Option α)}, setAll f is ds S = some S' → ds.length = is.length
  | [], [], _, _, _ => rfl
  | _ :: is, _ :: ds, _, _, e => by rw [List.length_cons, List.length_cons, setAll_len (is := is) (ds := ds) e]
  | [], _ :: _, _, _, e => by cases e
  | _ :: _, [], _, _, e => by cases e
theorem gT_S {t : Tgt} {v : V} {d : D} {σ : St} {S S' : SS} {Q : St → Hp → Prop} (r : Rep K mg ad H v d) (s : SRS K mg H0 ad H σ S) (e : setS t d S = some S') (q : ∀ σ', SRS K mg H0 ad H σ' S' → Q σ' H) : gT K t v σ H Q := by
  cases t with
  | nm i => cases e; exact q _ (s.setVal r)
  | tp is =>
    unfold setS setT at e
    cases r with
    | tup st ra =>
      have e : setAll SV.val is _ S = some S' := e
      exact .inl ⟨_, _, rfl, st, by rw [ra.len, setAll_len e], gNames_S ra s e q⟩
    | lst st ra =>
      have e : setAll SV.val is _ S = some S' := e
      exact .inr ⟨_, _, rfl, st.l, by rw [ra.len, setAll_len e], gNames_S ra s e q⟩
    | _ => cases e
theorem SR.set {B : List Nat} {σ : St} {S : DSt} {i : Nat} {v : V} {d : D} (s : SR K mg ad H B σ S) (r : Rep K mg ad H v d) : SR K mg ad H (i :: B) (σ.set i (some v)) (S.set i (some d)) := ⟨by simp [s.1], fun j hj d' e => by
  by_cases hi : i = j
  · subst hi
    by_cases hlt : i < S.length
    · rw [List.getElem?_set_self hlt] at e; cases e
      exact ⟨v, List.getElem?_set_self (by rw [s.1]; exact hlt), r⟩
    · rw [List.getElem?_eq_none (by simpa using hlt)] at e; cases e
  · rw [List.getElem?_set_ne hi] at e ⊢
    rcases List.mem_cons.mp hj with z | z
    · exact absurd z.symm hi
    · exact s.2 j z d' e⟩
theorem gNames_D : ∀ {is : List Nat} {vs : List V} {ds : List D} {B : List Nat} {σ : St} {S S' : DSt} {Q : St → Hp → Prop}, RepAll K mg ad H vs ds → SR K mg ad H B σ S → setAll id is ds S = some S' → (∀ σ' C, (∀ i, i ∈ is ∨ i ∈ B → i ∈ C) → SR K mg ad H C σ' S' → Q σ' H) → gNames is vs σ H Q
  | [], _, [], B, _, _, _, _, r, s, e, q => by cases r; cases e; exact ⟨rfl, q _ B (fun i h => h.elim (fun z => nomatch z) id) s⟩
  | i :: is, _, d :: ds, B, _, _, _, _, r, s, e, q => by
    cases r with
    | cons a b => exact ⟨_, _, rfl, gNames_D b (s.set (i := i) a) e fun σ' C hC => q σ' C fun j h => hC j (by
        rcases h with h | h
        · rcases List.mem_cons.mp h with z | z
          · exact .inr (by rw [z]; exact List.mem_cons_self)
          · exact .inl z
        · exact .inr (List.mem_cons_of_mem _ h))⟩
  | [], _, _ :: _, _, _, _, _, _, _, _, e, _ => by cases e
  | _ :: _, _, [], _, _, _, _, _, _, _, e, _ => by cases e
def Tgt.is : Tgt → List Nat
  | .nm i => [i]
  | .tp is => is
theorem gT_D {t : Tgt} {v : V} {d : D} {B : List Nat} {σ : St} {S S' : DSt} {Q : St → Hp → Prop} (r : Rep K mg ad H v d) (s : SR K mg ad H B σ S) (e : setD t d S = some S') (q : ∀ σ' C, (∀ i, i ∈ t.is ∨ i ∈ B → i ∈ C) → SR K mg ad H C σ' S' → Q σ' H) : gT K t v σ H Q := by
  cases t with
  | nm i => cases e; exact q _ (i :: B) (fun j h => h.elim (fun z => by rw [List.mem_singleton.mp z]; exact List.mem_cons_self) (List.mem_cons_of_mem _)) (s.set r)
  | tp is =>
    unfold setD setT at e
    cases r with
    | tup st ra =>
      have e : setAll id is _ S = some S' := e
      exact .inl ⟨_, _, rfl, st, by rw [ra.len, setAll_len e], gNames_D ra s e q⟩
    | lst st ra =>
      have e : setAll id is _ S = some S' := e
      exact .inr ⟨_, _, rfl, st.l, by rw [ra.len, setAll_len e], gNames_D ra s e q⟩
    | _ => cases e
end

/-! ### what is walked -/
/-- the walk J gives these items -/
def ItOk (K : PySem.W.Frag) (mg : Str → Option Value) (ad : DA) (H' : Hp) (J : It) (ds : List D) : Prop :=
  ds.length ≤ sizeLine ∧ ∃ (Gd : Hp → Prop) (Y : Nat → Hp → V → Hp → Prop), Walk J ds.length Gd Y ∧ (∀ H2, Perm H' H2 → Gd H2) ∧
    ∀ i H2 x H3, i < ds.length → Perm H' H2 → Y i H2 x H3 → (H3 = H2 ∨ ∃ T o, H2 T = none ∧ H3 = upd H2 T o) ∧ ∃ d, ds[i]? = some d ∧ Rep K mg ad H3 x d
def pstI (K : PySem.W.Frag) (mg : Str → Option Value) (ad : DA) (H : Hp) (Q : It → Hp → Prop) (W : XK) : R (List D) → Prop
  | .ok ds g' => ∀ J H', Keep ad H H' → DrawOk ad H' g' → ItOk K mg ad H' J ds → Q J H'
  | .er x g' => ∀ c dd H', Keep ad H H' → DrawOk ad H' g' → ExRep K mg ad H' c dd x → W c dd H'
  | .bad => False
def rdI (K : PySem.W.Frag) (mg : Str → Option Value) (W : WX) (B : List Nat) (t : DSt → G → R (List D)) : TI := fun σ H Q => ∃ ad S g, SR K mg ad H B σ S ∧ DrawOk ad H g ∧ pstI K mg ad H Q (fun c d H' => W c d σ H') (t S g)
/-- .. that leans on no heap -/
def pstR (K : PySem.W.Frag) (mg : Str → Option Value) (ad : DA) (H : Hp) (Q : It → Hp → Prop) (W : XK) : R (List D) → Prop
  | .ok ds g' => ∀ J H', Keep ad H H' → DrawOk ad H' g' → (∀ H2, ItOk K mg ad H2 J ds) → Q J H'
  | .er x g' => ∀ c dd H', Keep ad H H' → DrawOk ad H' g' → ExRep K mg ad H' c dd x → W c dd H'
  | .bad => False
def rdR (K : PySem.W.Frag) (mg : Str → Option Value) (W : WX) (B : List Nat) (t : DSt → G → R (List D)) : TI := fun σ H Q => ∃ ad S g, SR K mg ad H B σ S ∧ DrawOk ad H g ∧ pstR K mg ad H Q (fun c d H' => W c d σ H') (t S g)
theorem PI.imp {X : Cx} {tg e : Expr} {t t' : TI} (h : PI X tg e t) (i : ∀ σ H Q, t' σ H Q → t σ H Q) : PI X tg e t' := ⟨fun pins s σ H Q I q => h.run pins s σ H Q I (i σ H Q q)⟩
theorem itOk_list {K : PySem.W.Frag} {mg : Str → Option Value} {ad : DA} {H : Hp} {a : Addr} {xs : List V} {ds : List D} (s : SqP K H a xs) (r : RepAll K mg ad H xs ds) (hz : xs.length ≤ sizeLine) : ItOk K mg ad H (Itl K a) ds := by
  refine ⟨by rw [← r.len]; exact hz, _, _, by rw [← r.len]; exact walk_list, fun H2 p => (p.sqP s).l, fun i H2 x H3 hi p y => ?_⟩
  obtain ⟨rfl, e⟩ := y
  obtain ⟨d, e1, r1⟩ := r.getV e
  exact ⟨.inl rfl, d, e1, r1.perm p⟩
theorem itOk_tup {K : PySem.W.Frag} {mg : Str → Option Value} {ad : DA} {H : Hp} {a : Addr} {xs : List V} {ds : List D} (s : SqT K H a xs) (r : RepAll K mg ad H xs ds) (hz : xs.length ≤ sizeLine) : ItOk K mg ad H (Itt K a) ds := by
  refine ⟨by rw [← r.len]; exact hz, _, _, by rw [← r.len]; exact walk_tup, fun H2 p => p.sqT s, fun i H2 x H3 hi p y => ?_⟩
  obtain ⟨rfl, e⟩ := y
  obtain ⟨d, e1, r1⟩ := r.getV e
  exact ⟨.inl rfl, d, e1, r1.perm p⟩
/-- a list or a tuple -/
def iSeq (K : PySem.W.Frag) (tl : TE) : TI := fun σ H R => tl σ H fun x H1 => ∃ a, x = .ref a ∧ ((∃ xs, SqL K H1 a xs ∧ (xs.length ≤ sizeLine → R (Itl K a) H1)) ∨ (∃ xs, SqT K H1 a xs ∧ (xs.length ≤ sizeLine → R (Itt K a) H1)))
section
variable {X : Cx} {W : WX} {B : List Nat} {tg l : Expr} {u : ET}
theorem pi_seq {tl : TE} (hl : PE X l tl) : PI X tg l (iSeq X.K tl) := by
  refine ⟨fun pins s σ H R I h => ?_⟩
  refine thn (hl.run pins s σ H _ I h) fun v s1 ⟨x, H1, I1, r1, q1⟩ => ?_
  obtain ⟨a, e, q1⟩ := q1
  subst e
  cases r1
  rcases q1 with ⟨xs, hq, q⟩ | ⟨xs, hq, q⟩
  · obtain ⟨its, rv, p, hz⟩ := I1.list hq
    refine wpAny_pyIter_list p.isList ?_
    refine ⟨s1.heap.objs.size, [s1.heap.objs.size], _, _, H1, rfl, I1.kept (t' := s1.toks) fun b o e => Heap.get?_push_of_some _ e, turn_list a _, ⟨_, Heap.get?_push_size _ rfl, rfl, rfl⟩, fun b hb => ?_, q hz⟩
    have e : b = s1.heap.objs.size := by simpa using hb
    subst e
    exact I1.fpOk (Nat.le_refl _) (I1.hok.fresh (Nat.le_refl _))
  · obtain ⟨its, rv, p, hz⟩ := I1.tuple hq
    refine wpAny_pyIter_tuple (show s1.heap.IsTuple a its.toArray from p) ?_
    refine ⟨s1.heap.objs.size, [s1.heap.objs.size], _, _, H1, rfl, I1.kept (t' := s1.toks) fun b o e => Heap.get?_push_of_some _ e, turn_tuple a _, ⟨_, Heap.get?_push_size _ rfl, rfl, rfl⟩, fun b hb => ?_, q hz⟩
    have e : b = s1.heap.objs.size := by simpa using hb
    subst e
    exact I1.fpOk (Nat.le_refl _) (I1.hok.fresh (Nat.le_refl _))
def iItems (t : ET) : DSt → G → R (List D) := fun S g => (t S g).bind fun d g1 => lift (itemsD d) g1
theorem di_seq (h : PE X l (eE X.K X.mg W B u)) : PI X tg l (rdI X.K X.mg W B (iItems u)) := PI.imp (pi_seq h) fun σ H Q ⟨ad, S, g, sr, dk, p⟩ => by
  refine ⟨ad, S, g, sr, dk, ?_⟩
  unfold iItems at p
  cases r : u S g with
  | bad => rw [r] at p; exact p
  | er x g' => rw [r] at p; exact p
  | ok d g' =>
    rw [r] at p
    intro v H' k d' rv
    cases rv with
    | lst s ra => exact ⟨_, rfl, .inl ⟨_, s.l, fun hz => p _ H' k d' (itOk_list s ra hz)⟩⟩
    | tup s ra => exact ⟨_, rfl, .inr ⟨_, s, fun hz => p _ H' k d' (itOk_tup s ra hz)⟩⟩
    | _ => exact p.elim
def rangeL (lo : Int) (n : Nat) : List D := (List.range n).map fun (i : Nat) => D.int (lo + (i : Int))
theorem itOk_range {K : PySem.W.Frag} {mg : Str → Option Value} {ad : DA} {H : Hp} {lo : Int} {n : Nat} (hz : n ≤ 16777216) : ItOk K mg ad H (Itr lo n) (rangeL lo n) := by
  refine ⟨by simp only [rangeL, List.length_map, List.length_range]; rw [sizeLine_eq]; exact hz, _, _, by simp only [rangeL, List.length_map, List.length_range]; exact walk_range, fun _ _ => trivial, fun i H2 x H3 hi p y => ?_⟩
  obtain ⟨rfl, rfl⟩ := y
  refine ⟨.inl rfl, .int (lo + i), ?_, .int _⟩
  simp only [rangeL, List.length_map, List.length_range] at hi
  simp [rangeL, hi]
/-- range(..): its turns at most sizeLine -/
def rangeD1 : List D → Option (List D)
  | [.int j] => if -(2 ^ 62) ≤ j ∧ j ≤ 16777216 then some (rangeL 0 j.toNat) else none
  | _ => none
def rangeD2 : List D → Option (List D)
  | [.int i, .int j] => if (-(2 ^ 62) ≤ i ∧ i < 2 ^ 62 ∧ -(2 ^ 62) ≤ j ∧ j < 2 ^ 62) ∧ j - i ≤ 16777216 then some (rangeL i (j - i).toNat) else none
  | _ => none
def iRange1 (ts : DSt → G → R (List D)) : DSt → G → R (List D) := fun S g => (ts S g).bind fun ds g1 => lift (rangeD1 ds) g1
def iRange2 (ts : DSt → G → R (List D)) : DSt → G → R (List D) := fun S g => (ts S g).bind fun ds g1 => lift (rangeD2 ds) g1
theorem di_range1 {a : Expr} {ts : DSt → G → R (List D)} {p pos : Pos} (hg : Gl X "range") (hm : X.mg "range" = none) (ha : PA X [a] (eA X.K X.mg W B ts)) (hs : starEach [a] X.env = [(false, eval a X.env)] := by rfl) : PI X tg (.Call (.Name "range" p) [a] [] pos) (rdR X.K X.mg W B (iRange1 ts)) := PI.imp (pi_range1 hg hm ha hs) fun σ H Q ⟨ad, S, g, sr, dk, p⟩ => by
  refine ⟨ad, S, g, sr, dk, ?_⟩
  unfold iRange1 at p
  cases r : ts S g with
  | bad => rw [r] at p; exact p
  | er x g' => rw [r] at p; exact p
  | ok ds g' =>
    rw [r] at p
    intro vs H' k d' rv
    cases e : rangeD1 ds with
    | none => simp only [R.bind, e, lift_none] at p; exact p.elim
    | some is =>
      simp only [R.bind, e, lift_some] at p
      unfold rangeD1 at e
      split at e
      · obtain ⟨x, rfl, rx⟩ := rv.one
        cases rx
        split at e
        · cases e
          exact ⟨_, rfl, by omega, by omega, p _ H' k d' fun _ => itOk_range (by omega)⟩
        · cases e
      · cases e
theorem di_range2 {a b : Expr} {ts : DSt → G → R (List D)} {p pos : Pos} (hg : Gl X "range") (hm : X.mg "range" = none) (ha : PA X [a, b] (eA X.K X.mg W B ts)) (hs : starEach [a, b] X.env = [(false, eval a X.env), (false, eval b X.env)] := by rfl) (hs2 : starEach [b] X.env = [(false, eval b X.env)] := by rfl) : PI X tg (.Call (.Name "range" p) [a, b] [] pos) (rdR X.K X.mg W B (iRange2 ts)) := PI.imp (pi_range2 hg hm ha hs hs2) fun σ H Q ⟨ad, S, g, sr, dk, p⟩ => by
  refine ⟨ad, S, g, sr, dk, ?_⟩
  unfold iRange2 at p
  cases r : ts S g with
  | bad => rw [r] at p; exact p
  | er x g' => rw [r] at p; exact p
  | ok ds g' =>
    rw [r] at p
    intro vs H' k d' rv
    cases e : rangeD2 ds with
    | none => simp only [R.bind, e, lift_none] at p; exact p.elim
    | some is =>
      simp only [R.bind, e, lift_some] at p
      unfold rangeD2 at e
      split at e
      · obtain ⟨x, y, rfl, rx, ry⟩ := rv.two
        cases rx; cases ry
        split at e
        · rename_i h
          cases e
          exact ⟨_, _, rfl, h.1, p _ H' k d' fun _ => itOk_range (by omega)⟩
        · cases e
      · cases e
theorem di_R {u : DSt → G → R (List D)} (h : PI X tg l (rdR X.K X.mg W B u)) : PI X tg l (rdI X.K X.mg W B u) := PI.imp h fun σ H Q ⟨ad, S, g, sr, dk, p⟩ => by
  refine ⟨ad, S, g, sr, dk, ?_⟩
  cases r : u S g with
  | bad => rw [r] at p; exact p
  | er x g' => rw [r] at p; exact p
  | ok ds g' => rw [r] at p; exact fun J H' k d it => p J H' k d (it H')
end

/-! loops, comprehensions, calls -/
def pstIB (K : PySem.W.Frag) (mg : Str → Option Value) (H0 : Hp) (ad : DA) (H : Hp) (σ : St) (S S' : SS) (B : List Nat) (Q : It → Hp → Prop) (W : XK) : R (List D) → Prop
  | .ok ds g' => ∀ J H', Perm H H' → SRS K mg H0 ad H' σ S' → DrawOk ad H' g' → ItOk K mg ad H' J ds → Q J H'
  | .er x g' => ∀ c dd H', Perm H H' → SRS K mg H0 ad H' σ (frzB B S) → DrawOk ad H' g' → ExRep K mg ad H' c dd x → W c dd H'
  | .bad => False
/-- al: what is walked may be a list of one's own, so it stays lent -/
def rdIB (K : PySem.W.Frag) (mg : Str → Option Value) (H0 : Hp) (W : WX) (al : Bool) (B : List Nat) (t : DSt → G → R (List D)) : TI := fun σ H Q => ∃ ad S g, SRS K mg H0 ad H σ S ∧ DrawOk ad H g ∧ pstIB K mg H0 ad H σ S (if al then frzB B S else S) B Q (fun c d H' => W c d σ H') (t (view S) g)
section
variable {X : Cx} {W : WX} {B : List Nat} {tg l : Expr} {t : DSt → G → R (List D)}
theorem brwI (h : PI X tg l (rdI X.K X.mg W B t)) : PI X tg l (rdIB X.K X.mg X.H_0 W true B t) := by
  refine ⟨fun pins s σ H Q I hq => ?_⟩
  obtain ⟨ad, S, g, sr, dk, po⟩ := hq
  rw [if_pos rfl] at po
  obtain ⟨H1, I1, s1, sr1, dk1, p1, hn0, back⟩ := lend B I sr dk
  refine h.run pins s σ H1 Q I1 ⟨ad, view S, g, sr1, dk1, ?_⟩
  cases r : t (view S) g with
  | bad => rw [r] at po; exact po
  | er x g' => rw [r] at po; exact fun c dd H' k' d' q => po c dd H' (p1.trans (k'.perm dk1)) (s1.keeps k' dk1) d' q
  | ok ds g' => rw [r] at po; exact fun J H' k d it => po J H' (p1.trans (k.perm dk1)) (s1.keeps k dk1) d it
theorem brwR (h : PI X tg l (rdR X.K X.mg W B t)) : PI X tg l (rdIB X.K X.mg X.H_0 W false B t) := by
  refine ⟨fun pins s σ H Q I hq => ?_⟩
  obtain ⟨ad, S, g, sr, dk, po⟩ := hq
  rw [if_neg Bool.false_ne_true] at po
  obtain ⟨H1, I1, s1, sr1, dk1, p1, hn0, back⟩ := lend B I sr dk
  refine thn (h.run pins s σ H1 (fun J H2 => ∃ ds g', t (view S) g = .ok ds g' ∧ Keep ad H1 H2 ∧ DrawOk ad H2 g' ∧ ∀ H3, ItOk X.K X.mg ad H3 J ds) I1 ⟨ad, view S, g, sr1, dk1, ?_⟩) fun u s2 h2 => thn h2 fun itv s3 hh => ?_
  · cases r : t (view S) g with
    | bad => rw [r] at po; exact po
    | er x g' => rw [r] at po; exact fun c dd H' k' d' q => po c dd H' (p1.trans (k'.perm dk1)) (s1.keeps k' dk1) d' q
    | ok ds g' => exact fun J H' k d it => ⟨ds, g', rfl, k, d, it⟩
  · obtain ⟨it, fp, tn, J, H2, e, I2, T, st, f2, ds, g', ef, k2, d2, io⟩ := hh
    rw [ef] at po
    obtain ⟨H3, I3, s3', d3, p3, gT3, nn, same⟩ := back H2 s3 g' σ I2 k2 d2
    exact ⟨it, fp, tn, J, H3, e, I3, T, st, fun b hb => ⟨nn b (f2 b hb).1, (f2 b hb).2⟩, po J H3 p3 s3' d3 (io H3)⟩
end

/-- a for over these items -/
def forL (tg : Tgt) (body : SB) : List D → SB
  | [], S, g => .nx S g
  | d :: ds, S, g => match setS tg d S with
    | none => .bad
    | some S1 => match body S1 g with
      | .nx S2 g2 => forL tg body ds S2 g2
      | .ct S2 g2 => forL tg body ds S2 g2
      | .bk S2 g2 => .nx S2 g2
      | r => r
def sFor (al : Bool) (tg : Tgt) (B : List Nat) (it : DSt → G → R (List D)) (body : SB) : SB := fun S g => match it (view S) g with
  | .ok ds g' => forL tg body ds (if al then frzB B S else S) g'
  | .er x g' => .er x (frzB B S) g'
  | .bad => .bad
def whileL (B : List Nat) (c : BT) (body : SB) : Nat → SB
  | 0, _, _ => .bad
  | n + 1, S, g => match c (view S) g with
    | .ok true g1 => match body S g1 with
      | .nx S2 g2 => whileL B c body n S2 g2
      | .ct S2 g2 => whileL B c body n S2 g2
      | .bk S2 g2 => .nx S2 g2
      | r => r
    | .ok false g1 => .nx S g1
    | .er x g' => .er x (frzB B S) g'
    | .bad => .bad
section
variable {X : Cx} {W : WX} {B : List Nat} {tg l : Expr} {it : DSt → G → R (List D)} {t : Tgt} {body : List Stmt} {b : SB} {pos : Pos} {al : Bool}
theorem for_ok {J : It} {ds : List D} {ad : DA} {H1 : Hp} {σ : St} {S1 : SS} {g1 : G} {D : Ends} (io : ItOk X.K X.mg ad H1 J ds) (sr : SRS X.K X.mg X.H_0 ad H1 σ S1) (dk : DrawOk ad H1 g1) (po : pstS X.K X.mg X.H_0 W ad H1 D (forL t b ds S1 g1)) :
    ∃ Wv : Nat → Nat → St → Hp → Prop, (∃ m, Wv 0 m σ H1) ∧ ∀ i m σ H, Wv i m σ H →
      (J.stop i H ∧ D.nx σ H) ∨ (J.go i H ∧ ∃ N : St → Hp → Prop, (∀ σ' H', N σ' H' → ∃ m', m' < m ∧ Wv (i + 1) m' σ' H') ∧ ∀ x H', J.yld i H x H' → gT X.K t x σ H' fun σ2 H2 => rdS X.K X.mg X.H_0 W b { D with nx := N, ct := N, bk := D.nx } σ2 H2) := by
  obtain ⟨hz, Gd, Y, w, hG, hY⟩ := io
  refine for_it w (tb := rdS X.K X.mg X.H_0 W b) (fun i σ2 H2 => ∃ S2 g2, SRS X.K X.mg X.H_0 ad H2 σ2 S2 ∧ DrawOk ad H2 g2 ∧ Perm H1 H2 ∧ pstS X.K X.mg X.H_0 W ad H2 D (forL t b (ds.drop i) S2 g2))
    ⟨S1, g1, sr, dk, .refl _, by rw [List.drop_zero]; exact po⟩ (fun i σ2 H2 hi ⟨S2, g2, _, _, p, _⟩ => hG H2 p) (fun i x σ2 H2 H3 hi ⟨S2, g2, s2, d2, p2, po2⟩ y => ?_) (fun σ2 H2 ⟨S2, g2, s2, d2, p2, po2⟩ => ?_)
  · obtain ⟨hH, d, ed, rd⟩ := hY i H2 x H3 hi p2 y
    have k3 : Keep ad H2 H3 := by
      rcases hH with rfl | ⟨T, o, hT, rfl⟩
      · exact .refl _ _
      · exact Keep.upd hT
    have d3 : DrawOk ad H3 g2 := by
      rcases hH with rfl | ⟨T, o, hT, rfl⟩
      · exact d2
      · exact d2.upd hT
    have s3 := s2.keeps k3 d2
    have p3 := k3.perm d2
    have edr : ds.drop i = d :: ds.drop (i + 1) := by
      obtain ⟨hl, e⟩ := List.getElem?_eq_some_iff.mp ed
      rw [List.drop_eq_getElem_cons hl, e]
    rw [edr] at po2
    unfold forL at po2
    cases e : setS t d S2 with
    | none => rw [e] at po2; exact po2.elim
    | some S3 =>
      rw [e] at po2
      refine gT_S rd s3 e fun σ3 s4 => ⟨ad, S3, g2, s4, d3, ?_⟩
      simp only at po2
      cases r : b S3 g2 with
      | nx S4 g4 => rw [r] at po2; exact fun σ' H' k s d => ⟨S4, g4, s, d, p2.trans (p3.trans k), po2.perm (p3.trans k)⟩
      | ct S4 g4 => rw [r] at po2; exact fun σ' H' k s d => ⟨S4, g4, s, d, p2.trans (p3.trans k), po2.perm (p3.trans k)⟩
      | bk S4 g4 => rw [r] at po2; exact fun σ' H' k s d => po2 σ' H' (p3.trans k) s d
      | ret v g4 => rw [r] at po2; exact fun v H' k => po2 v H' (p3.trans k)
      | er x S4 g4 => rw [r] at po2; exact fun c dd σ' H' k => po2 c dd σ' H' (p3.trans k)
      | bad => rw [r] at po2; exact po2
  · rw [List.drop_length] at po2
    exact po2 σ2 H2 (.refl _) s2 d2
theorem ds_forB (hp : PassesOwn (model X.prog X.w) X.A X.env X.xe) (hc : X.calm = true) (hi : PI X tg l (rdIB X.K X.mg X.H_0 W al B it)) (hg : TgOk X tg t) (hb : SDs X W body b) (hs : ∀ x, foldedSetIterable l X.env x = pure x := by intro _; rfl) : SD X W (.For tg l body [] pos) (sFor al t B it b) := PS.imp (ps_for hp hc hi hg.pg hb hs) fun D σ H ⟨ad, S, g, h⟩ => by
  refine ⟨ad, S, g, h.sr, h.dk, ?_⟩
  have p := h.po
  unfold sFor at p
  cases r : it (view S) g with
  | bad => rw [r] at p; exact p
  | er x g' => rw [r] at p; exact fun c dd H' k sr dk q => p c dd _ H' k sr dk q
  | ok ds g' => rw [r] at p; exact fun J H' k sr dk io => for_ok io sr dk (p.perm k)
theorem ds_for (hp : PassesOwn (model X.prog X.w) X.A X.env X.xe) (hc : X.calm = true) (hi : PI X tg l (rdI X.K X.mg W B it)) (hg : TgOk X tg t) (hb : SDs X W body b) (hs : ∀ x, foldedSetIterable l X.env x = pure x := by intro _; rfl) : SD X W (.For tg l body [] pos) (sFor true t B it b) := ds_forB hp hc (brwI hi) hg hb hs
theorem ds_forR (hp : PassesOwn (model X.prog X.w) X.A X.env X.xe) (hc : X.calm = true) (hi : PI X tg l (rdR X.K X.mg W B it)) (hg : TgOk X tg t) (hb : SDs X W body b) (hs : ∀ x, foldedSetIterable l X.env x = pure x := by intro _; rfl) : SD X W (.For tg l body [] pos) (sFor false t B it b) := ds_forB hp hc (brwR hi) hg hb hs
theorem ds_while {c : Expr} {s : BT} (n : Nat) (hp : PassesOwn (model X.prog X.w) X.A X.env X.xe) (hc : PT X c (eT X.K X.mg W B s)) (hb : SDs X W body b) : SD X W (.While c body [] pos) (whileL B s b n) := PS.imp (ps_while hp (brwT hc) hb) fun D σ H ⟨ad, S, g, h⟩ => by
  refine ⟨fun m σ2 H2 => ∃ S2 g2, SRS X.K X.mg X.H_0 ad H2 σ2 S2 ∧ DrawOk ad H2 g2 ∧ pstS X.K X.mg X.H_0 W ad H2 D (whileL B s b m S2 g2), ⟨n, S, g, h.sr, h.dk, h.po⟩, fun m σ2 H2 ⟨S2, g2, s2, d2, p2⟩ => ?_⟩
  cases m with
  | zero => exact p2.elim
  | succ m =>
    unfold whileL at p2
    refine ⟨ad, S2, g2, s2, d2, ?_⟩
    cases r : s (view S2) g2 with
    | bad => rw [r] at p2; exact p2
    | er x g' => rw [r] at p2; exact fun c dd H' k sr dk q => p2 c dd _ H' k sr dk q
    | ok v g3 =>
      rw [r] at p2
      cases v with
      | false => exact fun H' k sr dk => iteF (A := ∃ N : St → Hp → Prop, _ ∧ _) (p2 σ2 H' k sr dk)
      | true =>
        refine fun H' k sr dk => iteT (B := D.nx σ2 H') ⟨fun σ' H'' => ∃ S2 g2, SRS X.K X.mg X.H_0 ad H'' σ' S2 ∧ DrawOk ad H'' g2 ∧ pstS X.K X.mg X.H_0 W ad H'' D (whileL B s b m S2 g2), fun σ' H'' q => ⟨m, Nat.lt_succ_self m, q⟩, ad, S2, g3, sr, dk, ?_⟩
        simp only at p2
        cases r2 : b S2 g3 with
        | nx S4 g4 => rw [r2] at p2; exact fun σ' H'' k2 s d => ⟨S4, g4, s, d, p2.perm (k.trans k2)⟩
        | ct S4 g4 => rw [r2] at p2; exact fun σ' H'' k2 s d => ⟨S4, g4, s, d, p2.perm (k.trans k2)⟩
        | bk S4 g4 => rw [r2] at p2; exact fun σ' H'' k2 s d => p2 σ' H'' (k.trans k2) s d
        | ret v g4 => rw [r2] at p2; exact fun v H'' k2 => p2 v H'' (k.trans k2)
        | er x S4 g4 => rw [r2] at p2; exact fun c dd σ' H'' k2 => p2 c dd σ' H'' (k.trans k2)
        | bad => rw [r2] at p2; exact p2
end

/-! ### comprehensions -/
def wipeD {α : Type} (S : List (Option α)) : List Nat → List (Option α)
  | [] => S
  | v :: vs => (wipeD S vs).set v none
theorem wipe_get (σ : St) : ∀ (vs : List Nat) (i : Nat), (wipe σ vs)[i]? = if i ∈ vs then σ[i]?.map (fun _ => none) else σ[i]?
  | [], i => by simp [wipe]
  | v :: vs, i => by
    unfold wipe
    by_cases hi : v = i
    · subst hi
      by_cases hl : v < (wipe σ vs).length
      · rw [List.getElem?_set_self hl, if_pos List.mem_cons_self]
        rw [wipe_length] at hl
        rw [List.getElem?_eq_getElem hl]
        rfl
      · have hl2 : σ.length ≤ v := by rw [wipe_length] at hl; omega
        rw [List.getElem?_eq_none (by simpa using hl), if_pos List.mem_cons_self, List.getElem?_eq_none hl2]
        rfl
    · rw [List.getElem?_set_ne hi, wipe_get σ vs i]
      by_cases hm : i ∈ vs
      · rw [if_pos hm, if_pos (List.mem_cons_of_mem _ hm)]
      · rw [if_neg hm, if_neg (by simp only [List.mem_cons, not_or]; exact ⟨fun e => hi e.symm, hm⟩)]
theorem wipeD_get {α : Type} (S : List (Option α)) : ∀ (vs : List Nat) (i : Nat), (wipeD S vs)[i]? = if i ∈ vs then S[i]?.map (fun _ => none) else S[i]?
  | [], i => by simp [wipeD]
  | v :: vs, i => by
    have wl : ∀ vs : List Nat, (wipeD S vs).length = S.length := fun vs => by
      induction vs with
      | nil => rfl
      | cons v vs ih => unfold wipeD; rw [List.length_set, ih]
    unfold wipeD
    by_cases hi : v = i
    · subst hi
      by_cases hl : v < (wipeD S vs).length
      · rw [List.getElem?_set_self hl, if_pos List.mem_cons_self]
        rw [wl] at hl
        rw [List.getElem?_eq_getElem hl]
        rfl
      · have hl2 : S.length ≤ v := by rw [wl] at hl; omega
        rw [List.getElem?_eq_none (by simpa using hl), if_pos List.mem_cons_self, List.getElem?_eq_none hl2]
        rfl
    · rw [List.getElem?_set_ne hi, wipeD_get S vs i]
      by_cases hm : i ∈ vs
      · rw [if_pos hm, if_pos (List.mem_cons_of_mem _ hm)]
      · rw [if_neg hm, if_neg (by simp only [List.mem_cons, not_or]; exact ⟨fun e => hi e.symm, hm⟩)]
theorem wipeD_len {α : Type} (S : List (Option α)) : ∀ vs : List Nat, (wipeD S vs).length = S.length
  | [] => rfl
  | v :: vs => by unfold wipeD; rw [List.length_set, wipeD_len S vs]
def W0 : WX := fun _ _ _ _ => False
/-- [e for tg in items if c]: what is raised within is not carried -/
def compL (own : List Nat) (tg : Tgt) (c : BT) (e : ET) (S : DSt) : List D → G → R (List D)
  | [], g => .ok [] g
  | d :: ds, g => match setD tg d (wipeD S own) with
    | none => .bad
    | some S1 => match c S1 g with
      | .ok true g1 => match e S1 g1 with
        | .ok y g2 => (compL own tg c e S ds g2).map (y :: ·)
        | _ => .bad
      | .ok false g1 => compL own tg c e S ds g1
      | _ => .bad
def xComp (own : List Nat) (tg : Tgt) (it : DSt → G → R (List D)) (c : BT) (e : ET) : XT := fun S g => (it S g).bind fun ds g1 => (compL own tg c e S ds g1).map Fv.f
def tTrue : BT := fun _ g => .ok true g
theorem gNames_keep : ∀ {is : List Nat} {vs : List V} {σ : St} {H : Hp} {Q Q' : St → Hp → Prop}, gNames is vs σ H Q → (∀ σ', (∀ j, j ∉ is → σ'[j]? = σ[j]?) → σ'.length = σ.length → Q σ' H → Q' σ' H) → gNames is vs σ H Q'
  | [], _, _, _, _, _, ⟨e, q⟩, h => ⟨e, h _ (fun _ _ => rfl) rfl q⟩
  | i :: is, _, σ, _, _, _, ⟨v, r, e, q⟩, h => ⟨v, r, e, gNames_keep (is := is) q fun σ' k l q => h σ' (fun j hj => by
      simp only [List.mem_cons, not_or] at hj
      rw [k j hj.2, List.getElem?_set_ne (Ne.symm hj.1)]) (by rw [l]; simp) q⟩
theorem gT_keep {K : PySem.W.Frag} {t : Tgt} {v : V} {σ : St} {H : Hp} {Q Q' : St → Hp → Prop} (q : gT K t v σ H Q) (h : ∀ σ', (∀ j, j ∉ t.is → σ'[j]? = σ[j]?) → σ'.length = σ.length → Q σ' H → Q' σ' H) : gT K t v σ H Q' := by
  cases t with
  | nm i => exact h _ (fun j hj => by rw [List.getElem?_set_ne (by simp [Tgt.is] at hj; exact Ne.symm hj)]) (by simp) q
  | tp is =>
    rcases q with ⟨a, xs, e1, e2, e3, q⟩ | ⟨a, xs, e1, e2, e3, q⟩
    · exact .inl ⟨a, xs, e1, e2, e3, gNames_keep q h⟩
    · exact .inr ⟨a, xs, e1, e2, e3, gNames_keep q h⟩
section
variable {K : PySem.W.Frag} {mg : Str → Option Value} {W : WX} {B Bi Bc Be : List Nat} {own : List Nat} {t : Tgt} {it : DSt → G → R (List D)} {c : BT} {e : ET}
theorem comp_ap (hown : ∀ i ∈ t.is, i ∈ own) (hB : ∀ i ∈ Bc ++ Be, i ∈ own ∨ i ∈ B) : ∀ σ H Q, eX K mg W (Bi ++ B) (xComp own t it c e) σ H Q →
    tLc (rdI K mg W Bi it) (gT K t) (eT K mg W0 Bc c) (eE K mg W0 Be e) own σ H Q := fun σ H Q ⟨ad, S, g, h⟩ => by
  refine ⟨ad, S, g, h.sr.left, h.dk, ?_⟩
  have p := h.po
  unfold xComp at p
  cases r : it S g with
  | bad => simp only [r, R.bind] at p; exact p
  | er x g' => simp only [r, R.bind] at p; exact p
  | ok ds g1 =>
    simp only [r, R.bind] at p
    intro J H1 k1 d1 io Dd hDd
    obtain ⟨hz, Gd, Y, w, hG, hY⟩ := io
    cases rc : compL own t c e S ds g1 with
    | bad => simp only [rc, R.map] at p; exact p.elim
    | er x g' =>
      -- a comprehension's loop gives no error
      exfalso
      have no : ∀ (ds : List D) (g : G) x g', compL own t c e S ds g ≠ .er x g' := by
        intro ds
        induction ds with
        | nil => intro g x g' z; cases z
        | cons d ds ih =>
          intro g x g' z
          unfold compL at z
          split at z
          · cases z
          · split at z
            · split at z
              · rename_i g2 _
                cases q : compL own t c e S ds g2 with
                | ok a b => rw [q] at z; cases z
                | er a b => exact ih _ _ _ q
                | bad => rw [q] at z; cases z
              · cases z
            · exact ih _ _ _ z
            · cases z
      exact no _ _ _ _ rc
    | ok ys gz =>
      simp only [rc, R.map] at p
      refine lc_it w (tt := eT K mg W0 Bc c) (te := eE K mg W0 Be e) (fun i H2 => ∃ g2 acc ya yr, H2 Dd = some (.lst acc) ∧ RepAll K mg ad H2 acc ya ∧ acc.length ≤ i ∧ DrawOk ad H2 g2 ∧ Keep ad H1 H2 ∧ compL own t c e S (ds.drop i) g2 = .ok yr gz ∧ ya ++ yr = ys)
        ⟨g1, [], [], ys, upd_same, .nil, Nat.le_refl _, d1.upd hDd, Keep.upd hDd, by rw [List.drop_zero]; exact rc, rfl⟩ (fun i H2 hi ⟨g2, acc, ya, yr, _, _, _, _, k2, _⟩ => hG H2 (k2.perm d1)) (fun i x H2 H3 hi ⟨g2, acc, ya, yr, eD, ra, la, d2, k2, ec, ey⟩ y => ?_) (fun H2 ⟨g2, acc, ya, yr, eD, ra, la, d2, k2, ec, ey⟩ => ?_)
      · obtain ⟨hH, d, ed, rdd⟩ := hY i H2 x H3 hi (k2.perm d1) y
        have k3 : Keep ad H2 H3 := by
          rcases hH with rfl | ⟨T, o, hT, rfl⟩
          · exact .refl _ _
          · exact Keep.upd hT
        have d3 : DrawOk ad H3 g2 := by
          rcases hH with rfl | ⟨T, o, hT, rfl⟩
          · exact d2
          · exact d2.upd hT
        have nD : Dd ≠ ad.ad := d1.ne hDd
        have edr : ds.drop i = d :: ds.drop (i + 1) := by
          obtain ⟨hl, e⟩ := List.getElem?_eq_some_iff.mp ed
          rw [List.drop_eq_getElem_cons hl, e]
        rw [edr] at ec
        unfold compL at ec
        cases es : setD t d (wipeD S own) with
        | none => rw [es] at ec; cases ec
        | some S1 =>
          rw [es] at ec
          simp only at ec
          -- the slots of the block
          have srW : SR K mg ad H3 (B ++ own) (wipe σ own) (wipeD S own) := ⟨by rw [wipe_length, wipeD_len]; exact h.sr.1, fun j hj d' e' => by
            rw [wipeD_get] at e'
            by_cases hm : j ∈ own
            · rw [if_pos hm] at e'
              cases q : S[j]? with
              | none => rw [q] at e'; cases e'
              | some z => rw [q] at e'; cases e'
            · rw [if_neg hm] at e'
              have hjB : j ∈ B := (List.mem_append.mp hj).elim id fun z => absurd z hm
              obtain ⟨v, e1, r1⟩ := h.sr.right.2 j hjB d' e'
              exact ⟨v, by rw [wipe_get, if_neg hm]; exact e1, (r1.keep (k1.trans k2) h.dk).keep k3 d2⟩⟩
          refine gT_keep (gT_D rdd srW es (Q := fun σ' H' => H' = H3 ∧ ∃ C, (∀ i, i ∈ t.is ∨ i ∈ B ++ own → i ∈ C) ∧ SR K mg ad H3 C σ' S1) fun σ' C hC s => ⟨rfl, C, hC, s⟩) fun σ2 hk hl2 ⟨_, C, hC, s2⟩ => ⟨?_, ?_⟩
          · apply List.ext_getElem?
            intro j
            rw [wipe_get, wipe_get]
            by_cases hm : j ∈ own
            · rw [if_pos hm, if_pos hm]
              have e1 : σ2.length = σ.length := by rw [hl2, wipe_length]
              by_cases hj : j < σ.length
              · rw [List.getElem?_eq_getElem hj, List.getElem?_eq_getElem (by rw [e1]; exact hj)]
                rfl
              · rw [List.getElem?_eq_none (by omega), List.getElem?_eq_none (by omega)]
            · rw [if_neg hm, if_neg hm, hk j fun z => hm (hown j z), wipe_get, if_neg hm]
          · have hs : ∀ C', (∀ i ∈ C', i ∈ Bc ++ Be) → SR K mg ad H3 C' σ2 S1 := fun C' hC' => ⟨s2.1, fun j hj => s2.2 j (hC j (.inr (by
              rcases hB j (hC' j hj) with z | z
              · exact List.mem_append_right _ z
              · exact List.mem_append_left _ z)))⟩
            refine ⟨ad, S1, g2, hs Bc (fun i hi => List.mem_append_left _ hi), d3, ?_⟩
            cases rcc : c S1 g2 with
            | bad => rw [rcc] at ec; cases ec
            | er x g' => rw [rcc] at ec; cases ec
            | ok bv g3 =>
              rw [rcc] at ec
              intro bv' H4 k4 d4 ebv
              subst ebv
              have kD : H4 Dd = some (.lst acc) := k4 _ _ (k3 _ _ eD nD) nD
              cases bv' with
              | false =>
                refine iteF (A := eE K mg W0 Be e σ2 H4 _) ⟨g3, acc, ya, yr, kD, (ra.keep k3 d2).keep k4 d3, Nat.le_succ_of_le la, d4, (k2.trans k3).trans k4, ec, ey⟩
              | true =>
                refine iteT (B := ∃ g2 acc ya yr, _) ⟨ad, S1, g3, (hs Be fun i hi => List.mem_append_right _ hi).keep k4 d3, d4, ?_⟩
                simp only at ec
                cases re : e S1 g3 with
                | bad => rw [re] at ec; cases ec
                | er x g' => rw [re] at ec; cases ec
                | ok yv g5 =>
                  rw [re] at ec
                  intro v H5 k5 d5 rv
                  have kD5 : H5 Dd = some (.lst acc) := k5 _ _ kD nD
                  refine ⟨acc, kD5, by omega, ?_⟩
                  cases rr : compL own t c e S (ds.drop (i + 1)) g5 with
                  | bad => simp only [rr, R.map] at ec; cases ec
                  | er x g' => simp only [rr, R.map] at ec; cases ec
                  | ok yr' gz' =>
                    simp only [rr, R.map, R.ok.injEq] at ec
                    obtain ⟨ec1, ec2⟩ := ec
                    -- the list grows
                    have up : ∀ {b o}, H5 b = some o → (∀ xs, o ≠ .lst xs) → upd H5 Dd (.lst (acc ++ [v])) b = some o := fun {b o} e' n => by
                      rw [upd_ne (fun z => by rw [z, kD5] at e'; cases e'; exact n _ rfl)]; exact e'
                    have pm : Perm H5 (upd H5 Dd (.lst (acc ++ [v]))) := ⟨fun a xs e' => up e' (by intro xs z; cases z), fun a o u e' => up e' (by intro xs z; cases z)⟩
                    refine ⟨g5, acc ++ [v], ya ++ [yv], yr', upd_same, (((((ra.keep k3 d2).keep k4 d3).keep k5 d4).perm pm).app (.cons (rv.perm pm) .nil)), by rw [List.length_append]; show acc.length + 1 ≤ i + 1; omega, d5.at_ (fun xs e' => by rw [upd_ne (Ne.symm nD)]; exact e') (fun o u e' => pm.frz _ _ _ e'), fun b o e' n => ?_, by rw [ec2] at rr; exact rr, by rw [← ey, ← ec1, List.append_assoc]; rfl⟩
                    have bD : b ≠ Dd := fun z => by rw [z, hDd] at e'; cases e'
                    rw [upd_ne bD]
                    exact k5 _ _ (k4 _ _ (k3 _ _ (k2 _ _ e' n) n) n) n
      · rw [List.drop_length] at ec
        cases ec
        rw [List.append_nil] at ey
        subst ey
        exact p _ H2 (k1.trans k2) d2 ⟨Dd, acc, rfl, k1.free (d1.ne hDd) hDd, eD, ra⟩
end

/-! defs, own lists changed, errors -/
/-! ### comprehensions as expressions, and stored -/
section
variable {X : Cx} {W : WX} {B Bi Bc Be : List Nat} {t : Tgt} {it : DSt → G → R (List D)} {c : BT} {e : ET} {elt tg iter : Expr} {ifs : List Expr} {scope : Scope} {own : List (Str × Nat)} {pos spos py : Pos}
theorem PTs.imp {X : Cx} {e : List Expr} {t t' : TT} (h : PTs X e t) (i : ∀ σ H Q, t' σ H Q → t σ H Q) : PTs X e t' := ⟨fun pins s σ H Q I q => h.run pins s σ H Q I (i σ H Q q)⟩
theorem dts_nil : PTs X [] (eT X.K X.mg W [] tTrue) := PTs.imp pts_nil fun σ H Q ⟨ad, S, g, h⟩ => h.po true H (.refl _ _) h.dk rfl
theorem dts_one {a : Expr} (h : PT X a (eT X.K X.mg W B c)) : PTs X [a] (eT X.K X.mg W B c) := pts_one h
abbrev Cx.bk (X : Cx) (scope : Scope) (s : Shared) (H : Hp) (C : Addr) (cl : List (Str × Addr)) (fp : List Addr) : Cx := X.blk s H scope (compEnvC scope cl C X.env) fp
theorem dx_comp (hc : X.calm = true) (hN : X.N.Nodup) (ok : BlkOk X.N X.env.scope scope own) (hown : ∀ i ∈ t.is, i ∈ own.map (·.2)) (hB : ∀ i ∈ Bc ++ Be, i ∈ own.map (·.2) ∨ i ∈ B)
    (hi : PI X tg iter (rdI X.K X.mg W Bi it)) (hg : ∀ s H C cl fp, TgOk (Cx.bk X scope s H C cl fp) tg t) (ht : ∀ s H C cl fp, PTs (Cx.bk X scope s H C cl fp) ifs (eT X.K X.mg W0 Bc c)) (he : ∀ s H C cl fp, PE (Cx.bk X scope s H C cl fp) elt (eE X.K X.mg W0 Be e))
    (hs : ∀ x, foldedSetIterable iter X.env x = pure x := by intro _; rfl) : PE X (.ListComp elt [⟨tg, iter, ifs, 0⟩] scope pos) (eX X.K X.mg W (Bi ++ B) (xComp (own.map (·.2)) t it c e)) :=
  PE.imp (pe_lc hc hN hi ok (fun s H C cl fp => (hg s H C cl fp).pg) ht he hs) (comp_ap hown hB)
/-- a statement whose part lends -/
theorem ds_lendSet {st : Stmt} {i : Nat} {te : TE} {u : XT} (h : PS X st (tAsg te (gName i))) (ap : ∀ σ H Q, eX X.K X.mg W B u σ H Q → te σ H Q) : SD X W st (sSet i B u) := by
  refine ⟨fun pins s σ H D I ⟨ad, S, g, hh⟩ => ?_⟩
  obtain ⟨sr, dk, po⟩ := hh
  obtain ⟨H1, I1, s1, sr1, dk1, p1, hn0, back⟩ := lend B I sr dk
  unfold sSet at po
  refine thn (h.run pins s σ H1 { nx := fun σ2 H2 => ∃ v f g', u (view S) g = .ok f g' ∧ σ2 = σ.set i (some v) ∧ Keep ad H1 H2 ∧ DrawOk ad H2 g' ∧ FRep X.K X.mg ad H1 H2 v f, rt := fun _ _ => False } I1 (ap σ H1 _ ⟨ad, view S, g, sr1, dk1, ?_⟩)) fun f s' q => ?_
  · cases r : u (view S) g with
    | bad => rw [r] at po; exact po
    | er x g' => rw [r] at po; exact fun c dd H' k' d' q => po c dd σ H' (p1.trans (k'.perm dk1)) (s1.keeps k' dk1) d' q
    | ok f g' => exact fun v H2 k2 d2 q => ⟨v, f, g', rfl, rfl, k2, d2, q⟩
  · cases f with
    | brk => obtain ⟨_, _, _, z⟩ := q; exact z.elim
    | cont => obtain ⟨_, _, _, z⟩ := q; exact z.elim
    | ret u => obtain ⟨_, _, _, _, _, z⟩ := q; exact z.elim
    | next =>
      obtain ⟨σ2, H2, I2, v, f, g', ef, rfl, k2, d2, fr⟩ := q
      rw [ef] at po
      by_cases hn : f.nol = true
      · obtain ⟨H3, I3, s3, d3, p3, gT3, nn, same⟩ := back H2 s' g' _ I2 k2 d2
        refine ⟨_, H3, I3, po _ H3 p3 ?_ d3⟩
        rw [post_yes hn]
        refine s3.store ?_
        cases f with
        | v d => exact Rep.mapN gT3 d v hn fr
        | f ds =>
          obtain ⟨a, vs, rfl, na, ea, ra⟩ := fr
          have na' : H a = none := hn0 a na
          refine ⟨a, vs, rfl, by rw [same a na]; exact ea, RepAll.mapN gT3 ds vs hn ra, sr.keep.free (dk.ne na') na', dk.ne na', fun j es e1 e2 => ?_⟩
          obtain ⟨a', ws, f1, f2, _⟩ := sr.own j es e1
          rw [e2] at f1; cases f1
          rw [na'] at f2; cases f2
      · refine ⟨_, H2, I2, po _ H2 (p1.trans (k2.perm dk1)) ?_ d2⟩
        rw [post_no hn]
        refine (s1.keeps k2 dk1).store ?_
        cases f with
        | v d => exact fr
        | f ds =>
          obtain ⟨a, vs, rfl, na, ea, ra⟩ := fr
          refine ⟨a, vs, rfl, ea, ra, s1.keep.free (dk1.ne na) na, dk1.ne na, fun j es e1 e2 => ?_⟩
          obtain ⟨a', ws, f1, f2, _⟩ := s1.own j es e1
          rw [e2] at f1; cases f1
          rw [na] at f2; cases f2
theorem ds_setLc {i : Nat} {y : Str} (hc : X.calm = true) (hN : X.N.Nodup) (hy : X.N[i]? = some y) (hyl : X.env.scope.names.lookup y = some .local) (hsw : swapsWith (.ListComp elt [⟨tg, iter, ifs, 0⟩] scope pos) (some (.Name y py)) spos.line X.env = pure true)
    (ok : BlkOk X.N X.env.scope scope own) (hown : ∀ i ∈ t.is, i ∈ own.map (·.2)) (hB : ∀ i ∈ Bc ++ Be, i ∈ own.map (·.2) ∨ i ∈ B)
    (hi : PI X tg iter (rdI X.K X.mg W Bi it)) (hg : ∀ s H C cl fp, TgOk (Cx.bk X scope s H C cl fp) tg t) (ht : ∀ s H C cl fp, PTs (Cx.bk X scope s H C cl fp) ifs (eT X.K X.mg W0 Bc c)) (he : ∀ s H C cl fp, PE (Cx.bk X scope s H C cl fp) elt (eE X.K X.mg W0 Be e))
    (hs : ∀ x, foldedSetIterable iter X.env x = pure x := by intro _; rfl) : SD X W (.Assign [.Name y py] (.ListComp elt [⟨tg, iter, ifs, 0⟩] scope pos) spos) (sSet i (Bi ++ B) (xComp (own.map (·.2)) t it c e)) :=
  ds_lendSet (ps_setLc hc hN hy hyl hsw hi ok (fun s H C cl fp => (hg s H C cl fp).pg) ht he hs) (comp_ap hown hB)
end

/-! ### defs -/
abbrev MT := List D → G → R D
def spD (K : PySem.W.Frag) (mg : Str → Option Value) (n : Nat) (m : MT) : Sp := fun vs H Q E => vs.length = n ∧ ∃ ad ds g, RepAll K mg ad H vs ds ∧ DrawOk ad H g ∧ pst (RpE K mg) K mg ad H Q E (m ds g)
structure DefOk (P : Program) (w : World) (K : PySem.W.Frag) (mg : Str → Option Value) (base : Heap) (x : Str) (n : Nat) (m : MT) (k : Nat) : Prop where
  ex : ∃ (f : Addr) (fd : FuncData) (ps : List Str), ps.length = n ∧ FnOk P w K mg base (L2.CX P w) k f fd ps (spD K mg n m) ∧ mg x = some (.ref f) ∧ PySem.W.keepIn K (.ref f) = true ∧ L2.Binds K fd ps []
def eCall (m : MT) (ts : DSt → G → R (List D)) : ET := fun S g => (ts S g).bind fun ds g1 => m ds g1
section
variable {X : Cx} {W : WX} {B : List Nat} {e : Expr} {es : List Expr} {ts : DSt → G → R (List D)} {x : Str} {n k k' : Nat} {m : MT} {p pos : Pos}
theorem de_call (F : DefOk X.prog X.w X.K X.mg X.base x n m k) (hr : Room k' X.A) (hk : k ≤ k') (hg : Gl X x) (tk : Takes X W) (ha : PA X (e :: es) (eA X.K X.mg W B ts)) (hl : (e :: es).length = n ∨ True) (hdb : (x == ("__debug__" : Str)) = false := by decide)
    (he : starEach (e :: es) X.env = (false, eval e X.env) :: starEach es X.env := by rfl) (hpl : (backTo pos (starEach es X.env)).any (·.1) = false := by rfl) : PE X (.Call (.Name x p) (e :: es) [] pos) (eE X.K X.mg W B (eCall (fun ds g => if ds.length = n then m ds g else .bad) ts)) := by
  obtain ⟨f, fd, ps, hn, Fn, hm, hkp, hb⟩ := F.ex
  refine PE.imp (pe_callS Fn (hr.mono hk) hg hm hkp hb (fun σ => passAt tk σ) ha hdb he hpl) fun σ H Q ⟨a0, S, g, h⟩ => ?_
  have h : At (RpE X.K X.mg) X.K X.mg W (B ++ []) (eCall (fun ds g => if ds.length = n then m ds g else .bad) ts) a0 S g σ H Q := by rw [List.append_nil]; exact h
  refine .mk ((h.bind (Rp1 := RpA X.K X.mg) bkE (k := fun ds _ g1 => if ds.length = n then m ds g1 else .bad)).imp fun xs H1 ⟨ds, g1, k1, d1, r1, h2⟩ => ?_)
  have p := h2.po
  by_cases hl : ds.length = n
  · rw [if_pos hl] at p
    exact ⟨by rw [r1.len]; exact hl, a0, ds, g1, r1, d1, p⟩
  · rw [if_neg hl] at p
    exact p.elim
/-- a def of no arguments -/
theorem de_call0 (F : DefOk X.prog X.w X.K X.mg X.base x 0 m k) (hr : Room k' X.A) (hk : k ≤ k') (hg : Gl X x) (hx : Passes (L2.CX X.prog X.w) X (fun _ _ _ => False)) (hdb : (x == ("__debug__" : Str)) = false := by decide) : PE X (.Call (.Name x p) [] [] pos) (eE X.K X.mg W [] (fun _ g => match m [] g with | .ok d g' => .ok d g' | _ => .bad)) := by
  obtain ⟨f, fd, ps, hn, Fn, hm, hkp, hb⟩ := F.ex
  refine PE.imp (pe_call0 (E := fun _ _ _ => False) Fn (hr.mono hk) hg hm hkp hb .nil hx hdb) fun σ H Q ⟨a0, S, g, h⟩ => ?_
  refine (show spD X.K X.mg 0 m [] H Q (fun _ _ _ => False) from ⟨rfl, a0, [], g, .nil, h.dk, ?_⟩)
  have p := h.po
  cases r : m [] g with
  | bad => simp only [r] at p; exact p
  | er x g' => simp only [r] at p; exact p.elim
  | ok d g' => simp only [r] at p; exact p
theorem pass00 {X : Cx} : Passes (L2.CX X.prog X.w) X (fun _ _ _ => False) := fun _ _ _ _ _ _ _ h => by
  obtain ⟨_, _, _, _, _, _, _, _, _, _, _, _, z⟩ := h
  exact z.elim
end
/-- what a body is worth at its arguments -/
def startD (n : Nat) (ds : List D) : SS := ds.map (fun d => some (.val d)) ++ List.replicate (n - ds.length) none
def runD (N n : Nat) (b : SB) : MT := fun ds g => if ds.length = n then match b (startD N ds) g with
  | .ret d g' => .ok d g'
  | .nx _ g' => .ok .non g'
  | .er x _ g' => .er x g'
  | _ => .bad else .bad
theorem start_ok {K : PySem.W.Frag} {mg : Str → Option Value} {ad : DA} {H : Hp} {N : List Str} {vs : List V} {ds : List D} (r : RepAll K mg ad H vs ds) : SRS K mg H ad H (L2.start N vs) (startD N.length ds) := by
  have hl := r.len
  refine ⟨.refl _ _, fun i d e => ?_, fun i d e => ?_, fun i j d d' a e => ?_, by simp [L2.start, startD, hl]⟩
  · unfold startD at e
    by_cases hi : i < ds.length
    · rw [List.getElem?_append_left (by simpa using hi), List.getElem?_map] at e
      cases q : ds[i]? with
      | none => rw [q] at e; cases e
      | some d' =>
        rw [q] at e
        cases e
        obtain ⟨v, h1, h2⟩ := r.get q
        exact ⟨v, by unfold L2.start; rw [List.getElem?_append_left (by simpa [hl] using hi), List.getElem?_map, h1]; rfl, h2⟩
    · rw [List.getElem?_append_right (by simpa using hi), List.getElem?_replicate] at e
      split at e <;> cases e
  all_goals
    exfalso
    unfold startD at e
    by_cases hi : i < ds.length
    · rw [List.getElem?_append_left (by simpa using hi), List.getElem?_map] at e
      cases q : ds[i]? with
      | none => rw [q] at e; cases e
      | some d' => rw [q] at e; cases e
    · rw [List.getElem?_append_right (by simpa using hi), List.getElem?_replicate] at e
      split at e <;> cases e
section
variable {P : Program} {w : World} {K : PySem.W.Frag} {mg : Str → Option Value} {base : Heap}
theorem okD {x qual : Str} {st : Stmt} {f : Addr} {fd : FuncData} {N ps : List Str} {k : Nat} {b : SB} (F : Fun K x qual st f fd) (S : FnScope N ps (defScope st)) (hm : mg x = some (.ref f)) (hb : L2.Binds K fd ps [])
    (body : ∀ (cdv : Value) (A : Around) (outer : List Env) (s : Shared) (H : Hp) (E : XK), Room k (A.deeper (envOfC qual (defScope st) s.heap.objs.size f cdv)) →
      SDs (cxOf (L2.CX P w) P w K mg base N qual (defScope st) f cdv A outer s H E) (fun cls d _ H => E cls d H) (defBody st) b) : DefOk P w K mg base x ps.length (runD N.length ps.length b) (k + 1) := by
  refine ⟨f, fd, ps, rfl, F.okX S (fun vs H Q E h => h.1) (fun cdv A outer s H vs Q E hr h => ⟨_, body cdv A outer s H E hr, ?_⟩), hm, F.kp, hb⟩
  obtain ⟨hl, ad, ds, g, ra, dk, po⟩ := h
  refine ⟨ad, startD N.length ds, g, start_ok ra, dk, ?_⟩
  unfold runD at po
  rw [if_pos (by rw [← ra.len]; exact hl)] at po
  show pstS K mg H _ ad H _ (b (startD N.length ds) g)
  cases r : b (startD N.length ds) g with
  | nx S1 g1 => rw [r] at po; exact fun σ' H' _ sr dk => po .non H' sr.keep dk .non
  | ret d g1 => rw [r] at po; exact fun v H' _ k dk rv => po v H' k dk rv
  | er y S1 g1 => rw [r] at po; exact fun c dd σ' H' _ sr dk ex => po c dd H' sr.keep dk ex
  | bk S1 g1 => rw [r] at po; exact po.elim
  | ct S1 g1 => rw [r] at po; exact po.elim
  | bad => rw [r] at po; exact po.elim
end

/-! ### a list of one's own changed -/
section
variable {K : PySem.W.Frag} {mg : Str → Option Value} {H0 : Hp} {ad : DA} {H : Hp} {σ : St} {S : SS}
theorem perm_lst {a : Addr} {vs ws : List V} (e : H a = some (.lst vs)) : Perm H (upd H a (.lst ws)) := ⟨fun b xs q => by rw [upd_ne (ne_of q e (by intro z; cases z))]; exact q, fun b o u q => by rw [upd_ne (ne_of q e (by intro z; cases z))]; exact q⟩
theorem SRS.mut (s : SRS K mg H0 ad H σ S) {i : Nat} {ds es : List D} {a : Addr} {vs ws : List V} (e : S[i]? = some (some (SV.own ds))) (ea : σ[i]? = some (some (.ref a))) (ev : H a = some (.lst vs)) (r : RepAll K mg ad H ws es) :
    SRS K mg H0 ad (upd H a (.lst ws)) σ (S.set i (some (.own es))) := by
  obtain ⟨a', vs', h1, h2, _, h4, h5⟩ := s.own i ds e
  rw [ea] at h1; cases h1
  have pm : Perm H (upd H a (.lst ws)) := perm_lst ev
  have hi : i < S.length := (List.getElem?_eq_some_iff.mp e).1
  refine ⟨fun b o q n => ?_, fun j d q => ?_, fun j d q => ?_, fun j k d d' b q1 q2 q3 q4 => ?_, by simp [s.len]⟩
  · rw [upd_ne (fun z => by rw [z, h4] at q; cases q)]
    exact s.keep b o q n
  · by_cases hj : i = j
    · subst hj; rw [List.getElem?_set_self hi] at q; cases q
    · rw [List.getElem?_set_ne hj] at q
      obtain ⟨v, e1, r1⟩ := s.val j d q
      exact ⟨v, e1, r1.perm pm⟩
  · by_cases hj : i = j
    · subst hj
      rw [List.getElem?_set_self hi] at q; cases q
      exact ⟨a, ws, ea, upd_same, r.perm pm, h4, h5⟩
    · rw [List.getElem?_set_ne hj] at q
      obtain ⟨b, us, e1, e2, e3, e4, e5⟩ := s.own j d q
      have ne : b ≠ a := fun z => hj (s.dis i j ds d a e q ea (by rw [← z]; exact e1))
      exact ⟨b, us, e1, by rw [upd_ne ne]; exact e2, e3.perm pm, e4, e5⟩
  · have get : ∀ {j : Nat} {d}, (S.set i (some (SV.own es)))[j]? = some (some (SV.own d)) → ∃ d', S[j]? = some (some (SV.own d')) := fun {j d} q => by
      by_cases hj : i = j
      · subst hj; exact ⟨_, e⟩
      · rw [List.getElem?_set_ne hj] at q; exact ⟨_, q⟩
    obtain ⟨_, q1⟩ := get q1
    obtain ⟨_, q2⟩ := get q2
    exact s.dis j k _ _ b q1 q2 q3 q4
theorem DrawOk.mut {g : G} {a : Addr} {vs ws : List V} (d : DrawOk ad H g) (e : H a = some (.lst vs)) (n : a ≠ ad.ad) : DrawOk ad (L2.upd H a (.lst ws)) g := d.at_ (fun xs q => by rw [upd_ne (Ne.symm n)]; exact q) fun o u q => (perm_lst e).frz _ _ _ q
end
/-- the own list at i, changed by f with what t gives -/
def isOwn : Option (Option SV) → Bool
  | some (some (.own _)) => true
  | _ => false
def sMut (i : Nat) (B : List Nat) (t : ET) (f : List D → D → Option (List D)) : SB := fun S g => if isOwn S[i]? then match t (view S) g with
  | .ok d g' => match (post (.v d) B S)[i]? with
    | some (some (.own ds)) => match f ds d with
      | some es => .nx ((post (.v d) B S).set i (some (.own es))) g'
      | none => .bad
    | _ => .bad
  | .er x g' => .er x (frzB B S) g'
  | .bad => .bad else .bad
def appD (ds : List D) (d : D) : Option (List D) := if ds.length < sizeLine then some (ds ++ [d]) else none
def extD (ds : List D) (d : D) : Option (List D) := match d with
  | .lst es => if ds.length + es.length ≤ sizeLine then some (ds ++ es) else none
  | _ => none
section
variable {X : Cx} {W : WX} {B : List Nat} {e : Expr} {u : ET} {pos : Pos}
/-- xs.extend(ys), ys a list that stays -/
def rExtP (K : PySem.W.Frag) : V → List V → Hp → VK → Prop := fun x vs H Q => ∃ l b xs zs, x = .ref l ∧ vs = [.ref b] ∧ H l = some (.lst xs) ∧ SqP K H b zs ∧ xs.length + zs.length ≤ sizeLine ∧ Q .non (upd H l (.lst (xs ++ zs)))
theorem mt_extP : MtR X "list.extend" (rExtP X.K) := by
  intro pins s σ H x vs v us Q I rx rv h
  obtain ⟨l, b, xs, zs, rfl, rfl, hH, hB, hz, q⟩ := h
  cases rx
  obtain ⟨u, rfl, ru⟩ := rv.one
  cases ru
  obtain ⟨z, its, n, r, hl, e⟩ := I.lstM hH
  obtain ⟨z2, its2, n2, r2, hl2, e2⟩ := lstP I hB
  have hsz : its.toArray.size + its2.toArray.size ≤ sizeLine := by rw [List.size_toArray, List.size_toArray]; omega
  have hlong : ¬ (!its.toArray.isEmpty && Builtin.List.listTooLong (its.toArray.size + its2.toArray.size)) = true := by
    rw [notLongL hsz, Bool.and_false]
    exact Bool.false_ne_true
  refine call_meets F.slot_list_extend ⟨_, e, rfl⟩ F.entry_list_extend (F.args_list_extend_2 _ _)
    (AutoSeq1.list_extend_list_list_0 l its.toArray n b its2.toArray n2 hlong (by rw [List.size_toArray]; omega) (by omega)) ⟨e, e2, ?_⟩
  refine ⟨.non, _, I.lset (its' := its ++ its2) hH e (by simp) (r.append r2) ?_, rfl, q⟩
  rw [List.length_append]
  omega
/-- a method that changes the own list at i by one argument -/
theorem ds_mut {i : Nat} {x : Str} {px apos cpos : Pos} {name : Str} {id : String} {r : V → List V → Hp → VK → Prop} {f : List D → D → Option (List D)} (slot : Slot "list" name id) (hty : typeOf (.builtin id) = pure (.type "method_descriptor")) (hm : MtR X id r)
    (ad : ∀ (ad : DA) (H : Hp) (l : Addr) (vs : List V) (ds es : List D) (y : V) (d : D), H l = some (.lst vs) → RepAll X.K X.mg ad H vs ds → Rep X.K X.mg ad H y d → f ds d = some es → ∃ ws, RepAll X.K X.mg ad H ws es ∧ ∀ Q : VK, Q .non (upd H l (.lst ws)) → r (.ref l) [y] H Q)
    (hN : X.N[i]? = some x) (hv : Vis X.env.scope x) (he : PE X e (eE X.K X.mg W B u)) (hd : (x == ("__debug__" : Str)) = false := by decide) (hcd : (x == ("__classdict__" : Str)) = false := by decide)
    (hbase : attributeBase (.Name x px) name X.env (eval (.Name x px) X.env) = eval (.Name x px) X.env := by rfl)
    (hfew : ((backTo cpos (starEach [e] X.env)).all (fun x => !x.1) && (backToKw cpos (keywordEach [] X.env)).all (fun x => x.1.isSome)
      && decide ([e].length + ([] : List Keyword).length + (if ([] : List Keyword).isEmpty then 0 else 1) < 30)) = true := by rfl)
    (hline : (apos.endLine == cpos.line) = true := by rfl) (hs : starEach [e] X.env = (false, eval e X.env) :: starEach [] X.env := by rfl) (hplain : (backTo cpos (starEach [] X.env)).any (·.1) = false := by rfl) (hsw : swapsWith (.Call (.Attribute (.Name x px) name apos) [e] [] cpos) none pos.line X.env = pure false := by rfl) :
    SD X W (.Expr (.Call (.Attribute (.Name x px) name apos) [e] [] cpos) pos) (sMut i B u f) := PS.imp (ps_expr (pe_bm PySem.F.plainAttrs_list slot hty hm (pe_var hN hv hd hcd) (pa_cons (brw (dx_of he)) pa_nil hs) hbase hfew hline hs hplain) hsw) fun D σ H ⟨a0, S, g, h⟩ => by
  have p := h.po
  unfold sMut at p
  cases ho : isOwn S[i]? with
  | false => rw [ho, if_neg Bool.false_ne_true] at p; exact p.elim
  | true =>
  rw [ho, if_pos rfl] at p
  obtain ⟨ds0, e0⟩ : ∃ ds, S[i]? = some (some (SV.own ds)) := by
    unfold isOwn at ho
    split at ho
    · exact ⟨_, by assumption⟩
    · cases ho
  obtain ⟨a, vs0, ea, eH, _⟩ := h.sr.own i ds0 e0
  refine ⟨.ref a, ea, .inl ⟨rfl, _, .of eH⟩, a0, S, g, h.sr, h.dk, ?_⟩
  show pstB X.K X.mg X.H_0 a0 H σ S B _ _ ((u (view S) g).map Fv.v)
  cases r0 : u (view S) g with
  | bad => rw [r0] at p; exact p.elim
  | er y g' => rw [r0] at p; exact fun c dd H' k sr dk q => p c dd _ H' k sr dk q
  | ok d g' =>
    rw [r0] at p
    simp only at p
    split at p
    · rename_i ds eds
      split at p
      · rename_i es ef
        intro v H1 k1 sr1 dk1 fr
        obtain ⟨a', vs, f1, f2, f3, f4, f5⟩ := sr1.own i ds eds
        rw [ea] at f1; cases f1
        obtain ⟨ws, rw', q⟩ := ad a0 H1 a vs ds es v d f2 f3 fr ef
        exact q _ (p σ _ (k1.trans (perm_lst f2)) (sr1.mut eds ea f2 rw') (dk1.mut f2 f5))
      · exact p.elim
    · exact p.elim
theorem ad_app {X : Cx} : ∀ (ad : DA) (H : Hp) (l : Addr) (vs : List V) (ds es : List D) (y : V) (d : D), H l = some (.lst vs) → RepAll X.K X.mg ad H vs ds → Rep X.K X.mg ad H y d → appD ds d = some es → ∃ ws, RepAll X.K X.mg ad H ws es ∧ ∀ Q : VK, Q .non (upd H l (.lst ws)) → rAppend (.ref l) [y] H Q := fun ad H l vs ds es y d e r ry f => by
  unfold appD at f
  split at f
  · rename_i hl
    cases f
    exact ⟨vs ++ [y], r.app (.cons ry .nil), fun Q q => ⟨l, vs, y, rfl, rfl, e, by rw [r.len]; exact hl, q⟩⟩
  · cases f
theorem ad_ext {X : Cx} : ∀ (ad : DA) (H : Hp) (l : Addr) (vs : List V) (ds es : List D) (y : V) (d : D), H l = some (.lst vs) → RepAll X.K X.mg ad H vs ds → Rep X.K X.mg ad H y d → extD ds d = some es → ∃ ws, RepAll X.K X.mg ad H ws es ∧ ∀ Q : VK, Q .non (upd H l (.lst ws)) → rExtP X.K (.ref l) [y] H Q := fun ad H l vs ds es y d e r ry f => by
  unfold extD at f
  split at f
  · split at f
    · rename_i hl
      cases f
      cases ry with
      | lst s ra => exact ⟨vs ++ _, r.app ra, fun Q q => ⟨l, _, vs, _, rfl, rfl, e, s, by rw [r.len, ra.len]; exact hl, q⟩⟩
    · cases f
  · cases f
end

/-! more statements -/
/-! ### several values, some of them lists just made -/
inductive RepAX (K : PySem.W.Frag) (mg : Str → Option Value) (ad : DA) (H H' : Hp) : List V → List Fv → Prop
  | nil : RepAX K mg ad H H' [] []
  | cons {v : V} {vs : List V} {f : Fv} {fs : List Fv} : FRep K mg ad H H' v f → RepAX K mg ad H H' vs fs → (∀ ds, f = .f ds → ∀ (j : Nat) es, fs[j]? = some (.f es) → vs[j]? ≠ some v) → RepAX K mg ad H H' (v :: vs) (f :: fs)
abbrev RpAX (K : PySem.W.Frag) (mg : Str → Option Value) : RpT (List V) (List Fv) := fun ad H H' v f => RepAX K mg ad H H' v f
theorem RepAX.len {K : PySem.W.Frag} {mg : Str → Option Value} {ad : DA} {H H' : Hp} : ∀ {vs : List V} {fs : List Fv}, RepAX K mg ad H H' vs fs → vs.length = fs.length
  | _, _, .nil => rfl
  | _, _, .cons _ r _ => by rw [List.length_cons, List.length_cons, RepAX.len r]
theorem RepAX.imp {K : PySem.W.Frag} {mg : Str → Option Value} {ad : DA} {H H' J J' : Hp} (i : ∀ v f, FRep K mg ad H H' v f → FRep K mg ad J J' v f) : ∀ {vs : List V} {fs : List Fv}, RepAX K mg ad H H' vs fs → RepAX K mg ad J J' vs fs
  | _, _, .nil => .nil
  | _, _, .cons a r n => .cons (i _ _ a) (RepAX.imp i r) n
theorem RepAX.get {K : PySem.W.Frag} {mg : Str → Option Value} {ad : DA} {H H' : Hp} : ∀ {vs : List V} {fs : List Fv} {j : Nat} {f : Fv}, RepAX K mg ad H H' vs fs → fs[j]? = some f → ∃ v, vs[j]? = some v ∧ FRep K mg ad H H' v f
  | _, _, _, _, .nil, e => by simp at e
  | _, _, 0, _, .cons a _ _, e => by simp at e; subst e; exact ⟨_, rfl, a⟩
  | _, _, j + 1, f, .cons _ r _, e => by
    obtain ⟨v, h1, h2⟩ := RepAX.get (j := j) (f := f) r (by simpa using e)
    exact ⟨v, by simpa using h1, h2⟩
theorem bkAX {K : PySem.W.Frag} {mg : Str → Option Value} : Bk (RpAX K mg) := fun ad H H1 H' g v a k dk h => RepAX.imp (fun v f => bkX ad H H1 H' g v f k dk) h
theorem FRep.keep {K : PySem.W.Frag} {mg : Str → Option Value} {ad : DA} {H H1 H2 : Hp} {g g1 : G} {v : V} {f : Fv} (h : FRep K mg ad H H1 v f) (k : Keep ad H1 H2) (dk0 : DrawOk ad H g) (dk : DrawOk ad H1 g1) : FRep K mg ad H H2 v f := by
  cases f with
  | v d => exact Rep.keep h k dk
  | f ds =>
    obtain ⟨a, vs, e, n, ea, ra⟩ := h
    exact ⟨a, vs, e, n, k a _ ea (dk0.ne n), ra.keep k dk⟩
def axNil : DSt → G → R (List Fv) := fun _ g => .ok [] g
def axCons (t : XT) (ts : DSt → G → R (List Fv)) : DSt → G → R (List Fv) := fun S g => (t S g).bind fun a g1 => (ts S g1).bind fun b g2 => .ok (a :: b) g2
abbrev eAX (K : PySem.W.Frag) (mg : Str → Option Value) (W : WX) (B : List Nat) (t : DSt → G → R (List Fv)) : TA := rd (RpAX K mg) K mg W B t
section
variable {X : Cx} {W : WX} {Ba Bb B : List Nat} {e : Expr} {es : List Expr} {ta : XT} {ts : DSt → G → R (List Fv)}
theorem dax_nil : PA X [] (eAX X.K X.mg W [] axNil) := PA.imp pa_nil fun σ H Q ⟨a0, S, g, h⟩ => h.po [] H (.refl _ _) h.dk .nil
theorem dax_cons (ha : PE X e (eX X.K X.mg W Ba ta)) (hr : PA X es (eAX X.K X.mg W Bb ts)) (hs : starEach (e :: es) X.env = (false, eval e X.env) :: starEach es X.env := by rfl) : PA X (e :: es) (eAX X.K X.mg W (Ba ++ Bb) (axCons ta ts)) :=
  PA.imp (pa_cons ha hr hs) fun σ H Q ⟨a0, S, g, h⟩ => by
    refine ⟨a0, S, g, h.sr.left, h.dk, ?_⟩
    have p := h.po
    unfold axCons at p
    cases r0 : ta S g with
    | bad => simp only [r0, R.bind] at p; exact p
    | er y g' => simp only [r0, R.bind] at p; exact p
    | ok f g1 =>
      simp only [r0, R.bind] at p
      intro x H1 k1 d1 r1
      refine ⟨a0, S, g1, h.sr.right.keep k1 h.dk, d1, ?_⟩
      cases r : ts S g1 with
      | bad => simp only [r] at p; exact p
      | er y g' => simp only [r] at p; exact fun c dd H' k' d' q => p c dd H' (k1.trans k') d' q
      | ok fs g2 =>
        simp only [r] at p
        intro y H2 k2 d2 r2
        refine p (x :: y) H2 (k1.trans k2) d2 (.cons (r1.keep k2 h.dk d1) (r2.imp fun v f q => bkX a0 H H1 H2 g1 v f k1 d1 q) fun ds ef j es ej hv => ?_)
        subst ef
        obtain ⟨p1, vs1, e1, n1, l1, _⟩ := r1
        obtain ⟨v, ev, q⟩ := r2.get ej
        rw [hv] at ev; cases ev
        obtain ⟨p2, vs2, e2, n2, _⟩ := q
        rw [e1] at e2; cases e2
        rw [l1] at n2; cases n2
end
/-- names set, one after another -/
def setVs : List Nat → List V → St → St
  | i :: is, v :: vs, σ => setVs is vs (σ.set i (some v))
  | _, _, σ => σ
def setFs : List Nat → List Fv → SS → SS
  | i :: is, f :: fs, S => setFs is fs (S.set i (some f.sv))
  | _, _, S => S
def nolF (fs : List Fv) : Bool := fs.all Fv.nol
def sSetAll (is : List Nat) (B : List Nat) (t : DSt → G → R (List Fv)) : SB := fun S g => match t (view S) g with
  | .ok fs g' => if fs.length = is.length then .nx (setFs is fs (if nolF fs then S else frzB B S)) g' else .bad
  | .er x g' => .er x (frzB B S) g'
  | .bad => .bad
/-- how the values lie that a statement gets -/
inductive FSA (K : PySem.W.Frag) (mg : Str → Option Value) (H0 : Hp) (ad : DA) (H' : Hp) (σ : St) (S' : SS) : List V → List Fv → Prop
  | nil : FSA K mg H0 ad H' σ S' [] []
  | cons {v : V} {vs : List V} {f : Fv} {fs : List Fv} : FS K mg H0 ad H' σ S' v f → FSA K mg H0 ad H' σ S' vs fs → (∀ ds, f = .f ds → ∀ (j : Nat) es, fs[j]? = some (.f es) → vs[j]? ≠ some v) → FSA K mg H0 ad H' σ S' (v :: vs) (f :: fs)
section
variable {K : PySem.W.Frag} {mg : Str → Option Value} {H0 : Hp} {ad : DA} {H : Hp}
theorem SRS.storeAll : ∀ {is : List Nat} {vs : List V} {fs : List Fv} {σ : St} {S : SS}, SRS K mg H0 ad H σ S → FSA K mg H0 ad H σ S vs fs → SRS K mg H0 ad H (setVs is vs σ) (setFs is fs S)
  | [], _, _, _, _, s, _ => s
  | i :: is, _, _, _, _, s, .nil => s
  | i :: is, v :: vs, f :: fs, σ, S, s, .cons h r n => by
    refine SRS.storeAll (is := is) (s.store h) ?_
    -- the later ones stand over the new slots
    have go : ∀ {vs : List V} {fs : List Fv}, FSA K mg H0 ad H σ S vs fs → (∀ ds, f = .f ds → ∀ (j : Nat) es, fs[j]? = some (.f es) → vs[j]? ≠ some v) → FSA K mg H0 ad H (σ.set i (some v)) (S.set i (some f.sv)) vs fs := by
      intro vs fs r
      induction r with
      | nil => exact fun _ => .nil
      | @cons w ws e es q _ n' ih =>
        intro hn
        refine .cons ?_ (ih fun ds ef j es' ej => by simpa using hn ds ef (j + 1) es' (by simpa using ej)) n'
        cases e with
        | v d => exact q
        | f ds =>
          obtain ⟨a, xs, e1, e2, e3, e4, e5, e6⟩ := q
          refine ⟨a, xs, e1, e2, e3, e4, e5, fun j es2 g1 g2 => ?_⟩
          by_cases hj : i = j
          · subst hj
            cases f with
            | v d =>
              by_cases hl : i < S.length
              · rw [List.getElem?_set_self hl] at g1; cases g1
              · rw [List.getElem?_eq_none (by simpa using hl)] at g1; cases g1
            | f ds2 =>
              by_cases hl : i < σ.length
              · rw [List.getElem?_set_self hl] at g2
                cases g2
                exact hn ds2 rfl 0 ds (by simp) (by simp [e1])
              · rw [List.getElem?_eq_none (by simpa using hl)] at g2; cases g2
          · rw [List.getElem?_set_ne hj] at g1 g2
            exact e6 j es2 g1 g2
    exact go r n
end
section
variable {X : Cx} {W : WX} {B : List Nat} {st : Stmt} {is : List Nat} {ta : TA} {u : DSt → G → R (List Fv)}
theorem ds_lendAll (h : PS X st (fun D σ H => ta σ H fun vs H1 => vs.length = is.length ∧ ∀ H', (∀ a o, H1 a = some o → H' a = some o) → D.nx (setVs is vs σ) H')) (ap : ∀ σ H Q, eAX X.K X.mg W B u σ H Q → ta σ H Q) : SD X W st (sSetAll is B u) := by
  refine ⟨fun pins s σ H D I ⟨ad, S, g, hh⟩ => ?_⟩
  obtain ⟨sr, dk, po⟩ := hh
  obtain ⟨H1, I1, s1, sr1, dk1, p1, hn0, back⟩ := lend B I sr dk
  unfold sSetAll at po
  refine thn (h.run pins s σ H1 { nx := fun σ2 H2 => ∃ vs fs g', u (view S) g = .ok fs g' ∧ σ2 = setVs is vs σ ∧ Keep ad H1 H2 ∧ DrawOk ad H2 g' ∧ RepAX X.K X.mg ad H1 H2 vs fs ∧ fs.length = is.length, rt := fun _ _ => False } I1 (ap σ H1 _ ⟨ad, view S, g, sr1, dk1, ?_⟩)) fun f s' q => ?_
  · cases r : u (view S) g with
    | bad => rw [r] at po; exact po
    | er x g' => rw [r] at po; exact fun c dd H' k' d' q => po c dd σ H' (p1.trans (k'.perm dk1)) (s1.keeps k' dk1) d' q
    | ok fs g' =>
      rw [r] at po
      intro vs H2 k2 d2 q
      by_cases hl : fs.length = is.length
      · refine ⟨by rw [q.len]; exact hl, fun H3 hx => ?_⟩
        have k3 : Keep ad H2 H3 := fun a o e _ => hx a o e
        exact ⟨vs, fs, g', rfl, rfl, k2.trans k3, d2.at_ (fun xs e => hx _ _ e) (fun o u e => hx _ _ e), q.imp fun v f z => z.keep k3 dk1 d2, hl⟩
      · simp only at po
        rw [if_neg hl] at po
        exact po.elim
  · cases f with
    | brk => obtain ⟨_, _, _, z⟩ := q; exact z.elim
    | cont => obtain ⟨_, _, _, z⟩ := q; exact z.elim
    | ret u => obtain ⟨_, _, _, _, _, z⟩ := q; exact z.elim
    | next =>
      obtain ⟨σ2, H2, I2, vs, fs, g', ef, rfl, k2, d2, fr, hl⟩ := q
      rw [ef] at po
      simp only at po
      rw [if_pos hl] at po
      by_cases hn : nolF fs = true
      · rw [if_pos hn] at po
        obtain ⟨H3, I3, s3, d3, p3, gT3, nn, same⟩ := back H2 s' g' _ I2 k2 d2
        refine ⟨_, H3, I3, po _ H3 p3 (s3.storeAll ?_) d3⟩
        clear po ef hl I2 I3
        induction fr with
        | nil => exact .nil
        | @cons v vs f fs q _ n ih =>
          simp only [nolF, List.all_cons, Bool.and_eq_true] at hn
          refine .cons ?_ (ih hn.2) n
          cases f with
          | v d => exact Rep.mapN gT3 d v hn.1 q
          | f ds =>
            obtain ⟨a, vs, rfl, na, ea, ra⟩ := q
            have na' : H a = none := hn0 a na
            refine ⟨a, vs, rfl, by rw [same a na]; exact ea, RepAll.mapN gT3 ds vs hn.1 ra, sr.keep.free (dk.ne na') na', dk.ne na', fun j es e1 e2 => ?_⟩
            obtain ⟨a', ws, f1, f2, _⟩ := sr.own j es e1
            rw [e2] at f1; cases f1
            rw [na'] at f2; cases f2
      · rw [if_neg hn] at po
        refine ⟨_, H2, I2, po _ H2 (p1.trans (k2.perm dk1)) ((s1.keeps k2 dk1).storeAll ?_) d2⟩
        clear po ef hl hn I2
        induction fr with
        | nil => exact .nil
        | @cons v vs f fs q _ n ih =>
          refine .cons ?_ ih n
          cases f with
          | v d => exact q
          | f ds =>
            obtain ⟨a, vs, rfl, na, ea, ra⟩ := q
            refine ⟨a, vs, rfl, ea, ra, s1.keep.free (dk1.ne na) na, dk1.ne na, fun j es e1 e2 => ?_⟩
            obtain ⟨a', ws, f1, f2, _⟩ := s1.own j es e1
            rw [e2] at f1; cases f1
            rw [na] at f2; cases f2
theorem ds_par {i j : Nat} {x y : Str} {a b : Expr} {px py pt pos : Pos} {kt k2 pt2} (hc : X.calm = true) (hN : X.N.Nodup) (hi : X.N[i]? = some x) (hj : X.N[j]? = some y) (hij : i ≠ j)
    (hx : X.env.scope.names.lookup x = some .local) (hy : X.env.scope.names.lookup y = some .local) (ha : PA X [a, b] (eAX X.K X.mg W B u))
    (hw : swappedStores [.Tuple [.Name x px, .Name y py] kt pt] (.Tuple [a, b] k2 pt2) X.env = pure (some [x, y]))
    (hs : swapsWithSole [.Tuple [.Name x px, .Name y py] kt pt] (.Tuple [a, b] k2 pt2) pos.line X.env = pure false := by rfl) :
    SD X W (.Assign [.Tuple [.Name x px, .Name y py] kt pt] (.Tuple [a, b] k2 pt2) pos) (sSetAll [i, j] B u) :=
  ds_lendAll (ta := eAX X.K X.mg W B u) (PS.imp (ps_par hc hN hi hj hij hx hy ha hw hs) fun D σ H ⟨ad, S, g, h⟩ => ⟨ad, S, g, h.imp fun vs H1 ⟨hl, q⟩ => match vs, hl, q with | [v, w], _, q => ⟨v, w, rfl, q H1 fun _ _ e => e⟩⟩) fun σ H Q h => h
theorem ds_par3 {i j l : Nat} {x y z : Str} {a b c : Expr} {px py pz pt pos : Pos} {kt k2 pt2} (hc : X.calm = true) (hN : X.N.Nodup) (hi : X.N[i]? = some x) (hj : X.N[j]? = some y) (hl : X.N[l]? = some z) (hij : i ≠ j) (hil : i ≠ l) (hjl : j ≠ l)
    (hx : X.env.scope.names.lookup x = some .local) (hy : X.env.scope.names.lookup y = some .local) (hz : X.env.scope.names.lookup z = some .local) (ha : PA X [a, b, c] (eAX X.K X.mg W B u))
    (hw : swappedStores [.Tuple [.Name x px, .Name y py, .Name z pz] kt pt] (.Tuple [a, b, c] k2 pt2) X.env = pure (some [x, y, z]))
    (hs : swapsWithSole [.Tuple [.Name x px, .Name y py, .Name z pz] kt pt] (.Tuple [a, b, c] k2 pt2) pos.line X.env = pure false := by rfl) :
    SD X W (.Assign [.Tuple [.Name x px, .Name y py, .Name z pz] kt pt] (.Tuple [a, b, c] k2 pt2) pos) (sSetAll [i, j, l] B u) :=
  ds_lendAll (ta := eAX X.K X.mg W B u) (PS.imp (ps_par3 hc hN hi hj hl hij hil hjl hx hy hz ha hw hs) fun D σ H ⟨ad, S, g, h⟩ => ⟨ad, S, g, h.imp fun vs H1 ⟨hl, q⟩ => match vs, hl, q with | [v, w, r], _, q => ⟨v, w, r, rfl, q H1 fun _ _ e => e⟩⟩) fun σ H Q h => h
/-! several names, some of them captured: a tuple is made and taken apart -/
theorem gNames_vs : ∀ {is : List Nat} {vs : List V} {σ : St} {H : Hp} {Q : St → Hp → Prop}, vs.length = is.length → Q (setVs is vs σ) H → gNames is vs σ H Q
  | [], [], _, _, _, _, q => ⟨rfl, q⟩
  | i :: is, v :: vs, _, _, _, h, q => ⟨v, vs, rfl, gNames_vs (by simpa using h) q⟩
  | [], _ :: _, _, _, _, h, _ => by simp at h
  | _ :: _, [], _, _, _, h, _ => by simp at h
theorem ds_parT {es ns : List Expr} {pt pos : Pos} {kt k2 pt2} (hc : X.calm = true) (hz : is.length ≤ sizeLine) (hg : PGs X ns (gNames is)) (ha : PA X es (eAX X.K X.mg W B u))
    (hn : (assignEach ns X.env).length = is.length := by rfl) (hst : (assignEach ns X.env).findIdx? (·.1) = none := by rfl) (hs : swapsWithSole [.Tuple ns kt pt] (.Tuple es k2 pt2) pos.line X.env = pure false := by rfl) (hw : swappedStores [.Tuple ns kt pt] (.Tuple es k2 pt2) X.env = pure none := by rfl)
    (h1 : (assignEach [.Tuple ns kt pt] X.env).map (·.2) = [assign (.Tuple ns kt pt) X.env] := by rfl) :
    SD X W (.Assign [.Tuple ns kt pt] (.Tuple es k2 pt2) pos) (sSetAll is B u) :=
  ds_lendAll (ta := eAX X.K X.mg W B u) (PS.imp (ps_asg (pe_tup ha) (pg_tup hc hg hn hst) hs hw h1) fun D σ H ⟨ad, S, g, h⟩ => ⟨ad, S, g, h.imp fun vs H1 ⟨hl, q⟩ => ⟨by rw [hl]; exact hz, fun p hp => ⟨p, vs, rfl, .of upd_same, hl, gNames_vs hl (q _ fun a o e => by rw [upd_ne (ne_of_none e hp)]; exact e)⟩⟩⟩) fun σ H Q h => h
/-- names = what an expression gives (a tuple, a list) -/
def sUnp (is : List Nat) (B : List Nat) (t : ET) : SB := fun S g => match t (view S) g with
  | .ok d g' => match setS (.tp is) d (post (.v d) B S) with
    | some S' => .nx S' g'
    | none => .bad
  | .er x g' => .er x (frzB B S) g'
  | .bad => .bad
theorem ds_unp {e : Expr} {ns : List Expr} {kt : Nat} {pt pos : Pos} {t : ET} (he : PE X e (eE X.K X.mg W B t)) (hg : TgOk X (.Tuple ns kt pt) (.tp is)) (hs : swapsWithSole [.Tuple ns kt pt] e pos.line X.env = pure false := by rfl) (hw : swappedStores [.Tuple ns kt pt] e X.env = pure none := by rfl)
    (h1 : (assignEach [.Tuple ns kt pt] X.env).map (·.2) = [assign (.Tuple ns kt pt) X.env] := by rfl) : SD X W (.Assign [.Tuple ns kt pt] e pos) (sUnp is B t) := PS.imp (ps_asg (brw (dx_of he)) hg.pg hs hw h1) fun D σ H ⟨ad, S, g, h⟩ => by
  refine ⟨ad, S, g, h.sr, h.dk, ?_⟩
  have p := h.po
  unfold sUnp at p
  show pstB X.K X.mg X.H_0 ad H σ S B _ _ ((t (view S) g).map Fv.v)
  cases r : t (view S) g with
  | bad => rw [r] at p; exact p
  | er x g' => rw [r] at p; exact fun c dd H' k sr dk q => p c dd _ H' k sr dk q
  | ok d g' =>
    rw [r] at p
    intro v H' k sr dk q
    cases e : setS (.tp is) d (post (.v d) B S) with
    | none => simp only [e] at p; exact p.elim
    | some S' =>
      simp only [e] at p
      exact gT_S q sr e fun σ' s' => p σ' H' k s' dk
/-- x += e -/
def sAug (i : Nat) (B : List Nat) (op : D → D → Option D) (t : ET) : SB := fun S g => match S[i]? with
  | some (some (.val a)) => match t (view S) g with
    | .ok d g' => match op a d with
      | some z => .nx ((post (.v d) B S).set i (some (.val z))) g'
      | none => .bad
    | .er x g' => .er x (frzB B S) g'
    | .bad => .bad
  | _ => .bad
/-- raise X('..') of an own class without __init__ -/
structure ExC (K : PySem.W.Frag) (mg : Str → Option Value) (x : Str) (C : Addr) : Prop where
  g : mg x = some (.ref C)
  q : PySem.W.excIn K C [.type "ValueError", .type "Exception", .type "BaseException", .type "object"] "ValueError.__new__" = true
  k : PySem.W.keepIn K (.ref C) = true
  b : PySem.W.subIn K (.ref C) (.type "BaseException") = some true
  t : PySem.W.typeIn K (.ref C) = some (.type "type")
def sRaise (x : Str) : SB := fun S g => .er ⟨x, []⟩ S g
theorem ds_raise {x m : Str} {C : Addr} {j : Nat} {p p2 pos pos2 : Pos} (hc : X.calm = true) (tk : Takes X W) (T : ExC X.K X.mg x C) (hg : Gl X x) (hdb : (x == ("__debug__" : Str)) = false := by decide) : SD X W (.Raise (some (.Call (.Name x p) [.Constant (.str m) j p2] [] pos)) none pos2) (sRaise x) :=
  PS.imp (ps_raise hc tk (pmk_own PySem.F.excBase_ValueError T.q T.g T.k (raises_own T.b T.t) hg hdb)) fun D σ H ⟨ad, S, g, h⟩ => h.po (.ref C) none σ H (.refl _) h.sr h.dk ⟨C, T.g, rfl, fun z => absurd rfl z⟩
/-- try: b except C: bs (which raises nothing) -/
def sTry (sub : Str → Option Bool) (b bs : SB) : SB := fun S g => match b S g with
  | .er x S1 g1 => match sub x.cls with
    | some true => match bs S1 g1 with
      | .er _ _ _ => .bad
      | r => r
    | some false => .er x S1 g1
    | none => .bad
  | r => r
theorem ds_try {x : Str} {c : Value} {sub : Str → Option Bool} {body suite : List Stmt} {b₀ : Stmt} {np pos pos' : Pos} {b bs : SB} (hs : X.stack = X.env :: X.outer) (hf : X.env.frame = some X.env.locals) (hc : Names X x c) (tk : Takes X W)
    (hsub : ∀ y v, sub y = some v → ∀ A, X.mg y = some (.ref A) → PySem.W.exmOne X.K (.ref A) c = some v)
    (hb : ∀ (W' : WX) (pn : List (Addr × Obj)) (xe : Value → Shared → Prop), Takes (X.tr pn xe) W' → PassesOwn (model X.prog X.w) X.A X.env xe → SDs (X.tr pn xe) W' body b)
    (hsu : ∀ (a : Addr) (oe : Obj) (pn : List (Addr × Obj)), SDs (X.suite a ((a, oe) :: pn)) W0 (b₀ :: suite) bs) :
    SD X W (.Try body [.ExceptHandler (some (.Name x np)) none (b₀ :: suite) pos'] [] [] pos) (sTry sub b bs) :=
  PS.imp (ps_try_only (tb := fun W' => rdS X.K X.mg X.H_0 W' b) (ts := fun _ _ _ => rdS X.K X.mg X.H_0 W0 bs) hs hf hc tk (fun W' pn xe t p => hb W' pn xe t p) (fun a oe _ _ pn _ _ => hsu a oe pn)) fun D σ H ⟨ad, S, g, h⟩ => by
    refine ⟨ad, S, g, h.sr, h.dk, ?_⟩
    have p := h.po
    unfold sTry at p
    cases r : b S g with
    | nx S1 g1 => rw [r] at p; exact p
    | bk S1 g1 => rw [r] at p; exact p
    | ct S1 g1 => rw [r] at p; exact p
    | ret d g1 => rw [r] at p; exact p
    | bad => rw [r] at p; exact p
    | er y S1 g1 =>
      rw [r] at p
      intro cls dd σ' H' k sr dk ex
      simp only at p
      obtain ⟨A, hA, rfl, _⟩ := id ex
      cases e : sub y.cls with
      | none => rw [e] at p; exact p.elim
      | some v =>
        refine ⟨v, hsub _ _ e A hA, fun hv a _ => ?_, fun hv => ?_⟩
        · subst hv
          rw [e] at p
          simp only at p
          refine ⟨ad, S1, g1, sr, dk, ?_⟩
          cases r2 : bs S1 g1 with
          | er _ _ _ => rw [r2] at p; exact p.elim
          | nx S2 g2 => rw [r2] at p; exact p.perm k
          | bk S2 g2 => rw [r2] at p; exact p.perm k
          | ct S2 g2 => rw [r2] at p; exact p.perm k
          | ret d g2 => rw [r2] at p; exact p.perm k
          | bad => rw [r2] at p; exact p
        · subst hv
          rw [e] at p
          exact p _ dd σ' H' k sr dk ex
end

/-! sorting, slices, sums -/
section
variable {prog : Program} {w : World} {A : Around} {E : Value → Shared → Prop} {s : Shared}
/-- the items of a list or a tuple -/
theorem collect_sq {l : Addr} {vs : List Value} {Q : List Value → Shared → Prop} {o : Obj} {n : Nat} {T : String} (ho : s.heap.get? l = some o) (hT : T = "list" ∨ T = "tuple") (hc : o.cls = .type T) (hd : o.data = .seq vs.toArray n)
    (h : Q vs { s with heap := (s.heap.push (seqObj "list" #[] 0)).update s.heap.objs.size (Obj.mapSeq (· ++ vs.toArray)) }) (hsz : vs.length ≤ sizeLine) :
    wpAny (model prog w) A (collect (.ref l)) Q E s := by
  unfold collect
  refine wpAny_bind (wpAny_runValue (codeAny_builtin entry_proto_collect' ?_))
  show wpAny _ _ (do again (.builtin "list.__iadd__" ⟨[← newList [], .ref l], []⟩)) _ _ s
  refine wpAny_bind (wpAny_newList (wpAny_pure ⟨Code.quiet_builtin _ (by decide +kernel), codeAny_builtin entry_list_iadd' ?_⟩))
  show wpAny _ _ (Builtin.List.listExtendWith (.ref s.heap.objs.size) (.ref l) (.ref s.heap.objs.size)) _ _ { s with heap := s.heap.push (seqObj "list" #[] 0) }
  unfold Builtin.List.listExtendWith
  have ho' : (s.heap.push (seqObj "list" #[] 0)).get? l = some o := Heap.get?_push_of_some _ ho
  refine wpAny_bind (wpAny_typeOf (T := T) ⟨o, ho', hc⟩ ?_)
  have ht : (Value.type T == Value.type "list") = true ∨ (Value.type T == Value.type "tuple") = true := by
    rcases hT with rfl | rfl
    · exact .inl rfl
    · exact .inr rfl
  rw [if_pos (by
    simp only [Bool.or_eq_true]
    rcases ht with ht | ht
    · exact .inl (.inr ht)
    · exact .inr ht)]
  refine wpAny_bind (listItems_at ho' hd ?_)
  refine wpAny_bind (listItems_at (xs := #[]) (n := 0) (Heap.get?_push_size _ rfl) rfl ?_)
  rw [if_neg (by simp)]
  refine wpAny_bind (listUpdate_at (xs := #[]) (n := 0) (Heap.get?_push_size _ rfl) rfl ?_ (Nat.zero_le _) (by show (#[] ++ vs.toArray).size ≤ sizeLine + 1; simp only [Array.size_append, List.size_toArray, List.length_nil]; omega))
  refine wpAny_pure ?_
  show wpAny (model prog w) A (do
      let o ← load s.heap.objs.size
      match o.data with
      | .seq xs _ => pure xs.toList
      | _ => unsupported "internal:collect") Q E { s with heap := (s.heap.push (seqObj "list" #[] 0)).update s.heap.objs.size (Obj.mapSeq (· ++ vs.toArray)) }
  refine wpAny_bind (wpAny_load (get?_update_seq (Heap.get?_push_size _ rfl) _) ?_)
  show wpAny _ _ (pure ((#[] : Array Value) ++ vs.toArray).toList) Q E _
  rw [show ((#[] : Array Value) ++ vs.toArray).toList = vs by simp]
  exact wpAny_pure h
open PySem.W PySem.Calls in
theorem sorted_sq {l : Addr} {vs : List Value} {κ : PyProof.Rows.KeyKind} {Q : Value → Shared → Prop} {o : Obj} {n : Nat} {T : String} (ho : s.heap.get? l = some o) (hT : T = "list" ∨ T = "tuple") (hc : o.cls = .type T) (hd : o.data = .seq vs.toArray n)
    (S : SortsAt prog w A.in1.in1 { s with heap := sortingHeap (copyHeap s.heap vs) (s.heap.objs.size + 1) vs } κ vs) (hL : vs.length ≤ sizeLine)
    (h : Q (.ref (s.heap.objs.size + 1)) { s with heap := sortedAll s.heap vs (sortVals κ false vs vs).toArray }) : wpAny (model prog w) A (call (.builtin "sorted") [.ref l]) Q E s := by
  refine call_function_entry_kw kind_sorted plain_sorted entry_sorted (args_sorted1 _) ?_
  unfold Builtin.«sorted»
  refine wpAny_bind (m := checkCount "sorted" 1 1 _) (wpAny_pure ?_)
  refine wpAny_bind (collect_sq ho hT hc hd ?_ hL)
  refine wpAny_bind (wpAny_newList ?_ hL)
  have hsz : ((s.heap.push (seqObj "list" #[] 0)).update s.heap.objs.size (Obj.mapSeq (· ++ vs.toArray))).objs.size = s.heap.objs.size + 1 := by
    rw [Heap.size_update, size_push']
  show wpAny _ _ _ _ _ { s with heap := copyHeap s.heap vs }
  rw [hsz]
  refine wpAny_bind (wpAny_holding (wpAny_call_entry_kw slot_list_sort ⟨_, copyHeap_at s.heap vs, rfl⟩ entry_list_sort ?body (args_list_sort _)))
  case body =>
    show wpAny (model prog w) A.in1.in1 (Builtin.«list.sort» ⟨[.ref (s.heap.objs.size + 1)], []⟩) _ _ _
    refine wpAny_mono (list_sort_vals (P := fun f s' => f = .done (.ret .none) ∧ Q (.ref (s.heap.objs.size + 1)) s') (s := { s with heap := copyHeap s.heap vs }) (copyHeap_at s.heap vs) S hL ⟨rfl, h⟩) (fun f s' hf => ?_) fun _ _ e => e
    obtain ⟨rfl, hq⟩ := hf
    exact ⟨_, rfl, wpAny_pure ⟨_, rfl, hq⟩⟩
end
open PySem.W in
/-- sorted(..) of alike data: bs the items with their data -/
def rSortA (K : PySem.W.Frag) : List V → Hp → VK → Prop := fun vs H Q => ∃ (a : Addr) (bs : List (V × PyData)), vs = [.ref a] ∧ (SqL K H a (bs.map (·.1)) ∨ SqT K H a (bs.map (·.1))) ∧ (∀ b ∈ bs, Dp K H b.1 b.2) ∧ AllAlike (bs.map (·.2)) ∧ Sortable (bs.map (·.2)) ∧ (∀ b ∈ bs, b.2.depth ≤ 64) ∧
  ∀ p, H p = none → Q (.ref p) (upd H p (.lst ((bs.mergeSort (dataLe false (·.2))).map (·.1))))
theorem Vals.zip {β : Type} {f : β → V} {R : Value → β → Prop} (hR : ∀ u b, R u b → RelV (f b) u) : ∀ {us : List Value} {bs : List β}, PySem.W.EachIs R us bs → Vals (bs.map f) us
  | _, _, .nil => .nil
  | _, _, .cons h t => .cons (hR _ _ h) (Vals.zip hR t)
theorem each_of {β : Type} {f : β → V} {R : Value → β → Prop} : ∀ {us : List Value} {bs : List β}, Vals (bs.map f) us → (∀ u b, b ∈ bs → RelV (f b) u → R u b) → PySem.W.EachIs R us bs
  | _, [], r, _ => by
    cases r
    exact .nil
  | _, b :: bs, r, h => by
    cases r with
    | cons r1 r2 => exact .cons (h _ b List.mem_cons_self r1) (each_of r2 fun u c hc => h u c (List.mem_cons_of_mem _ hc))
open PySem.W in
theorem cr_sortA {X : Cx} (hu : X.A.units + 70 < cLine) : CallR X (.builtin "sorted") (rSortA X.K) := by
  intro pins s σ H vs us Q I r h
  obtain ⟨a, bs, rfl, hs, hd, hal, hk, hdp, q⟩ := h
  obtain ⟨u, rfl, ru⟩ := vals1 r
  obtain rfl : u = Value.ref a := ru
  obtain ⟨its, rv, T, o, n, hT, ho, hc, hdat, hz⟩ : ∃ its, Vals (bs.map (·.1)) its ∧ ∃ T o n, (T = "list" ∨ T = "tuple") ∧ s.heap.get? a = some o ∧ o.cls = .type T ∧ o.data = .seq its.toArray n ∧ (bs.map (·.1)).length ≤ sizeLine := by
    rcases hs with hs | hs
    · obtain ⟨its, rv, ⟨o, n, h1, h2, _, h3⟩, hz⟩ := I.list hs
      exact ⟨its, rv, "list", o, n, .inl rfl, h1, h2, h3, hz⟩
    · obtain ⟨its, rv, ⟨o, h1, h2, n, h3⟩, hz⟩ := I.tuple hs
      exact ⟨its, rv, "tuple", o, n, .inr rfl, h1, h2, h3, hz⟩
  have hlen : its.length = bs.length := by rw [← rv.length, List.length_map]
  have hz' : bs.length ≤ sizeLine := by simpa using hz
  have e : EachIs (fun v b => RelV b.1 v) its bs := each_of rv fun u b _ h => h
  have er : EachIs (fun v (b : V × PyData) => ∃ as, Reads s.heap v b.2 as) its bs := each_of rv fun u b hb h => Dp.reads I b.2 b.1 u (hd b hb) h
  have er' : EachIs (fun v (b : V × PyData) => ∃ as, Reads (sortingHeap (copyHeap s.heap its) (s.heap.objs.size + 1) its) v b.2 as) its bs := er.mono fun _ _ ⟨as, r⟩ => ⟨as, PyProof.Rows.Reads.keeps (fun _ _ => sorting_copy_old) r⟩
  refine sorted_sq ho hT hc hdat (SortsAt.data (s := { s with heap := sortingHeap (copyHeap s.heap its) (s.heap.objs.size + 1) its }) (each_map (R := fun v d => ∃ as, Reads (sortingHeap (copyHeap s.heap its) (s.heap.objs.size + 1) its) v d as) (fun b : V × PyData => b.2) er') hal hk (bound_map fun b hb => ?_)) (by rw [hlen]; exact hz') ?_
  · have := hdp b hb
    show X.A.units + 2 + b.2.depth < cLine
    omega
  · have out := sortVals_data (enc := fun b : V × PyData => b.2) false e er' hal
    have kp : ∀ b o, s.heap.get? b = some o → (sortedAll s.heap its (sortVals (dataKind (sortingHeap (copyHeap s.heap its) (s.heap.objs.size + 1) its) (bs.map fun b => b.2)) false its its).toArray).get? b = some o := fun b o e => sortedAll_old e
    obtain ⟨k, hk2⟩ := sortedAll_at s.heap its (sortVals (dataKind (sortingHeap (copyHeap s.heap its) (s.heap.objs.size + 1) its) (bs.map fun b => b.2)) false its its).toArray
    refine ⟨.ref (s.heap.objs.size + 1), _, I.laid (t' := s.toks) (o := .lst ((bs.mergeSort (dataLe false (·.2))).map (·.1))) kp (Nat.le_succ _) ⟨?_, _, k, Vals.zip (fun u b h => h) out, hk2⟩, rfl, q _ (I.hok.fresh (Nat.le_succ _))⟩
    rw [List.length_map, List.length_mergeSort]
    exact hz'
/-! ### on data -/
def alikeAll2 (ps : List PyData) : Bool := ps.all fun d => ps.all fun e => PySem.W.alike d e
def sortable2 (ps : List PyData) : Bool := (ps.all fun d => match d with | .tuple (_ :: _) => true | _ => false) || (ps.all fun d => match d with | .none => false | .tuple _ => false | _ => true)
def leD (a b : D) : Bool := !PySem.W.dataLt b.py a.py
def sortL (ds : List D) : Option Fv := if alikeAll2 (pyAll ds) = true ∧ sortable2 (pyAll ds) = true ∧ (pyAll ds).all (fun p => SeqAt.shaped p) = true then some (.f (ds.mergeSort leD)) else none
def sortD : List D → Option Fv
  | [.lst ds] => sortL ds
  | [.tup ds] => sortL ds
  | _ => none
theorem pyAll_map : ∀ ds : List D, pyAll ds = ds.map D.py
  | [] => rfl
  | d :: ds => by simp [pyAll, pyAll_map ds]
theorem ad_sort {K : PySem.W.Frag} {mg : Str → Option Value} : AdC (RpX K mg) K mg (rSortA K) sortD := by
  have main : ∀ ad H g a xs ds c, DrawOk ad H g → (SqL K H a xs ∨ SqT K H a xs) → RepAll K mg ad H xs ds → sortL ds = some c → ∀ Q, (∀ v H', Keep ad H H' → DrawOk ad H' g → RpX K mg ad H H' v c → Q v H') → rSortA K [.ref a] H Q := by
    intro ad H g a xs ds c dk hs ra e Q q
    unfold sortL at e
    split at e
    · rename_i h
      cases e
      obtain ⟨h1, h2, h3⟩ := h
      -- the items with their data
      obtain ⟨zs, ez1, ez2, ez3⟩ : ∃ zs : List (V × D), zs.map (·.1) = xs ∧ zs.map (·.2) = ds ∧ ∀ z ∈ zs, Rep K mg ad H z.1 z.2 := by
        clear h1 h2 h3 q hs
        induction ds generalizing xs with
        | nil => cases ra; exact ⟨[], rfl, rfl, fun z h => nomatch h⟩
        | cons d ds ih =>
          cases ra with
          | cons r rs =>
            obtain ⟨zs, e1, e2, e3⟩ := ih _ rs
            refine ⟨(_, d) :: zs, by rw [List.map_cons, e1], by rw [List.map_cons, e2], fun z hz => ?_⟩
            rcases List.mem_cons.mp hz with rfl | hz
            · exact r
            · exact e3 z hz
      have ep : (zs.map fun z => (z.1, z.2.py)).map (·.2) = pyAll ds := by rw [pyAll_map, ← ez2, List.map_map, List.map_map]; rfl
      have ev : (zs.map fun z => (z.1, z.2.py)).map (·.1) = xs := by rw [← ez1, List.map_map]; rfl
      have sh : ∀ z ∈ zs, SeqAt.shaped z.2.py = true := fun z hz => by
        rw [List.all_eq_true] at h3
        refine h3 _ ?_
        rw [pyAll_map, ← ez2]
        exact List.mem_map.mpr ⟨_, List.mem_map.mpr ⟨z, hz, rfl⟩, rfl⟩
      refine ⟨a, zs.map fun z => (z.1, z.2.py), rfl, by rw [ev]; exact hs, fun b hb => ?_, ?_, ?_, fun b hb => ?_, fun p hp => ?_⟩
      · obtain ⟨z, hz, rfl⟩ := List.mem_map.mp hb
        exact (ez3 z hz).dp _ _ (SeqAt.canLay_of_shaped (sh z hz))
      · rw [ep]
        unfold alikeAll2 at h1
        intro d hd d' hd'
        exact List.all_eq_true.mp (List.all_eq_true.mp h1 d hd) d' hd'
      · rw [ep]
        unfold sortable2 at h2
        rw [Bool.or_eq_true] at h2
        rcases h2 with h2 | h2
        · refine .inl fun d hd => ?_
          have := List.all_eq_true.mp h2 d hd
          split at this
          · exact ⟨_, _, rfl⟩
          · cases this
        · refine .inr fun d hd => ?_
          have := List.all_eq_true.mp h2 d hd
          constructor
          · rintro rfl; cases this
          · rintro xs rfl; cases this
      · obtain ⟨z, hz, rfl⟩ := List.mem_map.mp hb
        exact SeqAt.depth_of_shaped (sh z hz)
      · have em : ((zs.map fun z => (z.1, z.2.py)).mergeSort (PySem.W.dataLe false (fun b : V × PyData => b.2))).map (·.1) = (zs.mergeSort fun a b => leD a.2 b.2).map (·.1) := by
          rw [← List.map_mergeSort (r := fun a b : V × D => leD a.2 b.2) (fun a _ b _ => by rw [PySem.W.dataLe_eq]; rfl), List.map_map]
          rfl
        have e2 : (zs.mergeSort fun a b => leD a.2 b.2).map (·.2) = ds.mergeSort leD := by
          rw [List.map_mergeSort (r := fun a b : V × D => leD a.2 b.2) (s := leD) (fun a _ b _ => rfl), ez2]
        rw [em]
        have rr : RepAll K mg ad H ((zs.mergeSort fun a b => leD a.2 b.2).map (·.1)) (ds.mergeSort leD) := by
          rw [← e2]
          have hm : ∀ z ∈ (zs.mergeSort fun a b => leD a.2 b.2), Rep K mg ad H z.1 z.2 := fun z hz => ez3 z (List.mem_mergeSort.mp hz)
          generalize (zs.mergeSort fun a b => leD a.2 b.2) = us at hm
          induction us with
          | nil => exact .nil
          | cons u us ih => exact .cons (hm u List.mem_cons_self) (ih fun z hz => hm z (List.mem_cons_of_mem _ hz))
        exact q _ _ (Keep.upd hp) (dk.upd hp) ⟨p, _, rfl, hp, upd_same, rr.keep (Keep.upd hp) dk⟩
    · cases e
  intro ad H g xs ds c dk r e Q q
  unfold sortD at e
  split at e
  · obtain ⟨x, rfl, rx⟩ := r.one
    cases rx with
    | lst s ra => exact main ad H g _ _ _ c dk (.inl s.l) ra e Q q
  · obtain ⟨x, rfl, rx⟩ := r.one
    cases rx with
    | tup s ra => exact main ad H g _ _ _ c dk (.inr s) ra e Q q
  · cases e

/-! ### slices -/
def cutD (xs : List D) (lo hi : Option Int) : List D := (xs.drop (HT.sIx xs.length 0 lo)).take (HT.sIx xs.length xs.length hi - HT.sIx xs.length 0 lo)
def sliceD (a : D) (lo hi : Option Int) : Option Fv := match a with
  | .str z => if z.length ≤ sizeLine then some (.v (.str (cutS z lo hi))) else none
  | .lst xs => some (.f (cutD xs lo hi))
  | .tup xs => some (.v (.tup (cutD xs lo hi)))
  | _ => none
def rSlAll (K : PySem.W.Frag) : V → Option Int → Option Int → Hp → VK → Prop := fun x lo hi H Q => rSlL K x lo hi H Q ∨ (rSlS x lo hi H Q ∨ rSlA K x lo hi H Q)
section
variable {X : Cx} {K : PySem.W.Frag} {mg : Str → Option Value}
theorem sl_all : SlR X (rSlAll X.K) := SlR.or sl_list (SlR.or sl_str sl_tupA)
theorem cut_rep {ad : DA} {H : Hp} {vs : List V} {ds : List D} {lo hi : Option Int} (r : RepAll K mg ad H vs ds) : RepAll K mg ad H (cutV vs lo hi) (cutD ds lo hi) := by
  unfold cutV cutD
  rw [r.len]
  exact (r.drop _).take _
theorem ad_slice {ad : DA} {H : Hp} {g : G} {x : V} {a : D} {lo hi : Option Int} {c : Fv} (dk : DrawOk ad H g) (rx : Rep K mg ad H x a) (e : sliceD a lo hi = some c) (Q : VK) (q : ∀ v H', Keep ad H H' → DrawOk ad H' g → FRep K mg ad H H' v c → Q v H') : rSlAll K x lo hi H Q := by
  unfold sliceD at e
  split at e
  · cases rx
    split at e
    · cases e
      exact .inr (.inl ⟨_, rfl, by assumption, q _ _ (.refl _ _) dk (.str _)⟩)
    · cases e
  · cases e
    cases rx with
    | lst s r => exact .inl ⟨_, _, rfl, s.l, fun p hp => q _ _ (Keep.upd hp) (dk.upd hp) ⟨p, _, rfl, hp, upd_same, (cut_rep r).keep (Keep.upd hp) dk⟩⟩
  · cases e
    cases rx with
    | tup s r =>
      refine .inr (.inr ⟨_, _, rfl, s, fun hw => ?_, fun hw p hp => q _ _ (Keep.upd hp) (dk.upd hp) (.tup (.of upd_same) ((cut_rep r).keep (Keep.upd hp) dk))⟩)
      refine q _ _ (.refl _ _) dk (.tup s ?_)
      have z := cut_rep (lo := lo) (hi := hi) r
      have ew : ∀ vs : List V, HT.sIx vs.length 0 lo = 0 ∧ HT.sIx vs.length vs.length hi = vs.length → cutV vs lo hi = vs := fun vs h => by
        unfold cutV
        rw [h.1, h.2]
        simp
      rw [ew _ hw] at z
      exact z
  · cases e
/-- a bound of a slice -/
def oNo : DSt → G → R (Option Int) := fun _ g => .ok none g
def oAt (t : ET) : DSt → G → R (Option Int) := fun S g => (t S g).bind fun d g1 => match d with
  | .int i => .ok (some i) g1
  | _ => .bad
def RpO : RpT (Option Int) (Option Int) := fun _ _ _ o o' => o = o'
theorem bkO : Bk RpO := fun _ _ _ _ _ _ _ _ _ h => h
theorem PO.imp {X : Cx} {e : Option Expr} {t t' : TO} (h : PO X e t) (i : ∀ σ H Q, t' σ H Q → t σ H Q) : PO X e t' := ⟨fun pins s σ H Q I q => h.run pins s σ H Q I (i σ H Q q)⟩
variable {W : WX} {B Bl Bh : List Nat} {e : Expr} {ta : ET}
theorem do_none : PO X none (rd RpO X.K X.mg W [] oNo) := PO.imp po_none fun σ H Q ⟨a0, S, g, h⟩ => h.po none H (.refl _ _) h.dk rfl
theorem do_some (h : PE X e (eE X.K X.mg W B ta)) : PO X (some e) (rd RpO X.K X.mg W B (oAt ta)) := PO.imp (po_some h) fun σ H Q ⟨a0, S, g, h⟩ => by
  have h : At RpO X.K X.mg W (B ++ []) (oAt ta) a0 S g σ H Q := by rw [List.append_nil]; exact h
  refine .mk ((h.bind (Rp1 := RpE X.K X.mg) bkO (k := fun d _ g1 => match d with | .int i => .ok (some i) g1 | _ => .bad)).imp fun x H1 ⟨a, g1, k1, d1, r1, h2⟩ => ?_)
  have p := h2.po
  cases r1 with
  | int i => exact ⟨i, rfl, p _ _ (.refl _ _) d1 rfl⟩
  | _ => exact p.elim
def xSlice (ta : ET) (tl th : DSt → G → R (Option Int)) : XT := fun S g => (ta S g).bind fun a g1 => (tl S g1).bind fun l g2 => (th S g2).bind fun u g3 => lift (sliceD a l u) g3
theorem dx_slice {lo hi : Option Expr} {tl th : DSt → G → R (Option Int)} {p2 pos : Pos} (he : PE X e (eE X.K X.mg W B ta)) (hl : PO X lo (rd RpO X.K X.mg W Bl tl)) (hh : PO X hi (rd RpO X.K X.mg W Bh th)) : PE X (.Subscript e (.Slice lo hi none p2) pos) (eX X.K X.mg W (B ++ (Bl ++ Bh)) (xSlice ta tl th)) :=
  PE.imp (pe_slice sl_all he hl hh) fun σ H Q ⟨a0, S, g, h⟩ => by
    refine .mk ((h.bind (Rp1 := RpE X.K X.mg) bkX (k := fun a S g1 => (tl S g1).bind fun l g2 => (th S g2).bind fun u g3 => lift (sliceD a l u) g3)).imp fun x H1 ⟨a, g1, k1, d1, r1, h2⟩ => ?_)
    refine .mk ((h2.bind (Rp1 := RpO) bkX (k := fun l S g2 => (th S g2).bind fun u g3 => lift (sliceD a l u) g3)).imp fun l H2 ⟨l', g2, k2, d2, r2, h3⟩ => ?_)
    cases r2
    have h3 : At (RpX X.K X.mg) X.K X.mg W (Bh ++ []) (fun S g2 => (th S g2).bind fun u g3 => lift (sliceD a l u) g3) a0 S g2 σ H2 Q := by rw [List.append_nil]; exact h3
    refine .mk ((h3.bind (Rp1 := RpO) bkX (k := fun u _ g3 => lift (sliceD a l u) g3)).imp fun u H3 ⟨u', g3, k3, d3, r3, h4⟩ => ?_)
    cases r3
    obtain ⟨z, e, q⟩ := At.lift (o := fun _ => sliceD a l u) h4
    exact ad_slice d3 ((r1.keep k2 d1).keep k3 d2) e Q q
end

/-! repetition; the law's draws -/
section
variable {X : Cx} {K : PySem.W.Frag} {mg : Str → Option Value}
/-- [..] * n of a list that stays -/
def rRepP (K : PySem.W.Frag) : R2 := fun x y H Q => ∃ l k xs, x = .ref l ∧ y = .int k ∧ SqP K H l xs ∧ (-(2 ^ 63) ≤ k ∧ k < 2 ^ 63) ∧ xs.length * k.toNat ≤ sizeLine ∧ ∀ p, H p = none → Q (.ref p) (upd H p (.lst (List.replicate k.toNat xs).flatten))
theorem rep_new (its : List Value) (m : Nat) : List.foldl (fun a b => a ++ b) #[] (List.replicate (if its.toArray.isEmpty = true then 0 else m) its.toArray) = (List.replicate m its).flatten.toArray := by
  have f1 : List.foldl (fun a b => a ++ b) #[] (List.replicate m its.toArray) = ([] ++ (List.replicate m its).flatten).toArray := foldl_rep its m []
  by_cases h : its = []
  · subst h; simp
  · rw [if_neg (by simpa using h), f1, List.nil_append]
theorem op_repP : OpR X (binaryOp .Mult) (rRepP X.K) := by
  intro pins s σ H x y v u Q I rx ry ⟨l, k, xs, ex, ey, hH, ⟨h1, h2⟩, hz, q⟩
  subst ex ey
  obtain ⟨tk, ek⟩ := ry
  cases rx
  subst ek
  obtain ⟨_, its, n, r, hl, e⟩ := lstP I hH
  have size : its.toArray.size * k.toNat ≤ sizeLine := by simpa [← hl] using hz
  have c1 : ¬ (!Builtin.List.listFitsIndex k) = true := by simp [fitsIndex_both h1 h2]
  have c2 : ¬ its.toArray.size * k.toNat > (2 ^ 63 - 1) / 8 := Nat.not_lt.mpr (Nat.le_trans size (by decide))
  have c3 : ¬ Builtin.List.listTooLong (its.toArray.size * k.toNat) = true := by rw [notLongL size]; decide
  have ty : s.TypeIs (.ref l) "list" := ⟨_, e, rfl⟩
  have inner := call_meets (prog := X.prog) (w := X.w) (A := X.A) (E := X.xe) (s := s) (Q := fun v s' => EP X pins σ Q v s') F.slot_list_mul ty F.entry_list_mul (F.args_list_mul_2 _ (.int k tk)) (AutoListH.list___mul___list_int_3 l its.toArray n k tk c1 c2 c3)
  refine wpAny_binaryOp_repeat_ref (T := "list") (U := "int") (by decide) ⟨_, e, rfl⟩ (fun s' => typeIs_int s' k tk) noFill_list_mul F.fills_int_mul F.slot_int_rmul repeat_list F.slot_int_index.lookup
    (call_meets F.slot_int_rmul (typeIs_int s k tk) F.entry_int_rmul (F.args_int_rmul_2 _ _) (int___rmul___int_list k tk l its.toArray n) ⟨e, rfl, ⟨_, e, rfl⟩, inner ⟨e, ?_⟩⟩)
  rw [rep_new]
  exact ⟨.ref _, _, I.lnew (t' := s.toks) (r.rep k.toNat) (by rw [PyProof.Rows.lm_len_rep_flat, Nat.mul_comm]; exact hz), rfl, q _ I.fresh⟩
def rMulX (K : PySem.W.Frag) : R2 := fun x y H Q => rI CMul (fun i j => .int (i * j)) x y H Q ∨ rRepP K x y H Q
theorem op_mulX : OpR X (binaryOp .Mult) (rMulX X.K) := OpR.or op_mul op_repP
/-- a product, or a list several times -/
def mulX : D → D → Option Fv
  | .int i, .int j => if CMul i j then some (.v (.int (i * j))) else none
  | .lst ds, .int k => if (-(2 ^ 63) ≤ k ∧ k < 2 ^ 63) ∧ ds.length * k.toNat ≤ sizeLine then some (.f (List.replicate k.toNat ds).flatten) else none
  | _, _ => none
theorem RepAll.reps {ad : DA} {H : Hp} {vs : List V} {ds : List D} (r : RepAll K mg ad H vs ds) : ∀ n : Nat, RepAll K mg ad H (List.replicate n vs).flatten (List.replicate n ds).flatten
  | 0 => .nil
  | n + 1 => by rw [List.replicate_succ, List.replicate_succ, List.flatten_cons, List.flatten_cons]; exact r.app (RepAll.reps r n)
theorem ad_mulX : AdG (RpX K mg) K mg (rMulX K) mulX := by
  intro ad H g x y a b c dk rx ry e Q q
  unfold mulX at e
  split at e
  · cases rx; cases ry
    split at e
    · cases e; exact .inl ⟨_, _, rfl, rfl, by assumption, q _ _ (.refl _ _) dk (.int _)⟩
    · cases e
  · cases ry
    cases rx with
    | lst s r =>
      split at e
      · rename_i hl
        cases e
        exact .inr ⟨_, _, _, rfl, rfl, s, hl.1, by rw [r.len]; exact hl.2, fun p hp => q _ _ (Keep.upd hp) (dk.upd hp) ⟨p, _, rfl, hp, upd_same, (r.reps _).keep (Keep.upd hp) dk⟩⟩
      · cases e
  · cases e
end

/-! ### a draw -/
/-- a new number in place, if the present one is used up -/
def fill (g : G) : G := if g.cur = 0 then
    let n := g.at_ + 1
    let c := if n < g.cells.length then (g.cells[n.toNat]?).getD 0 else 0
    if c = 0 then ⟨g.cells, n, (g.seed * 48271 + 11) % 2147483647, (g.seed * 48271 + 11) % 2147483647⟩ else ⟨g.cells, n, c, g.seed⟩
  else g
def okN (m : Int) : Prop := 0 < m ∧ m.natAbs.log2 < 9000
instance (m : Int) : Decidable (okN m) := inferInstanceAs (Decidable (_ ∧ _))
def mTake : MT := fun ds g => match ds with
  | [.draw, .int m] => if okN m ∧ -1 ≤ g.at_ then .ok (.int ((fill g).cur % m)) ⟨(fill g).cells, (fill g).at_, (fill g).cur / m, (fill g).seed⟩ else .bad
  | _ => .bad
/-- the same, as the laws of a draw ask it -/
theorem mTake_ok {g : G} {m : Int} (h : okN m) (hg : -1 ≤ g.at_) : ∃ (n : Int) (g' : G), mTake [.draw, .int m] g = .ok (.int n) g' ∧ 0 ≤ n ∧ n < m ∧ -1 ≤ g'.at_ := by
  refine ⟨_, _, if_pos ⟨h, hg⟩, Int.emod_nonneg _ (by have := h.1; omega), Int.emod_lt_of_pos _ h.1, ?_⟩
  show -1 ≤ (fill g).at_
  unfold fill
  by_cases h1 : g.cur = 0
  · rw [if_pos h1]
    dsimp only
    generalize (if g.at_ + 1 < g.cells.length then (g.cells[(g.at_ + 1).toNat]?).getD 0 else 0) = c
    by_cases h2 : c = 0
    · rw [if_pos h2]; show -1 ≤ g.at_ + 1; omega
    · rw [if_neg h2]; show -1 ≤ g.at_ + 1; omega
  · rw [if_neg h1]; exact hg
section
variable {K : PySem.W.Frag} {mg : Str → Option Value}
theorem iteT' {c : Bool} {A B : Prop} (h : c = true) (a : A) : if c = true then A else B := by rw [if_pos h]; exact a
theorem iteF' {c : Bool} {A B : Prop} (h : c = false) (b : B) : if c = true then A else B := by rw [if_neg (by rw [h]; decide)]; exact b
abbrev dIx (K : PySem.W.Frag) (k : Int) : TE := tOp (rIx K) (tVar 0) (tC (.int k))
abbrev dPut (k : Int) : TG := gSub (tVar 0) (tC (.int k)) rSetL
abbrev rLn (K : PySem.W.Frag) : List V → Hp → VK → Prop := fun xs H Q => ∃ x n, xs = [x] ∧ LenV K x H n ∧ Q (.int n) H
abbrev rIn1 : List V → Hp → VK → Prop := fun xs H Q => (∃ i, xs = [.int i] ∧ Q (.int i) H) ∨ ∃ k, xs = [.bl k] ∧ Q (.int (if k then 1 else 0)) H
abbrev rMd : R2 := rI (fun _ j => 0 < j) fun i j => .int (i % j)
abbrev rPl : R2 := rI0 fun i j => .int (i + j)
abbrev rMl : R2 := rI CMul fun i j => .int (i * j)
def t1 (K : PySem.W.Frag) : TS := tAsg (tOp rPl (dIx K 1) (tC (.int 1))) (dPut 1)
def t2 (K : PySem.W.Frag) : TS := tIfS (tB (tLt (dIx K 1) (tCB (rLn K) (tCons (dIx K 0) tNil)))) (tAsg (tOp (rIx K) (dIx K 0) (dIx K 1)) (dPut 2)) tNext
def t3 (K : PySem.W.Frag) : TS := tIfS (tB (tEqI (dIx K 2) (tC (.int 0)))) (tSeq (tAsg (tOp rMd (tCB rIn1 (tCons (tOp rPl (tOp rMl (dIx K 3) (tC (.int 48271))) (tC (.int 11))) tNil)) (tC (.int 2147483647))) (dPut 3)) (tAsg (dIx K 3) (dPut 2))) tNext
def t4 (K : PySem.W.Frag) : TS := tIfS (tB (tEqI (dIx K 2) (tC (.int 0)))) (tSeq (t1 K) (tSeq (t2 K) (t3 K))) tNext
def takeT (K : PySem.W.Frag) : TS := tSeq (t4 K) (tSeq (tAsg (tOp rMd (tCB rIn1 (tCons (dIx K 2) tNil)) (tVar 1)) (gName 2)) (tSeq (tAsg (tOp (rI CDivW fun i j => .int (i / j)) (dIx K 2) (tVar 1)) (dPut 2)) (tRet (tVar 2))))

variable {ad : DA} {H : Hp} {σ : St} {g : G} {D : Ends}
def Dr (ad : DA) (σ : St) : Prop := σ[0]? = some (some (.ref ad.ad))
theorem dw_ix (hd : DrawOk ad H g) (hs : Dr ad σ) {k : Nat} {v : V} {Q : VK} (e : [V.ref ad.ac, .int g.at_, .int g.cur, .int g.seed][k]? = some v) (q : Q v H) : dIx K (k : Int) σ H Q :=
  ⟨_, hs, .inl ⟨ad.ad, _, _, v, rfl, rfl, .inl (.inl hd.1), atI_nat e, q⟩⟩
theorem dw_put (hd : DrawOk ad H g) (hs : Dr ad σ) {k : Nat} {v : V} {Q : St → Hp → Prop} (hk : k < 4) (q : Q σ (upd H ad.ad (.lst ([V.ref ad.ac, .int g.at_, .int g.cur, .int g.seed].set k v)))) : dPut (k : Int) v σ H Q :=
  ⟨_, hs, ad.ad, _, (k : Int), k, rfl, rfl, hd.1, by unfold ixN; rw [if_pos (by omega), if_pos (by simp only [List.length_cons, List.length_nil]; omega)]; simp, q⟩
theorem dk_put {vs : List V} {g' : G} (hd : DrawOk ad H g) (ec : g'.cells = g.cells) (e : vs = [V.ref ad.ac, .int g'.at_, .int g'.cur, .int g'.seed]) : DrawOk ad (upd H ad.ad (.lst vs)) g' ∧ Keep ad H (upd H ad.ad (.lst vs)) := by
  obtain ⟨h1, oc, h2⟩ := hd
  subst e
  refine ⟨⟨upd_same, oc, ?_⟩, fun a o e n => by rw [upd_ne n]; exact e⟩
  rw [upd_ne (ne_of h2 h1 (by intro z; cases z)), ec]
  exact h2
theorem t1_run (hd : DrawOk ad H g) (hs : Dr ad σ) (q : ∀ H', Keep ad H H' → DrawOk ad H' ⟨g.cells, g.at_ + 1, g.cur, g.seed⟩ → D.nx σ H') : t1 K D σ H :=
  dw_ix (k := 1) hd hs rfl ⟨_, _, rfl, rfl, dw_put (k := 1) hd hs (by omega) (by
    obtain ⟨d', k'⟩ := dk_put (g' := ⟨g.cells, g.at_ + 1, g.cur, g.seed⟩) hd rfl rfl
    exact q _ k' d')⟩
theorem t2_run (hd : DrawOk ad H g) (hs : Dr ad σ) (h0 : 0 ≤ g.at_) (hz : g.cur = 0) (q : ∀ H', Keep ad H H' → DrawOk ad H' ⟨g.cells, g.at_, if g.at_ < g.cells.length then (g.cells[g.at_.toNat]?).getD 0 else 0, g.seed⟩ → D.nx σ H') : t2 K D σ H := by
  obtain ⟨o, hc⟩ := hd.2
  have hl : ((g.cells.map V.int).length : Int) = g.cells.length := by rw [List.length_map]
  refine dw_ix (k := 1) hd hs rfl (dw_ix (k := 0) hd hs rfl ⟨_, _, rfl, .inl ⟨_, .inl (.inr ⟨o, hc⟩), rfl⟩, _, _, rfl, rfl, _, rfl, ?_⟩)
  by_cases h : g.at_ < g.cells.length
  · rw [if_pos h] at q
    refine iteT' (decide_eq_true (by rw [hl]; exact h)) ?_
    obtain ⟨n, hn⟩ : ∃ n : Nat, g.at_ = n := ⟨g.at_.toNat, by omega⟩
    have hlt : n < g.cells.length := by omega
    refine dw_ix (k := 0) hd hs rfl (dw_ix (k := 1) hd hs rfl (.inl ⟨ad.ac, _, g.at_, V.int (g.cells[n]), rfl, rfl, .inl (.inr ⟨o, hc⟩), ?_, ?_⟩))
    · rw [hn]; exact atI_nat (by rw [List.getElem?_map, List.getElem?_eq_getElem hlt]; rfl)
    · refine dw_put (k := 2) hd hs (by omega) ?_
      have e : (g.cells[g.at_.toNat]?).getD 0 = g.cells[n] := by rw [hn, Int.toNat_natCast, List.getElem?_eq_getElem hlt]; rfl
      obtain ⟨d', k'⟩ := dk_put (g' := ⟨g.cells, g.at_, g.cells[n], g.seed⟩) hd rfl rfl
      rw [e] at q
      exact q _ k' d'
  · rw [if_neg h, ← hz] at q
    refine iteF' (decide_eq_false (by rw [hl]; exact h)) (q H (.refl _ _) hd)
theorem mul_small {i j : Int} (h : j.natAbs < 2 ^ 16) : CMul i j := by
  unfold CMul
  right
  have : j.natAbs < 2 ^ 64 := Nat.lt_of_lt_of_le h (by decide)
  omega
theorem t3_run (hd : DrawOk ad H g) (hs : Dr ad σ) (q : ∀ H', Keep ad H H' → DrawOk ad H' (if g.cur = 0 then ⟨g.cells, g.at_, (g.seed * 48271 + 11) % 2147483647, (g.seed * 48271 + 11) % 2147483647⟩ else g) → D.nx σ H') : t3 K D σ H := by
  refine dw_ix (k := 2) hd hs rfl ⟨_, _, rfl, rfl, _, rfl, ?_⟩
  by_cases h : g.cur = 0
  · rw [if_pos h] at q
    refine iteT' (decide_eq_true h) ?_
    refine dw_ix (k := 3) hd hs rfl ⟨_, _, rfl, rfl, mul_small (by decide), _, _, rfl, rfl, .inl ⟨_, rfl, _, _, rfl, rfl, (by decide : (0 : Int) < 2147483647), ?_⟩⟩
    refine dw_put (k := 3) hd hs (by omega) ?_
    obtain ⟨d1, k1⟩ := dk_put (g' := ⟨g.cells, g.at_, g.cur, (g.seed * 48271 + 11) % 2147483647⟩) hd rfl rfl
    refine dw_ix (k := 3) d1 hs rfl (dw_put (k := 2) d1 hs (by omega) ?_)
    obtain ⟨d2, k2⟩ := dk_put (g' := ⟨g.cells, g.at_, (g.seed * 48271 + 11) % 2147483647, (g.seed * 48271 + 11) % 2147483647⟩) d1 rfl rfl
    exact q _ (k1.trans k2) d2
  · rw [if_neg h] at q
    exact iteF' (decide_eq_false h) (q H (.refl _ _) hd)
theorem t4_run (hd : DrawOk ad H g) (hs : Dr ad σ) (h0 : -1 ≤ g.at_) (q : ∀ H', Keep ad H H' → DrawOk ad H' (fill g) → D.nx σ H') : t4 K D σ H := by
  refine dw_ix (k := 2) hd hs rfl ⟨_, _, rfl, rfl, _, rfl, ?_⟩
  unfold fill at q
  by_cases h : g.cur = 0
  · rw [if_pos h] at q
    refine iteT' (decide_eq_true h) ?_
    refine t1_run hd hs fun H1 k1 d1 => t2_run d1 hs (by simp only; omega) h fun H2 k2 d2 => t3_run d2 hs fun H3 k3 d3 => q H3 (k1.trans (k2.trans k3)) ?_
    exact d3
  · rw [if_neg h] at q
    exact iteF' (decide_eq_false h) (q H (.refl _ _) hd)
theorem take_run {vs : List V} {E : XK} (h : spD K mg 2 mTake vs H D.rt E) : takeT K D (start ["draw", "many", "found"] vs) H := by
  obtain ⟨hl, ad, ds, g, r, dk, po⟩ := h
  unfold mTake at po
  split at po
  · rename_i m
    obtain ⟨x, y, rfl, rx, ry⟩ := r.two
    cases rx; cases ry
    split at po
    · rename_i hm
      have s0 : Dr ad [some (.ref ad.ad), some (V.int m), none] := rfl
      refine t4_run dk s0 hm.2 fun H1 k1 d1 => ?_
      refine dw_ix (k := 2) d1 s0 rfl (.inl ⟨_, rfl, ?_⟩)
      refine ⟨.int m, rfl, _, _, rfl, rfl, hm.1.1, ?_⟩
      have s1 : Dr ad [some (.ref ad.ad), some (V.int m), some (.int ((fill g).cur % m))] := rfl
      refine dw_ix (k := 2) d1 s1 rfl ⟨.int m, rfl, _, _, rfl, rfl, hm.1, dw_put (k := 2) d1 s1 (by omega) ?_⟩
      obtain ⟨d2, k2⟩ := dk_put (g' := ⟨(fill g).cells, (fill g).at_, (fill g).cur / m, (fill g).seed⟩) d1 rfl rfl
      exact ⟨_, rfl, po _ _ (k1.trans k2) d2 (.int _)⟩
    · exact po.elim
  · exact po.elim
end

/-! the law's drawing list, made -/
section
variable {K : PySem.W.Frag} {mg : Str → Option Value}
abbrev rAb : List V → Hp → VK → Prop := fun xs H Q => ∃ i, xs = [.int i] ∧ Q (.int (if i < 0 then -i else i)) H
abbrev eAb : TE := tCB rAb (tCons (tCB rIn1 (tCons (tVar 2) tNil)) tNil)
def drawT (K : PySem.W.Frag) : TS := tSeq (tAsg (tC (.int 7)) (gName 1))
  (tSeq (tFor (iSeq K (tVar 0)) (gName 2) (tAsg (tOp rMd (tCB rIn1 (tCons (tOp rPl (tOp rPl (tOp rMl (tVar 1) (tC (.int 48271))) (tOp rMd eAb (tC (.int 65521)))) (tC (.int 1))) tNil)) (tC (.int 2147483647))) (gName 1)))
    (tRet (tLst (tCons (tLc (iSeq K (tVar 0)) (gName 2) tYes eAb [2]) (tCons (tUn (rU fun i => .int (-i)) (tC (.int 1))) (tCons (tC (.int 0)) (tCons (tVar 1) tNil)))))))
/-- a new list of four: the cells' sizes, -1, 0, a number -/
def spDraw (K : PySem.W.Frag) : Sp := fun vs H Q _ => ∃ (a : Addr) (ns : List Int), vs = [.ref a] ∧ SqL K H a (ns.map V.int) ∧ ns.length ≤ 1000 ∧
  ∀ (ac ar : Addr) (cs : List Int) (seed : Int) (H' : Hp), (∀ b o, H b = some o → H' b = some o) → H ac = none → H ar = none → ac ≠ ar → H' ac = some (.lst (cs.map V.int)) → H' ar = some (.lst [.ref ac, .int (-1), .int 0, .int seed]) → Q (.ref ar) H'
theorem sqL_up {H H' : Hp} {a : Addr} {xs : List V} (h : ∀ b o, H b = some o → H' b = some o) (s : SqL K H a xs) : SqL K H' a xs := by
  rcases s with (s | ⟨o, s⟩) | s
  · exact .inl (.inl (h _ _ s))
  · exact .inl (.inr ⟨o, h _ _ s⟩)
  · exact .inr s
theorem ab_run {i : Int} {σ : St} {H : Hp} {Q : VK} (e : σ[2]? = some (some (.int i))) (q : Q (.int (if i < 0 then -i else i)) H) : eAb σ H Q := ⟨_, e, .inl ⟨i, rfl, i, rfl, q⟩⟩
theorem draw_run {vs : List V} {H : Hp} {D : Ends} {E : XK} (h : spDraw K vs H D.rt E) : drawT K D (start ["script", "seed", "cell"] vs) H := by
  obtain ⟨a, ns, rfl, hs, hz, q⟩ := h
  have hl : (ns.map V.int).length = ns.length := List.length_map _
  refine ⟨.ref a, rfl, a, rfl, .inl ⟨_, hs, fun _ => ?_⟩⟩
  refine for_it (walk_list (K := K) (a := a) (xs := ns.map V.int)) (fun _ σ H' => H' = H ∧ ∃ (sd : Int) (y : Option V), σ = [some (.ref a), some (.int sd), y]) ⟨rfl, 7, none, rfl⟩ (fun i σ H' _ ⟨e, _⟩ => by rw [e]; exact hs) (fun i x σ H1 H2 hi ⟨e, sd, y, es⟩ ⟨eh, ex⟩ => ?_) (fun σ H' ⟨e, sd, y, es⟩ => ?_)
  · subst es eh
    have e := e.symm
    subst e
    obtain ⟨n, hn⟩ : ∃ n, x = V.int n := by
      rw [List.getElem?_map] at ex
      cases q2 : ns[i]? with
      | none => rw [q2] at ex; cases ex
      | some n => rw [q2] at ex; cases ex; exact ⟨n, rfl⟩
    subst hn
    refine ⟨_, rfl, _, _, rfl, rfl, mul_small (by decide), ab_run rfl ⟨_, _, rfl, rfl, (by decide : (0 : Int) < 65521), _, _, rfl, rfl, _, _, rfl, rfl, .inl ⟨_, rfl, _, _, rfl, rfl, (by decide : (0 : Int) < 2147483647), rfl, _, _, rfl⟩⟩⟩
  · subst es
    have e := e.symm
    subst e
    refine ⟨.ref a, rfl, a, rfl, .inl ⟨_, hs, fun _ => fun Dd hD => ?_⟩⟩
    refine lc_it (walk_list (K := K) (a := a) (xs := ns.map V.int)) (fun i H2 => (∀ b o, H b = some o → H2 b = some o) ∧ ∃ cs : List Int, cs.length ≤ i ∧ H2 Dd = some (.lst (cs.map V.int))) ⟨fun b o e => by rw [upd_ne (ne_of_none e hD)]; exact e, [], Nat.le_refl _, upd_same⟩ (fun i H2 _ ⟨k, _⟩ => sqL_up k hs) (fun i x H2 H3 hi ⟨k, cs, hc, e⟩ ⟨eh, ex⟩ => ?_) (fun H2 ⟨k, cs, hc, e⟩ => ?_)
    · subst eh
      obtain ⟨n, hn⟩ : ∃ n, x = V.int n := by
        rw [List.getElem?_map] at ex
        cases q2 : ns[i]? with
        | none => rw [q2] at ex; cases ex
        | some n => rw [q2] at ex; cases ex; exact ⟨n, rfl⟩
      subst hn
      refine ⟨rfl, ?_⟩
      unfold tYes
      dsimp only
      rw [if_pos rfl]
      refine ab_run rfl ⟨_, e, ?_, fun b o q2 => ?_, cs ++ [if n < 0 then -n else n], ?_, ?_⟩
      · rw [List.length_map]
        rw [hl] at hi
        exact small1000 (by omega)
      · rw [upd_ne (ne_of_none q2 hD)]; exact k b o q2
      · rw [List.length_append]; show cs.length + 1 ≤ i + 1; omega
      · rw [upd_same, List.map_append]; rfl
    · refine ⟨_, rfl, _, rfl, ?_⟩
      refine ⟨Nat.le_trans (by decide : 4 ≤ 1000) (by rw [sizeLine_eq]; decide), fun p hp => ?_⟩
      have nD : Dd ≠ p := fun z => by rw [z, hp] at e; cases e
      have hp0 : H p = none := by
        cases qq : H p with
        | none => rfl
        | some o => rw [k p o qq] at hp; cases hp
      exact q Dd p cs sd _ (fun b o q2 => by rw [upd_ne (ne_of_none (k b o q2) hp)]; exact k b o q2) hD hp0 nD (by rw [upd_ne nD]; exact e) upd_same
end
/-! ### draw = _law_draw(script) -/
section
variable {X : Cx} {W : WX} {k k' : Nat} {p p2 pos : Pos}
structure DrawFn (P : Program) (w : World) (K : PySem.W.Frag) (mg : Str → Option Value) (base : Heap) (k : Nat) : Prop where
  ex : ∃ (f : Addr) (fd : FuncData), FnOk P w K mg base (L2.CX P w) k f fd ["script"] (spDraw K) ∧ mg "_law_draw" = some (.ref f) ∧ PySem.W.keepIn K (.ref f) = true ∧ L2.Binds K fd ["script"] []
/-- .. as an expression: its list of cells laid by -/
def tDrawn (K : PySem.W.Frag) : TE := fun σ H Q => ∃ (a : Addr) (ns : List Int), σ[0]? = some (some (.ref a)) ∧ SqL K H a (ns.map V.int) ∧ ns.length ≤ 1000 ∧
  ∀ (ad : DA) (g : G) (H' : Hp), H ad.ad = none → Keep ad H H' → DrawOk ad H' g → -1 ≤ g.at_ → Q (.ref ad.ad) H'
theorem pe_drawn (F : DrawFn X.prog X.w X.K X.mg X.base k) (hr : Room k' X.A) (hk : k ≤ k') (hg : Gl X "_law_draw") (tk : Takes X W) (h0 : X.N[0]? = some ("script" : Str)) (hv : Vis X.env.scope "script")
    (he : starEach [.Name "script" p2] X.env = (false, eval (.Name "script" p2) X.env) :: starEach [] X.env := by rfl) (hpl : (backTo pos (starEach [] X.env)).any (·.1) = false := by rfl) : PE X (.Call (.Name "_law_draw" p) [.Name "script" p2] [] pos) (tDrawn X.K) := by
  obtain ⟨f, fd, Fn, hm, hkp, hb⟩ := F.ex
  have base := pe_callS (E := WE W) (p := p) (pos := pos) Fn (hr.mono hk) hg hm hkp hb (fun σ => passAt tk σ) (pa_cons (pe_var (pos := p2) h0 hv) pa_nil he) (by decide) he hpl
  refine ⟨fun pins s σ H Q I ⟨a, ns, e0, hs, hz, q⟩ => ?_⟩
  refine thn (base.run pins s σ H (fun v H1 => ∃ (ac ar : Addr) (cs : List Int) (sd : Int), v = .ref ar ∧ (∀ b o, H b = some o → H1 b = some o) ∧ H ac = none ∧ H ar = none ∧ ac ≠ ar ∧ H1 ac = some (.lst (cs.map V.int)) ∧ H1 ar = some (.lst [.ref ac, .int (-1), .int 0, .int sd])) I ⟨_, e0, a, ns, rfl, hs, hz, fun ac ar cs sd H' h1 h2 h3 h4 h5 h6 => ⟨ac, ar, cs, sd, rfl, h1, h2, h3, h4, h5, h6⟩⟩) fun u s1 ⟨v, H1, I1, r, ac, ar, cs, sd, ev, k1, nc, nr, ne, ec, er⟩ => ?_
  subst ev
  have ca : ∀ {b o}, H1 b = some o → b ≠ ac → fzSet (fun c => c = ac) s1.heap H1 b = some o := fun {b o} e n => by rw [fz_no (S := fun c => c = ac) n]; exact e
  obtain ⟨ob, eo⟩ : ∃ ob, s1.heap.get? ac = some ob := objOk_get (I1.hok ac _ ec)
  refine ⟨.ref ar, fzSet (fun c => c = ac) s1.heap H1, freeze I1 _, r, q ⟨ar, ac⟩ ⟨cs, -1, 0, sd⟩ _ nr (fun b o e n => ?_) ⟨ca er (Ne.symm ne), ob, fz_yes rfl ec eo⟩ (Int.le_refl _)⟩
  exact ca (k1 b o e) fun z => by rw [z, nc] at e; cases e
end
/-- a law's body behind its draws -/
def lawT (K : PySem.W.Frag) (mg : Str → Option Value) (H0 : Hp) (W : WX) (N : Nat) (b : SB) : TS := tSeq (tAsg (tDrawn K) (gName 1)) (rdS K mg H0 W b)
/-- script of at most 63; what is wanted is True -/
def spLaw (K : PySem.W.Frag) : Sp := fun vs H Q _ => ∃ (a : Addr) (ns : List Int), vs = [.ref a] ∧ SqL K H a (ns.map V.int) ∧ ns.length ≤ 63 ∧ ∀ H', Q (.bl true) H'
theorem law_run {K : PySem.W.Frag} {mg : Str → Option Value} {W : WX} {N : List Str} {b : SB} {vs : List V} {H : Hp} {E : XK} {rt : VK} (hN : 2 ≤ N.length)
    (hb : ∀ g : G, -1 ≤ g.at_ → ∃ g', b ((List.replicate N.length none).set 1 (some (.val .draw))) g = .ret (.bl true) g') (h : spLaw K vs H rt E) : lawT K mg H W N.length b { nx := fun _ H' => rt .non H', rt := rt } (start N vs) H := by
  obtain ⟨a, ns, rfl, hs, hz, q⟩ := h
  refine ⟨a, ns, by simp [L2.start], hs, by omega, fun ad g H' n k dk hg => ?_⟩
  obtain ⟨g', e⟩ := hb g hg
  have hlen : (start N [V.ref a]).length = N.length := by simp only [L2.start, List.length_append, List.length_map, List.length_replicate, List.length_cons, List.length_nil]; omega
  have hl : 1 < (start N [V.ref a]).length := by omega
  refine ⟨ad, (List.replicate N.length none).set 1 (some (.val .draw)), g, ⟨?_, dk, ?_⟩⟩
  · have get : ∀ {i : Nat} {x}, ((List.replicate N.length (none : Option SV)).set 1 (some (.val .draw)))[i]? = some (some x) → i = 1 ∧ x = .val .draw := fun {i x} e => by
      by_cases hi : 1 = i
      · subst hi
        rw [List.getElem?_set_self (by simp; omega)] at e
        cases e
        exact ⟨rfl, rfl⟩
      · rw [List.getElem?_set_ne hi, List.getElem?_replicate] at e
        split at e <;> cases e
    refine ⟨k, fun i d e => ?_, fun i ds e => ?_, fun i j ds es a e => ?_, by rw [List.length_set, List.length_set, List.length_replicate, hlen]⟩
    · obtain ⟨rfl, e'⟩ := get e
      cases e'
      exact ⟨_, List.getElem?_set_self hl, .draw⟩
    · obtain ⟨_, e'⟩ := get e
      cases e'
    · obtain ⟨_, e'⟩ := get e
      cases e'
  · rw [e]
    intro v H2 _ _ _ r
    cases r
    exact q H2

/-! what the top has written, as facts; defs by them -/
/-- a def of the program: its object, its names -/
structure FnF (K : PySem.W.Frag) (mg : Str → Option Value) (x : Str) (st : Stmt) (ps : List Str) : Prop where
  ex : ∃ (f : Addr) (fd : FuncData), Fun K x x st f fd ∧ mg x = some (.ref f) ∧ L2.Binds K fd ps []
theorem fnF {K : PySem.W.Frag} {mg : Str → Option Value} {h : Heap} {x : Str} {st : Stmt} {ps : List Str} {f : Addr} {oc : Value} {od an : Option Addr} {osl : Array (Option Value)} {kV doc pm cdv ct : Value} (I : K.In h) (G : h.Ns mainGlobals mg) (a : PySem.W.nsIn K mainGlobals x = some (some (.ref f)))
    (l : K.lookup f = some ⟨oc, od, .func (PySem.W.fnOf x x (defArgs st) (defBody st) (defScope st) .none kV doc pm an cdv ct), osl⟩) (c : PySem.W.codeIn K cdv x = true) (k : PySem.W.keepIn K (.ref f) = true)
    (hb : ∀ (kV doc pm : Value) (an : Option Addr) (cdv ct : Value) (us : List Value), us.length = ps.length → bindArgs (PySem.W.fnOf x x (defArgs st) (defBody st) (defScope st) .none kV doc pm an cdv ct) ⟨us, []⟩ = pure (ps.zip us)) : FnF K mg x st ps :=
  ⟨f, _, fun_mk l c k, PySem.W.mg_of I G a, (fun_mk l c k).binds hb⟩
/-- a module's constant -/
structure GlF (K : PySem.W.Frag) (mg : Str → Option Value) (x : Str) (d : D) : Prop where
  ex : ∃ (v : V) (u : Value), mg x = some u ∧ L2.RelV v u ∧ ∀ ad H, Rep K mg ad H v d
/-- as the written part holds it -/
inductive RepK (K : PySem.W.Frag) : Value → D → Prop
  | non : RepK K .none .non
  | bl (b : Bool) : RepK K (.bool b) (.bl b)
  | int (i : Int) (t : Tok) : RepK K (.int i t) (.int i)
  | str (x : Str) (t : Tok) : RepK K (.str x t) (.str x)
  | tup {a : Addr} {dd : Option Addr} {its : Array Value} {n : Nat} {sl : Array (Option Value)} {ds : List D} : K.lookup a = some ⟨.type "tuple", dd, .seq its n, sl⟩ → its.size ≤ sizeLine → (hl : its.size = ds.length) → (∀ i (h : i < its.size) (h' : i < ds.length), RepK K its[i] ds[i]) → RepK K (.ref a) (.tup ds)
theorem repK_rel {K : PySem.W.Frag} {mg : Str → Option Value} {u : Value} {d : D} (r : RepK K u d) : ∃ v, L2.RelV v u ∧ ∀ ad H, Rep K mg ad H v d := by
  induction r with
  | non => exact ⟨.non, rfl, fun _ _ => .non⟩
  | bl b => exact ⟨.bl b, rfl, fun _ _ => .bl b⟩
  | int i t => exact ⟨.int i, ⟨t, rfl⟩, fun _ _ => .int i⟩
  | str x t => exact ⟨.str x, ⟨t, rfl⟩, fun _ _ => .str x⟩
  | @tup a dd its n sl ds h hz hl hr ih =>
    have all : ∀ (us : List Value) (es : List D), us.length = es.length → (∀ i (h : i < us.length) (h' : i < es.length), ∃ v, L2.RelV v us[i] ∧ ∀ ad H, Rep K mg ad H v es[i]) → ∃ vs, Vals vs us ∧ ∀ ad H, RepAll K mg ad H vs es := by
      intro us
      induction us with
      | nil => intro es hl _; cases es with
        | nil => exact ⟨[], .nil, fun _ _ => .nil⟩
        | cons _ _ => cases hl
      | cons u us ihu =>
        intro es hl hi
        cases es with
        | nil => cases hl
        | cons e es =>
          obtain ⟨v, h1, h2⟩ := hi 0 (by simp) (by simp)
          obtain ⟨vs, h3, h4⟩ := ihu es (by simpa using hl) fun i h h' => hi (i + 1) (by simpa using h) (by simpa using h')
          exact ⟨v :: vs, .cons h1 h3, fun ad H => .cons (h2 ad H) (h4 ad H)⟩
    obtain ⟨vs, h1, h2⟩ := all its.toList ds (by simpa using hl) fun i h h' => by simpa using ih i (by simpa using h) h'
    exact ⟨.ref a, rfl, fun ad H => .tup (.inr ⟨_, its, n, h, rfl, rfl, hz, h1⟩) (h2 ad H)⟩
/-- item by item -/
inductive RepKs (K : PySem.W.Frag) : List Value → List D → Prop
  | nil : RepKs K [] []
  | cons {u : Value} {us : List Value} {d : D} {ds : List D} : RepK K u d → RepKs K us ds → RepKs K (u :: us) (d :: ds)
theorem RepKs.len {K : PySem.W.Frag} : ∀ {us : List Value} {ds : List D}, RepKs K us ds → us.length = ds.length
  | _, _, .nil => rfl
  | _, _, .cons _ r => by rw [List.length_cons, List.length_cons, RepKs.len r]
theorem RepKs.get {K : PySem.W.Frag} : ∀ {us : List Value} {ds : List D}, RepKs K us ds → ∀ i (h : i < us.length) (h' : i < ds.length), RepK K us[i] ds[i]
  | _, _, .cons a _, 0, _, _ => a
  | _, _, .cons _ r, i + 1, h, h' => RepKs.get r i (by simpa using h) (by simpa using h')
theorem repK_tup {K : PySem.W.Frag} {a : Addr} {dd : Option Addr} {us : List Value} {n : Nat} {sl : Array (Option Value)} {ds : List D} (h : K.lookup a = some ⟨.type "tuple", dd, .seq us.toArray n, sl⟩) (hz : ds.length ≤ 1000) (r : RepKs K us ds) : RepK K (.ref a) (.tup ds) :=
  .tup h (Nat.le_of_lt (small1000 (by simpa [r.len] using hz))) (by simpa using r.len) fun i h h' => by simpa using r.get i (by simpa using h) h'
theorem glF {K : PySem.W.Frag} {mg : Str → Option Value} {h : Heap} {x : Str} {u : Value} {d : D} (I : K.In h) (G : h.Ns mainGlobals mg) (a : PySem.W.nsIn K mainGlobals x = some (some u)) (r : RepK K u d) : GlF K mg x d := by
  obtain ⟨v, h1, h2⟩ := repK_rel (mg := mg) r
  exact ⟨v, u, PySem.W.mg_of I G a, h1, h2⟩
/-- an exception's class of one's own -/
structure ExF (K : PySem.W.Frag) (mg : Str → Option Value) (x : Str) : Prop where
  ex : ∃ C, ExC K mg x C
/-- which of them an except clause takes -/
structure SubF (K : PySem.W.Frag) (mg : Str → Option Value) (x : Str) (sub : Str → Option Bool) : Prop where
  ex : ∃ C, mg x = some (.ref C) ∧ ∀ y v, sub y = some v → ∀ A, mg y = some (.ref A) → PySem.W.exmOne K (.ref A) (.ref C) = some v
theorem exm_mk {K : PySem.W.Frag} {S T : Addr} {b : Bool} (e1 : PySem.W.subIn K (.ref T) (.type "BaseException") = some true) (e2 : PySem.W.isClsIn K T = true) (e3 : PySem.W.typeIn K (.ref T) = some (.type "type")) (e4 : PySem.W.subIn K (.ref S) (.ref T) = some b) : PySem.W.exmOne K (.ref S) (.ref T) = some b := by
  have c1 : (PySem.W.subIn K (.ref T) (.type "BaseException") == some true) = true := by rw [e1]; rfl
  have c2 : (PySem.W.clsIn K T).isSome = true := e2
  show (if (PySem.W.subIn K (.ref T) (.type "BaseException") == some true) = true then (if ((PySem.W.clsIn K T).isSome && PySem.W.typeIn K (.ref T) == some (Value.type "type")) = true then PySem.W.subIn K (.ref S) (.ref T) else none) else none) = some b
  rw [if_pos c1, if_pos (by rw [c2, e3]; rfl), e4]
abbrev eF (t : XT) : ET := fun S g => (t S g).map Fv.d
abbrev xV (t : ET) : XT := fun S g => (t S g).map Fv.v
abbrev eCall0 (m : MT) : ET := fun _ g => match m [] g with | .ok d g' => .ok d g' | _ => .bad
abbrev eCalls (n : Nat) (m : MT) (ts : DSt → G → R (List D)) : ET := eCall (fun ds g => if ds.length = n then m ds g else .bad) ts
section
variable {X : Cx} {W : WX} {B : List Nat} {pos : Pos}
theorem de_globF {x : Str} {d : D} (F : GlF X.K X.mg x d) (hg : Gl X x := by rfl) (hd : (x == ("__debug__" : Str)) = false := by decide) : PE X (.Name x pos) (eE X.K X.mg W [] (eC d)) := by
  obtain ⟨v, u, hm, r, rp⟩ := F.ex
  exact de_glob hg hm r rp hd
theorem ds_raiseF {x m : Str} {j : Nat} {p p2 pos2 : Pos} (hc : X.calm = true) (tk : Takes X W) (F : ExF X.K X.mg x) (hg : Gl X x := by rfl) (hdb : (x == ("__debug__" : Str)) = false := by decide) : SD X W (.Raise (some (.Call (.Name x p) [.Constant (.str m) j p2] [] pos)) none pos2) (sRaise x) := by
  obtain ⟨C, T⟩ := F.ex
  exact ds_raise hc tk T hg hdb
theorem ds_tryF {x : Str} {sub : Str → Option Bool} {body suite : List Stmt} {b₀ : Stmt} {np pos' : Pos} {b bs : SB} (hs : X.stack = X.env :: X.outer) (hf : X.env.frame = some X.env.locals) (F : SubF X.K X.mg x sub) (tk : Takes X W)
    (hb : ∀ (W' : WX) (pn : List (Addr × Obj)) (xe : Value → Shared → Prop), Takes (X.tr pn xe) W' → PassesOwn (model X.prog X.w) X.A X.env xe → SDs (X.tr pn xe) W' body b)
    (hsu : ∀ (a : Addr) (oe : Obj) (pn : List (Addr × Obj)), SDs (X.suite a ((a, oe) :: pn)) W0 (b₀ :: suite) bs) (hg : Gl X x := by rfl) (hdb : (x == ("__debug__" : Str)) = false := by decide) :
    SD X W (.Try body [.ExceptHandler (some (.Name x np)) none (b₀ :: suite) pos'] [] [] pos) (sTry sub b bs) := by
  obtain ⟨C, hm, hsub⟩ := F.ex
  exact ds_try hs hf ⟨hg, hdb, .inl hm⟩ tk hsub hb hsu
end
section
variable {P : Program} {w : World} {K : PySem.W.Frag} {mg : Str → Option Value} {base : Heap}
theorem okF {x : Str} {st : Stmt} {N ps : List Str} {k : Nat} {b : SB} (F : FnF K mg x st ps) (S : FnScope N ps (defScope st))
    (body : ∀ (f : Addr) (cdv : Value) (A : Around) (outer : List Env) (s : Shared) (H : Hp) (E : XK), Room k (A.deeper (envOfC x (defScope st) s.heap.objs.size f cdv)) →
      SDs (cxOf (L2.CX P w) P w K mg base N x (defScope st) f cdv A outer s H E) (fun cls d _ H => E cls d H) (defBody st) b) : DefOk P w K mg base x ps.length (runD N.length ps.length b) (k + 1) := by
  obtain ⟨f, fd, Fn, hm, hb⟩ := F.ex
  exact okD Fn S hm hb (body f)
theorem okTake {st : Stmt} (F : FnF K mg "_law_take" st ["draw", "many"]) (S : FnScope ["draw", "many", "found"] ["draw", "many"] (defScope st))
    (body : ∀ (f : Addr) (cdv : Value) (A : Around) (outer : List Env) (s : Shared) (H : Hp) (E : XK), PSs (cxOf (L2.CX P w) P w K mg base ["draw", "many", "found"] "_law_take" (defScope st) f cdv A outer s H E) (defBody st) (takeT K)) : DefOk P w K mg base "_law_take" 2 mTake 1 := by
  obtain ⟨f, fd, Fn, hm, hb⟩ := F.ex
  exact ⟨f, fd, _, rfl, Fn.okX S (fun vs H Q E h => h.1) (fun cdv A outer s H vs Q E hr h => ⟨_, body f cdv A outer s H E, take_run h⟩), hm, Fn.kp, hb⟩
theorem okDraw {st : Stmt} (F : FnF K mg "_law_draw" st ["script"]) (S : FnScope ["script", "seed", "cell"] ["script"] (defScope st))
    (body : ∀ (f : Addr) (cdv : Value) (A : Around) (outer : List Env) (s : Shared) (H : Hp) (E : XK), PSs (cxOf (L2.CX P w) P w K mg base ["script", "seed", "cell"] "_law_draw" (defScope st) f cdv A outer s H E) (defBody st) (drawT K)) : DrawFn P w K mg base 1 := by
  obtain ⟨f, fd, Fn, hm, hb⟩ := F.ex
  exact ⟨f, fd, Fn.okX S (fun vs H Q E h => by obtain ⟨a, ns, rfl, _⟩ := h; rfl) (fun cdv A outer s H vs Q E hr h => ⟨_, body f cdv A outer s H E, draw_run h⟩), hm, Fn.kp, hb⟩
theorem okLaw {st : Stmt} {N : List Str} {k : Nat} {b : SB} {f : Addr} {fd : FuncData} (Fn : Fun K "law" "law" st f fd) (S : FnScope N ["script"] (defScope st)) (hN : 2 ≤ N.length)
    (hb : ∀ g : G, -1 ≤ g.at_ → ∃ g', b ((List.replicate N.length none).set 1 (some (.val .draw))) g = .ret (.bl true) g')
    (body : ∀ (cdv : Value) (A : Around) (outer : List Env) (s : Shared) (H : Hp) (E : XK), Room k (A.deeper (envOfC "law" (defScope st) s.heap.objs.size f cdv)) → PSs (cxOf (L2.CX P w) P w K mg base N "law" (defScope st) f cdv A outer s H E) (defBody st) (lawT K mg H (fun cls d _ H => E cls d H) N.length b)) :
    FnOk P w K mg base (L2.CX P w) (k + 1) f fd ["script"] (spLaw K) :=
  Fn.okX S (fun vs H Q E h => by obtain ⟨a, ns, rfl, _⟩ := h; rfl) (fun cdv A outer s H vs Q E hr h => ⟨_, body cdv A outer s H E hr, law_run hN hb h⟩)
end
theorem hu64 {k : Nat} {A : Around} (hr : Room k A) : A.units + 70 < cLine := by have := hr.un; omega
theorem hu_64 {k : Nat} {A : Around} (hr : Room k A) : A.units + 64 < cLine := by have := hr.un; omega
theorem hu_65 {k : Nat} {A : Around} (hr : Room k A) : A.units + 65 < cLine := by have := hr.un; omega

/-! code that draws nothing; pure comprehensions -/
def UnR {α : Type} (r : G → R α) : Prop := (∃ a, ∀ g, r g = .ok a g) ∨ (∃ x, ∀ g, r g = .er x g) ∨ ∀ g, r g = .bad
abbrev UnT {α : Type} (t : DSt → G → R α) : Prop := ∀ S, UnR (t S)
abbrev UnM (m : MT) : Prop := ∀ ds, UnR (m ds)
def UnRS (r : G → RS) : Prop := (∃ S, ∀ g, r g = .nx S g) ∨ (∃ d, ∀ g, r g = .ret d g) ∨ (∃ S, ∀ g, r g = .bk S g) ∨ (∃ S, ∀ g, r g = .ct S g) ∨ (∃ x S, ∀ g, r g = .er x S g) ∨ ∀ g, r g = .bad
abbrev UnS (b : SB) : Prop := ∀ S, UnRS (b S)
section
variable {α β : Type}
theorem UnR.ok (a : α) : UnR fun g => .ok a g := .inl ⟨a, fun _ => rfl⟩
theorem UnR.bad : UnR fun _ => (.bad : R α) := .inr (.inr fun _ => rfl)
theorem UnR.bind {r : G → R α} {k : α → G → R β} (h : UnR r) (hk : ∀ a, UnR (k a)) : UnR fun g => (r g).bind k := by
  rcases h with ⟨a, h⟩ | ⟨x, h⟩ | h
  · have e : (fun g => (r g).bind k) = k a := funext fun g => by rw [h]; rfl
    rw [e]; exact hk a
  · exact .inr (.inl ⟨x, fun g => by dsimp only; rw [h]; rfl⟩)
  · exact .inr (.inr fun g => by dsimp only; rw [h]; rfl)
theorem UnR.map {r : G → R α} {f : α → β} (h : UnR r) : UnR fun g => (r g).map f := by
  rcases h with ⟨a, h⟩ | ⟨x, h⟩ | h
  · exact .inl ⟨f a, fun g => by dsimp only; rw [h]; rfl⟩
  · exact .inr (.inl ⟨x, fun g => by dsimp only; rw [h]; rfl⟩)
  · exact .inr (.inr fun g => by dsimp only; rw [h]; rfl)
theorem UnR.lift (o : Option α) : UnR (lift o) := by
  cases o with
  | none => exact .inr (.inr fun _ => rfl)
  | some a => exact .inl ⟨a, fun _ => rfl⟩
theorem UnR.ite {c : Prop} [Decidable c] {r s : G → R α} (h1 : UnR r) (h2 : UnR s) : UnR fun g => if c then r g else s g := by
  by_cases h : c
  · simpa only [if_pos h] using h1
  · simpa only [if_neg h] using h2
end
section
variable {α : Type} {t u v : ET} {x y : XT} {s r : BT} {ts : DSt → G → R (List D)} {us : DSt → G → R (List Fv)} {m : MT}
theorem un_var (i : Nat) : UnT (eVar i) := fun S => by
  unfold eVar
  cases S[i]? with
  | none => exact .bad
  | some z => cases z with
    | none => exact .bad
    | some d => exact .ok d
theorem un_c (d : D) : UnT (eC d) := fun _ => .ok d
theorem un_nil : UnT aNil := fun _ => .ok _
theorem un_cons (h1 : UnT t) (h2 : UnT ts) : UnT (aCons t ts) := fun S => (h1 S).bind fun a => (h2 S).bind fun b => .ok _
theorem un_xnil : UnT axNil := fun _ => .ok _
theorem un_xcons (h1 : UnT x) (h2 : UnT us) : UnT (axCons x us) := fun S => (h1 S).bind fun a => (h2 S).bind fun b => .ok _
theorem un_bin {f : D → D → Option α} (h1 : UnT t) (h2 : UnT u) : UnT (dBin f t u) := fun S => (h1 S).bind fun a => (h2 S).bind fun b => .lift _
theorem un_un {f : D → Option α} (h1 : UnT t) : UnT (dUn f t) := fun S => (h1 S).bind fun a => .lift _
theorem un_cb {f : List D → Option α} (h1 : UnT ts) : UnT (dCB f ts) := fun S => (h1 S).bind fun a => .lift _
theorem un_mt {T : String} {f : D → List D → Option α} (h1 : UnT t) (h2 : UnT ts) : UnT (dMt T f t ts) := fun S => (h1 S).bind fun a => UnR.ite ((h2 S).bind fun b => .lift _) .bad
theorem un_tup (h : UnT ts) : UnT (eTup ts) := fun S => (h S).bind fun a => UnR.ite (.ok _) .bad
theorem un_lst (h : UnT ts) : UnT (xLst ts) := fun S => (h S).bind fun a => UnR.ite (.ok _) .bad
theorem un_calls {n : Nat} (hm : UnM m) (h : UnT ts) : UnT (eCalls n m ts) := fun S => (h S).bind fun a => UnR.ite (hm a) .bad
theorem un_call0 (hm : UnM m) : UnT (eCall0 m) := fun S => by
  rcases hm [] with ⟨a, h⟩ | ⟨x, h⟩ | h
  · exact .inl ⟨a, fun g => by show (match m [] g with | .ok d g' => R.ok d g' | _ => .bad) = _; rw [h]⟩
  · exact .inr (.inr fun g => by show (match m [] g with | .ok d g' => R.ok d g' | _ => .bad) = _; rw [h])
  · exact .inr (.inr fun g => by show (match m [] g with | .ok d g' => R.ok d g' | _ => .bad) = _; rw [h])
theorem un_and (h1 : UnT t) (h2 : UnT u) : UnT (eAnd t u) := fun S => (h1 S).bind fun a => by
  cases truD a with
  | none => exact .bad
  | some b => cases b with
    | true => exact h2 S
    | false => exact .ok a
theorem un_or (h1 : UnT t) (h2 : UnT u) : UnT (eOr t u) := fun S => (h1 S).bind fun a => by
  cases truD a with
  | none => exact .bad
  | some b => cases b with
    | true => exact .ok a
    | false => exact h2 S
theorem un_not (h1 : UnT t) : UnT (eNot t) := fun S => (h1 S).bind fun a => .lift _
theorem un_if {p q : DSt → G → R α} (h1 : UnT s) (h2 : UnT p) (h3 : UnT q) : UnT (eIf s p q) := fun S => (h1 S).bind fun a => UnR.ite (h2 S) (h3 S)
theorem un_chain {f f' : D → D → Option D} (h1 : UnT t) (h2 : UnT u) (h3 : UnT v) : UnT (eChain f f' t u v) := fun S => (h1 S).bind fun a => (h2 S).bind fun b => by
  cases f a b with
  | none => exact .bad
  | some z => cases z with
    | bl k => cases k with
      | true => exact (h3 S).bind fun c => .lift _
      | false => exact .ok _
    | _ => exact .bad
theorem un_eF (h : UnT x) : UnT (eF x) := fun S => (h S).map
theorem un_xV (h : UnT t) : UnT (xV t) := fun S => (h S).map
theorem un_tof (h : UnT t) : UnT (tOf t) := fun S => (h S).bind fun a => by
  cases a with
  | bl b => exact .ok b
  | _ => exact .bad
theorem un_tru (h : UnT t) : UnT (tTru t) := fun S => (h S).bind fun a => .lift _
theorem un_tnot (h : UnT s) : UnT (tNotD s) := fun S => (h S).bind fun a => .ok _
theorem un_tand (h : UnT s) (h2 : UnT r) : UnT (tAndD s r) := fun S => (h S).bind fun a => UnR.ite (h2 S) (.ok _)
theorem un_tor (h : UnT s) (h2 : UnT r) : UnT (tOrD s r) := fun S => (h S).bind fun a => UnR.ite (.ok _) (h2 S)
theorem un_tt : UnT tTrue := fun S => .ok _
theorem un_ono : UnT oNo := fun S => .ok _
theorem un_oat (h : UnT t) : UnT (oAt t) := fun S => (h S).bind fun a => by
  cases a with
  | int b => exact .ok _
  | _ => exact .bad
theorem un_slice {p q : DSt → G → R (Option Int)} (h : UnT t) (h2 : UnT p) (h3 : UnT q) : UnT (xSlice t p q) := fun S => (h S).bind fun a => (h2 S).bind fun b => (h3 S).bind fun c => .lift _
theorem un_items (h : UnT t) : UnT (iItems t) := fun S => (h S).bind fun a => .lift _
theorem un_range1 (h : UnT ts) : UnT (iRange1 ts) := fun S => (h S).bind fun a => .lift _
theorem un_range2 (h : UnT ts) : UnT (iRange2 ts) := fun S => (h S).bind fun a => .lift _
theorem un_comp {own : List Nat} {tg : Tgt} (hi : UnT ts) (hc : UnT s) (he : UnT t) : UnT (xComp own tg ts s t) := fun S => (hi S).bind fun ds => by
  have go : ∀ ds, UnR (compL own tg s t S ds) := by
    intro ds
    induction ds with
    | nil => exact .ok _
    | cons d ds ih =>
      show UnR fun g => compL own tg s t S (d :: ds) g
      unfold compL
      cases setD tg d (wipeD S own) with
      | none => exact .bad
      | some S1 =>
        dsimp only
        rcases hc S1 with ⟨a, h⟩ | ⟨x, h⟩ | h
        · cases a with
          | false => simp only [h]; exact ih
          | true =>
            simp only [h]
            rcases he S1 with ⟨b, h2⟩ | ⟨x, h2⟩ | h2
            · simp only [h2]; exact ih.map
            · simp only [h2]; exact .bad
            · simp only [h2]; exact .bad
        · simp only [h]; exact .bad
        · simp only [h]; exact .bad
  exact (go ds).map
end
section
variable {b c : SB} {t : ET} {x : XT} {s : BT} {ts : DSt → G → R (List D)} {us : DSt → G → R (List Fv)} {B : List Nat} {i n : Nat}
theorem UnRS.nx (S : SS) : UnRS fun g => .nx S g := .inl ⟨S, fun _ => rfl⟩
theorem UnRS.ret (d : D) : UnRS fun g => .ret d g := .inr (.inl ⟨d, fun _ => rfl⟩)
theorem UnRS.bk (S : SS) : UnRS fun g => .bk S g := .inr (.inr (.inl ⟨S, fun _ => rfl⟩))
theorem UnRS.ct (S : SS) : UnRS fun g => .ct S g := .inr (.inr (.inr (.inl ⟨S, fun _ => rfl⟩)))
theorem UnRS.er (x : Exn) (S : SS) : UnRS fun g => .er x S g := .inr (.inr (.inr (.inr (.inl ⟨x, S, fun _ => rfl⟩))))
theorem UnRS.bad : UnRS fun _ => .bad := .inr (.inr (.inr (.inr (.inr fun _ => rfl))))
theorem us_skip : UnS sSkip := fun S => .nx S
theorem us_bk : UnS fun S g => .bk S g := fun S => .bk S
theorem us_ct : UnS fun S g => .ct S g := fun S => .ct S
theorem us_seq (h1 : UnS b) (h2 : UnS c) : UnS (sSeq b c) := fun S => by
  unfold sSeq
  rcases h1 S with ⟨S1, h⟩ | ⟨d, h⟩ | ⟨S1, h⟩ | ⟨S1, h⟩ | ⟨x, S1, h⟩ | h
  · simp only [h]; exact h2 S1
  · simp only [h]; exact .ret d
  · simp only [h]; exact .bk S1
  · simp only [h]; exact .ct S1
  · simp only [h]; exact .er x S1
  · simp only [h]; exact .bad
theorem us_set (h : UnT x) : UnS (sSet i B x) := fun S => by
  unfold sSet
  rcases h (view S) with ⟨a, h⟩ | ⟨x, h⟩ | h
  · simp only [h]; exact .nx _
  · simp only [h]; exact .er _ _
  · simp only [h]; exact .bad
theorem us_ret (h : UnT t) : UnS (sRet B t) := fun S => by
  unfold sRet
  rcases h (view S) with ⟨a, h⟩ | ⟨x, h⟩ | h
  · simp only [h]; exact .ret _
  · simp only [h]; exact .er _ _
  · simp only [h]; exact .bad
theorem us_retN : UnS sRetN := fun S => .ret _
theorem us_expr (h : UnT t) : UnS (sExpr B t) := fun S => by
  unfold sExpr
  rcases h (view S) with ⟨a, h⟩ | ⟨x, h⟩ | h
  · simp only [h]; exact .nx _
  · simp only [h]; exact .er _ _
  · simp only [h]; exact .bad
theorem us_if (h : UnT s) (h1 : UnS b) (h2 : UnS c) : UnS (sIf B s b c) := fun S => by
  unfold sIf
  rcases h (view S) with ⟨a, h⟩ | ⟨x, h⟩ | h
  · cases a with
    | true => simp only [h]; exact h1 S
    | false => simp only [h]; exact h2 S
  · simp only [h]; exact .er _ _
  · simp only [h]; exact .bad
theorem us_forL {tg : Tgt} (h : UnS b) : ∀ ds, UnS (forL tg b ds)
  | [] => fun S => .nx S
  | d :: ds => fun S => by
    show UnRS fun g => forL tg b (d :: ds) S g
    unfold forL
    cases setS tg d S with
    | none => exact .bad
    | some S1 =>
      dsimp only
      rcases h S1 with ⟨S1, h⟩ | ⟨d, h⟩ | ⟨S1, h⟩ | ⟨S1, h⟩ | ⟨x, S1, h⟩ | h'
      · simp only [h]; exact us_forL ‹_› ds S1
      · simp only [h]; exact .ret d
      · simp only [h]; exact .nx S1
      · simp only [h]; exact us_forL ‹_› ds S1
      · simp only [h]; exact .er x S1
      · simp only [h']; exact .bad
theorem us_for {al : Bool} {tg : Tgt} (hi : UnT ts) (h : UnS b) : UnS (sFor al tg B ts b) := fun S => by
  unfold sFor
  rcases hi (view S) with ⟨a, hh⟩ | ⟨x, hh⟩ | hh
  · simp only [hh]; exact us_forL h a _
  · simp only [hh]; exact .er _ _
  · simp only [hh]; exact .bad
theorem us_while (hs : UnT s) (h : UnS b) : ∀ n, UnS (whileL B s b n)
  | 0 => fun S => .bad
  | n + 1 => fun S => by
    show UnRS fun g => whileL B s b (n + 1) S g
    unfold whileL
    rcases hs (view S) with ⟨a, hh⟩ | ⟨x, hh⟩ | hh
    · cases a with
      | false => simp only [hh]; exact .nx S
      | true =>
        simp only [hh]
        rcases h S with ⟨S1, h'⟩ | ⟨d, h'⟩ | ⟨S1, h'⟩ | ⟨S1, h'⟩ | ⟨x, S1, h'⟩ | h'
        · simp only [h']; exact us_while hs h n S1
        · simp only [h']; exact .ret d
        · simp only [h']; exact .nx S1
        · simp only [h']; exact us_while hs h n S1
        · simp only [h']; exact .er x S1
        · simp only [h']; exact .bad
    · simp only [hh]; exact .er _ _
    · simp only [hh]; exact .bad
theorem us_mut {f : List D → D → Option (List D)} (h : UnT t) : UnS (sMut i B t f) := fun S => by
  unfold sMut
  by_cases ho : isOwn S[i]? = true
  · simp only [if_pos ho]
    rcases h (view S) with ⟨a, h⟩ | ⟨x, h⟩ | h
    · simp only [h]
      split
      · rename_i ds _
        cases f ds a with
        | none => exact .bad
        | some es => exact .nx _
      · exact .bad
    · simp only [h]; exact .er _ _
    · simp only [h]; exact .bad
  · simp only [if_neg ho]; exact .bad
theorem us_raise {z : Str} : UnS (sRaise z) := fun S => .er _ S
theorem us_try {sub : Str → Option Bool} (h1 : UnS b) (h2 : UnS c) : UnS (sTry sub b c) := fun S => by
  unfold sTry
  rcases h1 S with ⟨S1, h⟩ | ⟨d, h⟩ | ⟨S1, h⟩ | ⟨S1, h⟩ | ⟨x, S1, h⟩ | h
  · simp only [h]; exact .nx S1
  · simp only [h]; exact .ret d
  · simp only [h]; exact .bk S1
  · simp only [h]; exact .ct S1
  · simp only [h]
    cases sub x.cls with
    | none => exact .bad
    | some k =>
      cases k with
      | false => exact .er _ _
      | true =>
        dsimp only
        rcases h2 S1 with ⟨S2, h'⟩ | ⟨d, h'⟩ | ⟨S2, h'⟩ | ⟨S2, h'⟩ | ⟨y, S2, h'⟩ | h'
        · simp only [h']; exact .nx S2
        · simp only [h']; exact .ret d
        · simp only [h']; exact .bk S2
        · simp only [h']; exact .ct S2
        · simp only [h']; exact .bad
        · simp only [h']; exact .bad
  · simp only [h]; exact .bad
theorem us_setall {is : List Nat} (h : UnT us) : UnS (sSetAll is B us) := fun S => by
  unfold sSetAll
  rcases h (view S) with ⟨a, h⟩ | ⟨x, h⟩ | h
  · simp only [h]
    by_cases hl : a.length = is.length
    · simp only [if_pos hl]; exact .nx _
    · simp only [if_neg hl]; exact .bad
  · simp only [h]; exact .er _ _
  · simp only [h]; exact .bad
theorem us_unp {is : List Nat} (h : UnT t) : UnS (sUnp is B t) := fun S => by
  unfold sUnp
  rcases h (view S) with ⟨a, h⟩ | ⟨x, h⟩ | h
  · simp only [h]
    cases setS (.tp is) a (post (.v a) B S) with
    | none => exact .bad
    | some S' => exact .nx _
  · simp only [h]; exact .er _ _
  · simp only [h]; exact .bad
theorem um_run {N : Nat} (h : UnS b) : UnM (runD N n b) := fun ds => by
  show UnR fun g => runD N n b ds g
  unfold runD
  by_cases hl : ds.length = n
  · simp only [if_pos hl]
    rcases h (startD N ds) with ⟨S1, h⟩ | ⟨d, h⟩ | ⟨S1, h⟩ | ⟨S1, h⟩ | ⟨x, S1, h⟩ | h
    · simp only [h]; exact .ok _
    · simp only [h]; exact .ok d
    · simp only [h]; exact .bad
    · simp only [h]; exact .bad
    · simp only [h]; exact .inr (.inl ⟨x, fun _ => rfl⟩)
    · simp only [h]; exact .bad
  · simp only [if_neg hl]; exact .bad
/-- from one state to all -/
theorem UnR.at_ {α : Type} {r : G → R α} (u : UnR r) {g0 : G} {a : α} (h : r g0 = .ok a g0) (g : G) : r g = .ok a g := by
  rcases u with ⟨a', h'⟩ | ⟨x, h'⟩ | h'
  · rw [h'] at h; cases h; exact h' g
  · rw [h'] at h; cases h
  · rw [h'] at h; cases h
end
/-- a comprehension whose parts draw nothing -/
theorem compL_ok {own : List Nat} {tg : Tgt} {c : BT} {e : ET} {S : DSt} {g : G} (p : D → Bool) (f : D → D) : ∀ {ds : List D}, (∀ d ∈ ds, ∃ S1, setD tg d (wipeD S own) = some S1 ∧ c S1 g = .ok (p d) g ∧ (p d = true → e S1 g = .ok (f d) g)) → compL own tg c e S ds g = .ok ((ds.filter p).map f) g
  | [], _ => rfl
  | d :: ds, h => by
    obtain ⟨S1, h1, h2, h3⟩ := h d List.mem_cons_self
    have ih := compL_ok (tg := tg) (c := c) (e := e) (S := S) (own := own) (g := g) p f (ds := ds) fun d hd => h d (List.mem_cons_of_mem _ hd)
    unfold compL
    rw [h1]
    dsimp only
    rw [h2]
    cases hp : p d with
    | false =>
      dsimp only
      rw [List.filter_cons_of_neg (by rw [hp]; decide)]
      exact ih
    | true =>
      dsimp only
      rw [h3 hp, List.filter_cons_of_pos hp, List.map_cons]
      dsimp only
      rw [ih]
      rfl

/-! laws of data -/
mutual
def beqD : D → D → Bool
  | .non, .non => true
  | .bl a, .bl b => a == b
  | .int a, .int b => a == b
  | .str a, .str b => a == b
  | .tup a, .tup b => beqDs a b
  | .lst a, .lst b => beqDs a b
  | .draw, .draw => true
  | .fn a, .fn b => a == b
  | _, _ => false
def beqDs : List D → List D → Bool
  | [], [] => true
  | a :: as, b :: bs => beqD a b && beqDs as bs
  | _, _ => false
end
mutual
theorem beqD_eq : ∀ a b : D, beqD a b = true → a = b
  | .non, b, h => by cases b <;> simp [beqD] at h ⊢
  | .bl a, b, h => by cases b <;> simp [beqD] at h ⊢ <;> exact h
  | .int a, b, h => by cases b <;> simp [beqD] at h ⊢ <;> exact h
  | .str a, b, h => by cases b <;> simp [beqD] at h ⊢ <;> exact h
  | .draw, b, h => by cases b <;> simp [beqD] at h ⊢
  | .fn a, b, h => by cases b <;> simp [beqD] at h ⊢ <;> exact h
  | .tup a, b, h => by
    cases b <;> simp [beqD] at h ⊢
    exact beqDs_eq a _ h
  | .lst a, b, h => by
    cases b <;> simp [beqD] at h ⊢
    exact beqDs_eq a _ h
theorem beqDs_eq : ∀ a b : List D, beqDs a b = true → a = b
  | [], [], _ => rfl
  | [], _ :: _, h => by simp [beqDs] at h
  | _ :: _, [], h => by simp [beqDs] at h
  | a :: as, b :: bs, h => by
    simp only [beqDs, Bool.and_eq_true] at h
    rw [beqD_eq a b h.1, beqDs_eq as bs h.2]
end
def val {α : Type} : R α → Option α
  | .ok a _ => some a
  | _ => none
theorem UnR.all {α : Type} {r : G → R α} (u : UnR r) {g0 : G} {a : α} (h : val (r g0) = some a) (g : G) : r g = .ok a g := by
  rcases u with ⟨a', h'⟩ | ⟨x, h'⟩ | h'
  · rw [h'] at h; cases h; exact h' g
  · rw [h'] at h; cases h
  · rw [h'] at h; cases h
/-- the value is just this data -/
def isD (r : R D) (d : D) : Bool := match r with
  | .ok a _ => beqD a d
  | _ => false
theorem UnR.isD {r : G → R D} (u : UnR r) {g0 : G} {d : D} (h : isD (r g0) d = true) (g : G) : r g = .ok d g := by
  refine u.all (g0 := g0) ?_ g
  unfold DI.isD at h
  split at h
  · rename_i e
    rw [e, beqD_eq _ _ h]; rfl
  · cases h
/-- fit for comparing -/
def Sh (n : Nat) (d : D) : Prop := d.py.canLay0 = true ∧ d.py.depth ≤ n
theorem Sh.ok {n : Nat} {d : D} (h : Sh n d) (hn : n ≤ 64) : SeqAt.shaped d.py = true := by
  unfold SeqAt.shaped
  rw [Bool.and_eq_true]
  exact ⟨h.1, decide_eq_true (Nat.le_trans h.2 hn)⟩
theorem sh_all {n : Nat} : ∀ {ds : List D}, (∀ d ∈ ds, Sh n d) → PyData.canLayAll0 (pyAll ds) = true ∧ PyData.depthAll (pyAll ds) ≤ n
  | [], _ => ⟨rfl, Nat.zero_le _⟩
  | d :: ds, h => by
    have h1 := h d List.mem_cons_self
    have h2 := sh_all fun e he => h e (List.mem_cons_of_mem _ he)
    refine ⟨?_, ?_⟩
    · simp only [pyAll, PyData.canLayAll0, Bool.and_eq_true]; exact ⟨h1.1, h2.1⟩
    · simp only [pyAll, PyData.depthAll]; exact Nat.max_le.mpr ⟨h1.2, h2.2⟩
theorem sh_tup {n : Nat} {ds : List D} (h : ∀ d ∈ ds, Sh n d) : Sh (n + 1) (.tup ds) := by
  obtain ⟨h1, h2⟩ := sh_all h
  exact ⟨h1, Nat.succ_le_succ h2⟩
theorem sh_lst {n : Nat} {ds : List D} (h : ∀ d ∈ ds, Sh n d) : Sh (n + 1) (.lst ds) := by
  obtain ⟨h1, h2⟩ := sh_all h
  exact ⟨h1, Nat.succ_le_succ h2⟩
theorem Sh.mono {n m : Nat} {d : D} (h : Sh n d) (hn : n ≤ m) : Sh m d := ⟨h.1, Nat.le_trans h.2 hn⟩
instance (n : Nat) (d : D) : Decidable (Sh n d) := inferInstanceAs (Decidable (_ ∧ _))
theorem eqv_self {n : Nat} {d : D} (h : Sh n d) : PyData.eqv d.py d.py = true := PySem.SeqAt.eqv_refl _ h.1
theorem ne_self {n : Nat} {d : D} (h : Sh n d) (hn : n ≤ 64) : neD d d = some (.bl false) := by
  unfold neD
  rw [if_pos ⟨h.ok hn, h.ok hn⟩, eqv_self h]
  rfl

/-! loops by plain folds -/
theorem forL_foldM {α σ : Type} {tg : Tgt} {body : SB} (dat : α → D) (stp : σ → α → Option σ) (Rl : σ → SS → Prop) {g : G} (ok : α → Prop)
    (h : ∀ x a a' S, ok x → stp a x = some a' → Rl a S → ∃ S1 S2, setS tg (dat x) S = some S1 ∧ body S1 g = .nx S2 g ∧ Rl a' S2) :
    ∀ (xs : List α) (a a' : σ) (S : SS), (∀ x ∈ xs, ok x) → xs.foldlM stp a = some a' → Rl a S → ∃ S', forL tg body (xs.map dat) S g = .nx S' g ∧ Rl a' S'
  | [], a, a', S, _, e, r => by
    cases e
    exact ⟨S, rfl, r⟩
  | x :: xs, a, a', S, hx, e, r => by
    rw [List.foldlM_cons] at e
    cases e1 : stp a x with
    | none => rw [e1] at e; cases e
    | some a1 =>
      rw [e1] at e
      obtain ⟨S1, S2, h1, h2, h3⟩ := h x a a1 S (hx x List.mem_cons_self) e1 r
      obtain ⟨S', h4, h5⟩ := forL_foldM dat stp Rl ok h xs a1 a' S2 (fun y hy => hx y (List.mem_cons_of_mem _ hy)) e h3
      refine ⟨S', ?_, h5⟩
      rw [List.map_cons]
      unfold forL
      rw [h1]
      dsimp only
      rw [h2]
      exact h4
/-- a loop that gives back the first that fits -/
theorem forL_find {α : Type} {tg : Tgt} {body : SB} (dat : α → D) (p : α → Bool) (f : α → D) (Rl : SS → Prop) {g : G} (ok : α → Prop)
    (h : ∀ x S, ok x → Rl S → ∃ S1, setS tg (dat x) S = some S1 ∧ ((p x = true ∧ body S1 g = .ret (f x) g) ∨ (p x = false ∧ ∃ S2, body S1 g = .nx S2 g ∧ Rl S2))) :
    ∀ (xs : List α) (S : SS), (∀ x ∈ xs, ok x) → Rl S → (∃ x, xs.find? p = some x ∧ forL tg body (xs.map dat) S g = .ret (f x) g) ∨ (xs.find? p = none ∧ ∃ S', forL tg body (xs.map dat) S g = .nx S' g ∧ Rl S')
  | [], S, _, r => .inr ⟨rfl, S, rfl, r⟩
  | x :: xs, S, hx, r => by
    obtain ⟨S1, h1, h2⟩ := h x S (hx x List.mem_cons_self) r
    rw [List.map_cons]
    unfold forL
    rw [h1]
    dsimp only
    rcases h2 with ⟨hp, h2⟩ | ⟨hp, S2, h2, h3⟩
    · rw [h2, List.find?_cons_of_pos hp]
      exact .inl ⟨x, rfl, rfl⟩
    · rw [h2, List.find?_cons_of_neg (by rw [hp]; decide)]
      exact forL_find dat p f Rl ok h xs S2 (fun y hy => hx y (List.mem_cons_of_mem _ hy)) h3
theorem frzB_nil (S : SS) : frzB [] S = S := by
  have : ∀ (S : SS) (n : Nat), frzFrom [] n S = S := fun S => by
    induction S with
    | nil => intro n; rfl
    | cons x r ih => intro n; unfold frzFrom; rw [ih]; rfl
  exact this S 0
theorem bools_map {α : Type} (f : α → Bool) : ∀ xs : List α, bools (xs.map fun x => .bl (f x)) = some (xs.map f)
  | [] => rfl
  | x :: xs => by simp [bools, bools_map f xs]
/-- pure comprehension over mapped data -/
theorem compL_map {α : Type} {own : List Nat} {tg : Tgt} {c : BT} {e : ET} {S : DSt} {g : G} (dat : α → D) (p : α → Bool) (f : α → D) : ∀ {xs : List α}, (∀ x ∈ xs, ∃ S1, setD tg (dat x) (wipeD S own) = some S1 ∧ c S1 g = .ok (p x) g ∧ (p x = true → e S1 g = .ok (f x) g)) → compL own tg c e S (xs.map dat) g = .ok ((xs.filter p).map f) g
  | [], _ => rfl
  | d :: ds, h => by
    obtain ⟨S1, h1, h2, h3⟩ := h d List.mem_cons_self
    have ih := compL_map (tg := tg) (c := c) (e := e) (S := S) (own := own) (g := g) dat p f (xs := ds) fun d hd => h d (List.mem_cons_of_mem _ hd)
    rw [List.map_cons]
    unfold compL
    rw [h1]
    dsimp only
    rw [h2]
    cases hp : p d with
    | false =>
      dsimp only
      rw [List.filter_cons_of_neg (by rw [hp]; decide)]
      exact ih
    | true =>
      dsimp only
      rw [h3 hp, List.filter_cons_of_pos hp, List.map_cons]
      dsimp only
      rw [ih]
      rfl
/-- what a body's end is worth -/
def outR : RS → R D
  | .ret d g => .ok d g
  | .nx _ g => .ok .non g
  | .er x _ g => .er x g
  | _ => .bad
theorem runD_at {N n : Nat} {b : SB} {ds : List D} {g : G} (hl : ds.length = n) : runD N n b ds g = outR (b (startD N ds) g) := by
  unfold runD outR
  rw [if_pos hl]
  all_goals (cases b (startD N ds) g <;> rfl)
theorem sMut_ok {i : Nat} {B : List Nat} {t : ET} {f : List D → D → Option (List D)} {S : SS} {g g' : G} {d : D} {ds es : List D} (h2 : t (view S) g = .ok d g') (hn : d.nol = true) (h3 : S[i]? = some (some (.own ds))) (h4 : f ds d = some es) : sMut i B t f S g = .nx (S.set i (some (.own es))) g' := by
  have hp : post (.v d) B S = S := by unfold post; rw [if_pos (show Fv.nol (.v d) = true from hn)]
  unfold sMut
  rw [if_pos (by rw [h3]; rfl), h2]
  simp only [hp, h3, h4]
theorem appD_ok {ds : List D} {d : D} (h : ds.length < sizeLine) : appD ds d = some (ds ++ [d]) := by unfold appD; rw [if_pos h]
theorem sSet_nol {i : Nat} {B : List Nat} {t : XT} {S : SS} {g g' : G} {f : Fv} (h : t (view S) g = .ok f g') (hn : f.nol = true) : sSet i B t S g = .nx (S.set i (some f.sv)) g' := by
  have hp : post f B S = S := by unfold post; rw [if_pos hn]
  unfold sSet
  rw [h]
  simp only [hp]
theorem sSeq_nx {a b : SB} {S S1 : SS} {g g1 : G} (h : a S g = .nx S1 g1) : sSeq a b S g = b S1 g1 := by unfold sSeq; rw [h]
theorem sIf_t {B : List Nat} {c : BT} {a b : SB} {S : SS} {g g1 : G} (h : c (view S) g = .ok true g1) : sIf B c a b S g = a S g1 := by unfold sIf; rw [h]
theorem sIf_f {B : List Nat} {c : BT} {a b : SB} {S : SS} {g g1 : G} (h : c (view S) g = .ok false g1) : sIf B c a b S g = b S g1 := by unfold sIf; rw [h]
theorem fold_unit {α : Type} : ∀ xs : List α, xs.foldlM (fun (_ : Unit) (_ : α) => some ()) () = some ()
  | [] => rfl
  | x :: xs => by rw [List.foldlM_cons]; exact fold_unit xs
theorem forL_inv {tg : Tgt} {body : SB} (P : SS → G → Prop) : ∀ (ds : List D), (∀ d ∈ ds, ∀ S g, P S g → ∃ S1 S2 g2, setS tg d S = some S1 ∧ (body S1 g = .nx S2 g2 ∨ body S1 g = .ct S2 g2) ∧ P S2 g2) → ∀ S g, P S g → ∃ S' g', forL tg body ds S g = .nx S' g' ∧ P S' g'
  | [], _, S, g, r => ⟨S, g, rfl, r⟩
  | d :: ds, h, S, g, r => by
    obtain ⟨S1, S2, g2, h1, h2, h3⟩ := h d List.mem_cons_self S g r
    obtain ⟨S', g', h4, h5⟩ := forL_inv P ds (fun e he => h e (List.mem_cons_of_mem _ he)) S2 g2 h3
    refine ⟨S', g', ?_, h5⟩
    unfold forL
    rw [h1]
    dsimp only
    rcases h2 with h2 | h2 <;> rw [h2] <;> exact h4
/-! ### how things come out -/
section
variable {S : DSt} {g g1 g2 g3 : G} {t u v : ET} {x y : XT} {ts : DSt → G → R (List D)} {a b c d : D} {α : Type} {m : MT}
theorem bin_ok {f : D → D → Option α} {z : α} (h1 : t S g = .ok a g1) (h2 : u S g1 = .ok b g2) (h3 : f a b = some z) : dBin f t u S g = .ok z g2 := by
  unfold dBin; rw [h1, R.bind_ok, h2, R.bind_ok, h3]; rfl
theorem un_ok {f : D → Option α} {z : α} (h1 : t S g = .ok a g1) (h3 : f a = some z) : dUn f t S g = .ok z g1 := by
  unfold dUn; rw [h1, R.bind_ok, h3]; rfl
theorem cb_ok {f : List D → Option α} {z : α} {ds : List D} (h1 : ts S g = .ok ds g1) (h3 : f ds = some z) : dCB f ts S g = .ok z g1 := by
  unfold dCB; rw [h1, R.bind_ok, h3]; rfl
theorem args1 (h : t S g = .ok a g1) : aCons t aNil S g = .ok [a] g1 := by unfold aCons; rw [h]; rfl
theorem args_cons {ds : List D} (h : t S g = .ok a g1) (h2 : ts S g1 = .ok ds g2) : aCons t ts S g = .ok (a :: ds) g2 := by unfold aCons; rw [h, R.bind_ok, h2]; rfl
theorem args2 (h : t S g = .ok a g1) (h2 : u S g1 = .ok b g2) : aCons t (aCons u aNil) S g = .ok [a, b] g2 := args_cons h (args1 h2)
theorem args3 (h : t S g = .ok a g1) (h2 : u S g1 = .ok b g2) (h3 : v S g2 = .ok c g3) : aCons t (aCons u (aCons v aNil)) S g = .ok [a, b, c] g3 := args_cons h (args2 h2 h3)
theorem calls_ok {n : Nat} {ds : List D} {r : R D} (h : ts S g = .ok ds g1) (hl : ds.length = n) (h2 : m ds g1 = r) : eCalls n m ts S g = r := by
  show (ts S g).bind _ = _
  rw [h, R.bind_ok]
  dsimp only
  rw [if_pos hl, h2]
theorem call0_ok (h2 : m [] g = .ok d g1) : eCall0 m S g = .ok d g1 := by
  show (match m [] g with | .ok d g' => R.ok d g' | _ => .bad) = _
  rw [h2]
theorem comp_ok {own : List Nat} {tg : Tgt} {c : BT} {ds ys : List D} (h : ts S g = .ok ds g1) (h2 : compL own tg c t S ds g1 = .ok ys g2) : xComp own tg ts c t S g = .ok (.f ys) g2 := by
  unfold xComp; rw [h, R.bind_ok, h2]; rfl
theorem eF_ok {f : Fv} (h : x S g = .ok f g1) : eF x S g = .ok f.d g1 := by
  show (x S g).map _ = _
  rw [h]; rfl
theorem xV_ok (h : t S g = .ok d g1) : xV t S g = .ok (.v d) g1 := by
  show (t S g).map _ = _
  rw [h]; rfl
theorem tOf_ok {k : Bool} (h : t S g = .ok (.bl k) g1) : tOf t S g = .ok k g1 := by unfold tOf; rw [h]; rfl
theorem tTru_ok {k : Bool} (h : t S g = .ok d g1) (h2 : truD d = some k) : tTru t S g = .ok k g1 := by unfold tTru; rw [h, R.bind_ok, h2]; rfl
theorem tNot_ok {s : BT} {k : Bool} (h : s S g = .ok k g1) : tNotD s S g = .ok (!k) g1 := by unfold tNotD; rw [h]; rfl
theorem items_ok {ds : List D} (h : t S g = .ok d g1) (h2 : itemsD d = some ds) : iItems t S g = .ok ds g1 := by unfold iItems; rw [h, R.bind_ok, h2]; rfl
theorem range1_ok {j : Int} (h : t S g = .ok (.int j) g1) (h0 : -(2 ^ 62) ≤ j) (h1 : j ≤ 16777216) : iRange1 (aCons t aNil) S g = .ok (rangeL 0 j.toNat) g1 := by
  unfold iRange1; rw [args1 h, R.bind_ok]
  show lift (if _ then _ else _) g1 = _
  rw [if_pos ⟨h0, h1⟩]; rfl
theorem var_ok {i : Nat} (h : S[i]? = some (some d)) : eVar i S g = .ok d g := by unfold eVar; rw [h]
end

def tp (i : Nat) : Stmt := PySem.Challenge.pw_gamekinds_k05_arrows_of_kinds.main.body.getD i (.Pass ⟨0, 0, 0, 0⟩)
def c_ARROWS : D := (.tup [(.tup [(.str "zero"), (.str "effic")]), (.tup [(.str "same"), (.str "fip")]), (.tup [(.str "same"), (.str "paired")]), (.tup [(.str "fip"), (.str "fbr")]), (.tup [(.str "fbr"), (.str "weak")]), (.tup [(.str "weak"), (.str "rest")]), (.tup [(.str "onerest"), (.str "rest")]), (.tup [(.str "sdom"), (.str "isd")]), (.tup [(.str "sdom"), (.str "wdom")]), (.tup [(.str "isd"), (.str "onerest")]), (.tup [(.str "isd"), (.str "fbr")]), (.tup [(.str "wdom"), (.str "weak")]), (.tup [(.str "sep"), (.str "fip")]), (.tup [(.str "sep"), (.str "wdom")]), (.tup [(.str "level"), (.str "sep")]), (.tup [(.str "level"), (.str "paired")]), (.tup [(.str "paired"), (.str "rest")])])
def c_JOINT_ARROWS : D := (.tup [(.tup [(.str "same"), (.str "zero"), (.str "level")]), (.tup [(.str "paired"), (.str "zero"), (.str "level")]), (.tup [(.str "onerest"), (.str "same"), (.str "effic")]), (.tup [(.str "same"), (.str "sep"), (.str "effic")]), (.tup [(.str "level"), (.str "same"), (.str "zero")]), (.tup [(.str "onerest"), (.str "sep"), (.str "sdom")]), (.tup [(.str "level"), (.str "onerest"), (.str "zero")]), (.tup [(.str "onerest"), (.str "paired"), (.str "effic")]), (.tup [(.str "effic"), (.str "level"), (.str "zero")])])
def c_WORDS : D := (.tup [(.str "zero"), (.str "same"), (.str "fip"), (.str "fbr"), (.str "weak"), (.str "rest"), (.str "onerest"), (.str "sdom"), (.str "wdom"), (.str "isd"), (.str "sep"), (.str "level"), (.str "paired"), (.str "effic")])
def sub_Malformed : Str → Option Bool := fun y => if y = "Malformed" then some true else  none
abbrev m__law_take : MT := mTake
def b_arrows : SB := (sRet (([] ++ []) ++ []) (dCB tupOfD (aCons (eF (dCB sortD (aCons (eC c_ARROWS) aNil))) aNil)))
def m_arrows : MT := runD 0 0 b_arrows
def b__law_arrows : SB := (sSeq (sSet 0 [] (xV (eC (.str "zero effic same fip same paired fip fbr fbr weak weak rest onerest rest sdom isd sdom wdom"))))
 (sSeq (sSet 1 (([0] ++ []) ++ ([] ++ [])) (dMt "str" splitD (eF (dBin addD (eVar 0) (eC (.str " isd onerest isd fbr wdom weak sep fip sep wdom level sep level paired paired rest")))) (aCons (eC (.str " ")) aNil)))
 (sRet (((([1] ++ []) ++ []) ++ []) ++ [1]) (eF (xComp [2] (.nm 2) (iRange1 (aCons (dBin fdivD (dCB lenD (aCons (eVar 1) aNil)) (eC (.int 2))) aNil)) tTrue (eTup (aCons (dBin idxD (eVar 1) (dBin mulD (eC (.int 2)) (eVar 2))) (aCons (dBin idxD (eVar 1) (eF (dBin addD (dBin mulD (eC (.int 2)) (eVar 2)) (eC (.int 1))))) aNil))))))))
def m__law_arrows : MT := runD 3 0 b__law_arrows
def b_joint_arrows : SB := (sRet (([] ++ []) ++ []) (dCB tupOfD (aCons (eF (dCB sortD (aCons (eC c_JOINT_ARROWS) aNil))) aNil)))
def m_joint_arrows : MT := runD 0 0 b_joint_arrows
def b__law_joint : SB := (sSeq (sSet 0 [] (xV (eC (.str "same zero level paired zero level onerest same effic same sep effic level same zero"))))
 (sSeq (sSet 1 (([0] ++ []) ++ ([] ++ [])) (dMt "str" splitD (eF (dBin addD (eVar 0) (eC (.str " onerest sep sdom level onerest zero onerest paired effic effic level zero")))) (aCons (eC (.str " ")) aNil)))
 (sRet (((([1] ++ []) ++ []) ++ []) ++ [1]) (eF (xComp [2] (.nm 2) (iRange1 (aCons (dBin fdivD (dCB lenD (aCons (eVar 1) aNil)) (eC (.int 3))) aNil)) tTrue (eTup (aCons (dBin idxD (eVar 1) (dBin mulD (eC (.int 3)) (eVar 2))) (aCons (dBin idxD (eVar 1) (eF (dBin addD (dBin mulD (eC (.int 3)) (eVar 2)) (eC (.int 1))))) (aCons (dBin idxD (eVar 1) (eF (dBin addD (dBin mulD (eC (.int 3)) (eVar 2)) (eC (.int 2))))) aNil)))))))))
def m__law_joint : MT := runD 3 0 b__law_joint
def b__law_words : SB := (sRet ([] ++ ([] ++ [])) (eF (dMt "str" splitD (eC (.str "zero same fip fbr weak rest onerest sdom wdom isd sep level paired effic")) (aCons (eC (.str " ")) aNil))))
def m__law_words : MT := runD 0 0 b__law_words
def b__law_led_1 : SB := (sIf ((([3] ++ []) ++ [1]) ++ ((([3] ++ ([] ++ [])) ++ [1]) ++ [])) (tAndD (tOf (dBin notInD (dBin idxD (eVar 3) (dUn negD (eC (.int 1)))) (eVar 1))) (tTru (dCB allD (aCons (eF (xComp [4] (.nm 4) (iItems (eF (xSlice (eVar 3) oNo (oAt (dUn negD (eC (.int 1))))))) tTrue (dBin inD (eVar 4) (eVar 1)))) aNil))))
 (sMut 1 ([3] ++ []) (dBin idxD (eVar 3) (dUn negD (eC (.int 1)))) appD)
 sSkip)
def b__law_led_2 : SB := (sFor true (.nm 3) ([] ++ []) (iItems (eF (dBin addD (eCall0 m__law_arrows) (eCall0 m__law_joint))))
 b__law_led_1)
def b__law_led : SB := (sSeq (sSet 1 ([0] ++ []) (dCB lstOfD (aCons (eVar 0) aNil)))
 (sSeq (sFor false (.nm 2) ([] ++ []) (iRange1 (aCons (eC (.int 20)) aNil))
 b__law_led_2)
 (sRet [1] (eVar 1))))
def m__law_led : MT := runD 5 1 b__law_led
def b_check_word : SB := (sIf ([0] ++ ([0] ++ [])) (tOrD (tNotD (tTru (dUn (isiD "str") (eVar 0)))) (tOf (dBin notInD (eVar 0) (eC c_WORDS))))
 (sRaise "Malformed")
 sSkip)
def m_check_word : MT := runD 1 1 b_check_word
def b_check_words_1 : SB := (sExpr ([1] ++ []) (eCalls 1 m_check_word (aCons (eVar 1) aNil)))
def b_check_words : SB := (sSeq (sIf ([0] ++ ([] ++ (([0] ++ []) ++ []))) (tOrD (tNotD (tTru (dUn (isiD "tuple") (eVar 0)))) (tNotD (tOf (eChain (ltI fun i j => decide (i ≤ j)) (ltI fun i j => decide (i ≤ j)) (eC (.int 1)) (dCB lenD (aCons (eVar 0) aNil)) (eC (.int 2))))))
 (sRaise "Malformed")
 sSkip)
 (sFor true (.nm 1) [0] (iItems (eVar 0))
 b_check_words_1))
def m_check_words : MT := runD 2 1 b_check_words
def b_ways_to_1 : SB := (sIf ((([2] ++ []) ++ [1]) ++ ((([2] ++ ([] ++ [])) ++ [0]) ++ [])) (tAndD (tOf (dBin eqD (dBin idxD (eVar 2) (dUn negD (eC (.int 1)))) (eVar 1))) (tTru (dCB allD (aCons (eF (xComp [3] (.nm 3) (iItems (eF (xSlice (eVar 2) oNo (oAt (dUn negD (eC (.int 1))))))) tTrue (dBin inD (eVar 3) (eVar 0)))) aNil))))
 (sRet [2] (eVar 2))
 sSkip)
def b_ways_to : SB := (sSeq (sFor true (.nm 2) ([] ++ []) (iItems (eF (dBin addD (eC c_ARROWS) (eC c_JOINT_ARROWS))))
 b_ways_to_1)
 (sRet [] (eC .non)))
def m_ways_to : MT := runD 4 2 b_ways_to
def b_derived_1 : SB := (sSeq (sSet 5 ([1] ++ ([4] ++ [])) (xV (eCalls 2 m_ways_to (aCons (eVar 1) (aCons (eVar 4) aNil)))))
 (sIf (([4] ++ [1]) ++ ([5] ++ [])) (tAndD (tOf (dBin notInD (eVar 4) (eVar 1))) (tOf (dBin notND (eVar 5) (eC .non))))
 (sSeq (sMut 1 [4] (eVar 4) appD)
 (sSeq (sMut 2 [5] (eVar 5) appD)
 (sSet 3 [] (xV (eC (.bl true))))))
 sSkip))
def b_derived_2 : SB := (sSeq (sSet 3 [] (xV (eC (.bl false))))
 (sFor true (.nm 4) [] (iItems (eC c_WORDS))
 b_derived_1))
def b_derived : SB := (sSeq (sSetAll [1, 2, 3] (([0] ++ []) ++ ([] ++ ([] ++ []))) (axCons (dCB lstOfD (aCons (eVar 0) aNil)) (axCons (xLst aNil) (axCons (xV (eC (.bl true))) axNil))))
 (sSeq (whileL [3] (tTru (eVar 3))
 b_derived_2 100)
 (sRet ([1] ++ ([2] ++ [])) (eTup (aCons (eVar 1) (aCons (eVar 2) aNil))))))
def m_derived : MT := runD 6 1 b_derived
def b_all_forced : SB := (sSeq (sExpr ([0] ++ []) (eCalls 1 m_check_words (aCons (eVar 0) aNil)))
 (sSeq (sSet 1 (([0] ++ []) ++ []) (xV (dBin idxD (eCalls 1 m_derived (aCons (eVar 0) aNil)) (eC (.int 0)))))
 (sRet (([] ++ [1]) ++ []) (dCB tupOfD (aCons (eF (xComp [2] (.nm 2) (iItems (eC c_WORDS)) (tOf (dBin inD (eVar 2) (eVar 1))) (eVar 2))) aNil)))))
def m_all_forced : MT := runD 3 1 b_all_forced
def b_does_force : SB := (sSeq (sExpr ([1] ++ []) (eCalls 1 m_check_word (aCons (eVar 1) aNil)))
 (sRet ([1] ++ ([0] ++ [])) (dBin inD (eVar 1) (eCalls 1 m_all_forced (aCons (eVar 0) aNil)))))
def m_does_force : MT := runD 2 2 b_does_force
def b__law_ask : SB := (sTry sub_Malformed
 (sRet (([0] ++ []) ++ (([1] ++ []) ++ ([1] ++ ([2] ++ [])))) (eIf (tOf (dBin eqD (eVar 0) (eC (.int 0)))) (eCalls 1 m_all_forced (aCons (eVar 1) aNil)) (eCalls 2 m_does_force (aCons (eVar 1) (aCons (eVar 2) aNil)))))
 (sRet [] (eC (.str "<malformed>"))))
def m__law_ask : MT := runD 3 3 b__law_ask
def b__law_says : SB := (sRet ([0] ++ ([0] ++ [1])) (eAnd (dUn (isiD "bool") (eVar 0)) (dBin eqD (eVar 0) (eVar 1))))
def m__law_says : MT := runD 2 2 b__law_says
def b_law_1 : SB := (sSeq (sSet 3 (((([] ++ ([1] ++ ([] ++ []))) ++ []) ++ [1]) ++ []) (xV (dCB tupOfD (aCons (eF (xComp [6] (.nm 6) (iRange1 (aCons (eF (dBin addD (eC (.int 1)) (eCalls 2 m__law_take (aCons (eVar 1) (aCons (eC (.int 2)) aNil))))) aNil)) tTrue (dBin idxD (eCall0 m__law_words) (eCalls 2 m__law_take (aCons (eVar 1) (aCons (eC (.int 14)) aNil)))))) aNil))))
 (sSeq (sSet 4 ([3] ++ []) (xV (eCalls 1 m__law_led (aCons (eVar 3) aNil))))
 (sSeq (sIf (([] ++ ([3] ++ ([] ++ []))) ++ (([] ++ [4]) ++ [])) (tOf (dBin neD (eCalls 3 m__law_ask (aCons (eC (.int 0)) (aCons (eVar 3) (aCons (eC (.str "")) aNil)))) (dCB tupOfD (aCons (eF (xComp [7] (.nm 7) (iItems (eCall0 m__law_words)) (tOf (dBin inD (eVar 7) (eVar 4))) (eVar 7))) aNil))))
 (sRet [] (eC (.bl false)))
 sSkip)
 (sIf (([] ++ [3, 4]) ++ []) (tNotD (tTru (dCB allD (aCons (eF (xComp [7] (.nm 7) (iItems (eCall0 m__law_words)) tTrue (eCalls 2 m__law_says (aCons (eCalls 3 m__law_ask (aCons (eC (.int 1)) (aCons (eVar 3) (aCons (eVar 7) aNil)))) (aCons (dBin inD (eVar 7) (eVar 4)) aNil))))) aNil))))
 (sRet [] (eC (.bl false)))
 sSkip))))
def b_law_2 : SB := (sIf ((([] ++ ([] ++ [])) ++ [5]) ++ (([] ++ []) ++ [])) (tOf (dBin neD (eF (xComp [8] (.nm 8) (iItems (eF (xLst (aCons (eC (.int 0)) (aCons (eC (.int 1)) aNil))))) tTrue (eCalls 3 m__law_ask (aCons (eVar 8) (aCons (eVar 5) (aCons (eC (.str "fip")) aNil)))))) (eF (dBin mulX (eF (xLst (aCons (eC (.str "<malformed>")) aNil))) (eC (.int 2))))))
 (sRet [] (eC (.bl false)))
 sSkip)
def b_law : SB := (sSeq (sIf (([] ++ (([] ++ []) ++ [])) ++ ([] ++ (([] ++ []) ++ []))) (tOrD (tOf (dBin neD (eCall0 m_arrows) (dCB tupOfD (aCons (eF (dCB sortD (aCons (eCall0 m__law_arrows) aNil))) aNil)))) (tOf (dBin neD (eCall0 m_joint_arrows) (dCB tupOfD (aCons (eF (dCB sortD (aCons (eCall0 m__law_joint) aNil))) aNil)))))
 (sRet [] (eC (.bl false)))
 sSkip)
 (sSeq (sFor false (.nm 2) ([] ++ []) (iRange1 (aCons (eC (.int 4)) aNil))
 b_law_1)
 (sSeq (sFor true (.nm 5) ([] ++ (([] ++ ([] ++ ([] ++ []))) ++ (([] ++ []) ++ ([] ++ ([] ++ (([] ++ []) ++ (([] ++ []) ++ (([] ++ []) ++ (([] ++ ([] ++ [])) ++ ((([] ++ []) ++ []) ++ [])))))))))) (iItems (eF (xLst (aCons (eTup aNil) (aCons (eTup (aCons (eC (.str "fip")) (aCons (eC (.str "sep")) (aCons (eC (.str "rest")) aNil)))) (aCons (eF (xLst (aCons (eC (.str "fip")) aNil))) (aCons (eC (.str "fip")) (aCons (eC .non) (aCons (eTup (aCons (eC (.str "FIP")) aNil)) (aCons (eTup (aCons (eC (.str "")) aNil)) (aCons (eTup (aCons (eC .non) aNil)) (aCons (eTup (aCons (eC (.str "fip")) (aCons (eC (.int 3)) aNil))) (aCons (eTup (aCons (eTup (aCons (eC (.str "fip")) aNil)) aNil)) aNil)))))))))))))
 b_law_2)
 (sRet ((([] ++ ([] ++ ([] ++ ([] ++ (([] ++ []) ++ ([] ++ [])))))) ++ []) ++ []) (dCB allD (aCons (eF (xComp [5] (.nm 5) (iItems (eF (xLst (aCons (eC (.str "")) (aCons (eC (.str "FIP")) (aCons (eC .non) (aCons (eC (.int 3)) (aCons (eTup (aCons (eC (.str "fip")) aNil)) (aCons (eC (.bl true)) aNil))))))))) tTrue (dBin eqD (eCalls 3 m__law_ask (aCons (eC (.int 1)) (aCons (eTup (aCons (eC (.str "fip")) aNil)) (aCons (eVar 5) aNil)))) (eC (.str "<malformed>"))))) aNil))))))

theorem um_arrows : UnM m_arrows := um_run (by
  unfold b_arrows
  repeat' (first | with_reducible exact un_var _ | with_reducible exact un_c _ | with_reducible exact un_nil | with_reducible exact un_xnil | with_reducible exact un_tt | with_reducible exact un_ono | with_reducible exact us_skip | with_reducible exact us_retN | with_reducible exact us_raise | with_reducible exact us_bk | with_reducible exact us_ct | with_reducible apply un_cons | with_reducible apply un_xcons | with_reducible apply un_bin | with_reducible apply un_un | with_reducible apply un_cb | with_reducible apply un_mt | with_reducible apply un_tup | with_reducible apply un_lst | with_reducible apply un_calls | with_reducible apply un_call0 | with_reducible apply un_and | with_reducible apply un_or | with_reducible apply un_not | with_reducible apply un_if | with_reducible apply un_chain | with_reducible apply un_eF | with_reducible apply un_xV | with_reducible apply un_tof | with_reducible apply un_tru | with_reducible apply un_tnot | with_reducible apply un_tand | with_reducible apply un_tor | with_reducible apply un_oat | with_reducible apply un_slice | with_reducible apply un_items | with_reducible apply un_range1 | with_reducible apply un_range2 | with_reducible apply un_comp | with_reducible apply us_seq | with_reducible apply us_set | with_reducible apply us_ret | with_reducible apply us_expr | with_reducible apply us_if | with_reducible apply us_for | with_reducible apply us_while | with_reducible apply us_mut | with_reducible apply us_try | with_reducible apply us_setall | with_reducible apply us_unp))
theorem um__law_arrows : UnM m__law_arrows := um_run (by
  unfold b__law_arrows
  repeat' (first | with_reducible exact un_var _ | with_reducible exact un_c _ | with_reducible exact un_nil | with_reducible exact un_xnil | with_reducible exact un_tt | with_reducible exact un_ono | with_reducible exact us_skip | with_reducible exact us_retN | with_reducible exact us_raise | with_reducible exact us_bk | with_reducible exact us_ct | with_reducible apply un_cons | with_reducible apply un_xcons | with_reducible apply un_bin | with_reducible apply un_un | with_reducible apply un_cb | with_reducible apply un_mt | with_reducible apply un_tup | with_reducible apply un_lst | with_reducible apply un_calls | with_reducible apply un_call0 | with_reducible apply un_and | with_reducible apply un_or | with_reducible apply un_not | with_reducible apply un_if | with_reducible apply un_chain | with_reducible apply un_eF | with_reducible apply un_xV | with_reducible apply un_tof | with_reducible apply un_tru | with_reducible apply un_tnot | with_reducible apply un_tand | with_reducible apply un_tor | with_reducible apply un_oat | with_reducible apply un_slice | with_reducible apply un_items | with_reducible apply un_range1 | with_reducible apply un_range2 | with_reducible apply un_comp | with_reducible apply us_seq | with_reducible apply us_set | with_reducible apply us_ret | with_reducible apply us_expr | with_reducible apply us_if | with_reducible apply us_for | with_reducible apply us_while | with_reducible apply us_mut | with_reducible apply us_try | with_reducible apply us_setall | with_reducible apply us_unp))
theorem um_joint_arrows : UnM m_joint_arrows := um_run (by
  unfold b_joint_arrows
  repeat' (first | with_reducible exact un_var _ | with_reducible exact un_c _ | with_reducible exact un_nil | with_reducible exact un_xnil | with_reducible exact un_tt | with_reducible exact un_ono | with_reducible exact us_skip | with_reducible exact us_retN | with_reducible exact us_raise | with_reducible exact us_bk | with_reducible exact us_ct | with_reducible apply un_cons | with_reducible apply un_xcons | with_reducible apply un_bin | with_reducible apply un_un | with_reducible apply un_cb | with_reducible apply un_mt | with_reducible apply un_tup | with_reducible apply un_lst | with_reducible apply un_calls | with_reducible apply un_call0 | with_reducible apply un_and | with_reducible apply un_or | with_reducible apply un_not | with_reducible apply un_if | with_reducible apply un_chain | with_reducible apply un_eF | with_reducible apply un_xV | with_reducible apply un_tof | with_reducible apply un_tru | with_reducible apply un_tnot | with_reducible apply un_tand | with_reducible apply un_tor | with_reducible apply un_oat | with_reducible apply un_slice | with_reducible apply un_items | with_reducible apply un_range1 | with_reducible apply un_range2 | with_reducible apply un_comp | with_reducible apply us_seq | with_reducible apply us_set | with_reducible apply us_ret | with_reducible apply us_expr | with_reducible apply us_if | with_reducible apply us_for | with_reducible apply us_while | with_reducible apply us_mut | with_reducible apply us_try | with_reducible apply us_setall | with_reducible apply us_unp))
theorem um__law_joint : UnM m__law_joint := um_run (by
  unfold b__law_joint
  repeat' (first | with_reducible exact un_var _ | with_reducible exact un_c _ | with_reducible exact un_nil | with_reducible exact un_xnil | with_reducible exact un_tt | with_reducible exact un_ono | with_reducible exact us_skip | with_reducible exact us_retN | with_reducible exact us_raise | with_reducible exact us_bk | with_reducible exact us_ct | with_reducible apply un_cons | with_reducible apply un_xcons | with_reducible apply un_bin | with_reducible apply un_un | with_reducible apply un_cb | with_reducible apply un_mt | with_reducible apply un_tup | with_reducible apply un_lst | with_reducible apply un_calls | with_reducible apply un_call0 | with_reducible apply un_and | with_reducible apply un_or | with_reducible apply un_not | with_reducible apply un_if | with_reducible apply un_chain | with_reducible apply un_eF | with_reducible apply un_xV | with_reducible apply un_tof | with_reducible apply un_tru | with_reducible apply un_tnot | with_reducible apply un_tand | with_reducible apply un_tor | with_reducible apply un_oat | with_reducible apply un_slice | with_reducible apply un_items | with_reducible apply un_range1 | with_reducible apply un_range2 | with_reducible apply un_comp | with_reducible apply us_seq | with_reducible apply us_set | with_reducible apply us_ret | with_reducible apply us_expr | with_reducible apply us_if | with_reducible apply us_for | with_reducible apply us_while | with_reducible apply us_mut | with_reducible apply us_try | with_reducible apply us_setall | with_reducible apply us_unp))
theorem um__law_words : UnM m__law_words := um_run (by
  unfold b__law_words
  repeat' (first | with_reducible exact un_var _ | with_reducible exact un_c _ | with_reducible exact un_nil | with_reducible exact un_xnil | with_reducible exact un_tt | with_reducible exact un_ono | with_reducible exact us_skip | with_reducible exact us_retN | with_reducible exact us_raise | with_reducible exact us_bk | with_reducible exact us_ct | with_reducible apply un_cons | with_reducible apply un_xcons | with_reducible apply un_bin | with_reducible apply un_un | with_reducible apply un_cb | with_reducible apply un_mt | with_reducible apply un_tup | with_reducible apply un_lst | with_reducible apply un_calls | with_reducible apply un_call0 | with_reducible apply un_and | with_reducible apply un_or | with_reducible apply un_not | with_reducible apply un_if | with_reducible apply un_chain | with_reducible apply un_eF | with_reducible apply un_xV | with_reducible apply un_tof | with_reducible apply un_tru | with_reducible apply un_tnot | with_reducible apply un_tand | with_reducible apply un_tor | with_reducible apply un_oat | with_reducible apply un_slice | with_reducible apply un_items | with_reducible apply un_range1 | with_reducible apply un_range2 | with_reducible apply un_comp | with_reducible apply us_seq | with_reducible apply us_set | with_reducible apply us_ret | with_reducible apply us_expr | with_reducible apply us_if | with_reducible apply us_for | with_reducible apply us_while | with_reducible apply us_mut | with_reducible apply us_try | with_reducible apply us_setall | with_reducible apply us_unp))
theorem us_b__law_led_1 : UnS b__law_led_1 := by
  unfold b__law_led_1
  repeat' (first | exact um__law_arrows | exact um__law_joint | with_reducible exact un_var _ | with_reducible exact un_c _ | with_reducible exact un_nil | with_reducible exact un_xnil | with_reducible exact un_tt | with_reducible exact un_ono | with_reducible exact us_skip | with_reducible exact us_retN | with_reducible exact us_raise | with_reducible exact us_bk | with_reducible exact us_ct | with_reducible apply un_cons | with_reducible apply un_xcons | with_reducible apply un_bin | with_reducible apply un_un | with_reducible apply un_cb | with_reducible apply un_mt | with_reducible apply un_tup | with_reducible apply un_lst | with_reducible apply un_calls | with_reducible apply un_call0 | with_reducible apply un_and | with_reducible apply un_or | with_reducible apply un_not | with_reducible apply un_if | with_reducible apply un_chain | with_reducible apply un_eF | with_reducible apply un_xV | with_reducible apply un_tof | with_reducible apply un_tru | with_reducible apply un_tnot | with_reducible apply un_tand | with_reducible apply un_tor | with_reducible apply un_oat | with_reducible apply un_slice | with_reducible apply un_items | with_reducible apply un_range1 | with_reducible apply un_range2 | with_reducible apply un_comp | with_reducible apply us_seq | with_reducible apply us_set | with_reducible apply us_ret | with_reducible apply us_expr | with_reducible apply us_if | with_reducible apply us_for | with_reducible apply us_while | with_reducible apply us_mut | with_reducible apply us_try | with_reducible apply us_setall | with_reducible apply us_unp)
theorem us_b__law_led_2 : UnS b__law_led_2 := by
  unfold b__law_led_2
  repeat' (first | exact um__law_arrows | exact um__law_joint | exact us_b__law_led_1 | with_reducible exact un_var _ | with_reducible exact un_c _ | with_reducible exact un_nil | with_reducible exact un_xnil | with_reducible exact un_tt | with_reducible exact un_ono | with_reducible exact us_skip | with_reducible exact us_retN | with_reducible exact us_raise | with_reducible exact us_bk | with_reducible exact us_ct | with_reducible apply un_cons | with_reducible apply un_xcons | with_reducible apply un_bin | with_reducible apply un_un | with_reducible apply un_cb | with_reducible apply un_mt | with_reducible apply un_tup | with_reducible apply un_lst | with_reducible apply un_calls | with_reducible apply un_call0 | with_reducible apply un_and | with_reducible apply un_or | with_reducible apply un_not | with_reducible apply un_if | with_reducible apply un_chain | with_reducible apply un_eF | with_reducible apply un_xV | with_reducible apply un_tof | with_reducible apply un_tru | with_reducible apply un_tnot | with_reducible apply un_tand | with_reducible apply un_tor | with_reducible apply un_oat | with_reducible apply un_slice | with_reducible apply un_items | with_reducible apply un_range1 | with_reducible apply un_range2 | with_reducible apply un_comp | with_reducible apply us_seq | with_reducible apply us_set | with_reducible apply us_ret | with_reducible apply us_expr | with_reducible apply us_if | with_reducible apply us_for | with_reducible apply us_while | with_reducible apply us_mut | with_reducible apply us_try | with_reducible apply us_setall | with_reducible apply us_unp)
theorem um__law_led : UnM m__law_led := um_run (by
  unfold b__law_led
  repeat' (first | exact um__law_arrows | exact um__law_joint | exact us_b__law_led_1 | exact us_b__law_led_2 | with_reducible exact un_var _ | with_reducible exact un_c _ | with_reducible exact un_nil | with_reducible exact un_xnil | with_reducible exact un_tt | with_reducible exact un_ono | with_reducible exact us_skip | with_reducible exact us_retN | with_reducible exact us_raise | with_reducible exact us_bk | with_reducible exact us_ct | with_reducible apply un_cons | with_reducible apply un_xcons | with_reducible apply un_bin | with_reducible apply un_un | with_reducible apply un_cb | with_reducible apply un_mt | with_reducible apply un_tup | with_reducible apply un_lst | with_reducible apply un_calls | with_reducible apply un_call0 | with_reducible apply un_and | with_reducible apply un_or | with_reducible apply un_not | with_reducible apply un_if | with_reducible apply un_chain | with_reducible apply un_eF | with_reducible apply un_xV | with_reducible apply un_tof | with_reducible apply un_tru | with_reducible apply un_tnot | with_reducible apply un_tand | with_reducible apply un_tor | with_reducible apply un_oat | with_reducible apply un_slice | with_reducible apply un_items | with_reducible apply un_range1 | with_reducible apply un_range2 | with_reducible apply un_comp | with_reducible apply us_seq | with_reducible apply us_set | with_reducible apply us_ret | with_reducible apply us_expr | with_reducible apply us_if | with_reducible apply us_for | with_reducible apply us_while | with_reducible apply us_mut | with_reducible apply us_try | with_reducible apply us_setall | with_reducible apply us_unp))
theorem um_check_word : UnM m_check_word := um_run (by
  unfold b_check_word
  repeat' (first | with_reducible exact un_var _ | with_reducible exact un_c _ | with_reducible exact un_nil | with_reducible exact un_xnil | with_reducible exact un_tt | with_reducible exact un_ono | with_reducible exact us_skip | with_reducible exact us_retN | with_reducible exact us_raise | with_reducible exact us_bk | with_reducible exact us_ct | with_reducible apply un_cons | with_reducible apply un_xcons | with_reducible apply un_bin | with_reducible apply un_un | with_reducible apply un_cb | with_reducible apply un_mt | with_reducible apply un_tup | with_reducible apply un_lst | with_reducible apply un_calls | with_reducible apply un_call0 | with_reducible apply un_and | with_reducible apply un_or | with_reducible apply un_not | with_reducible apply un_if | with_reducible apply un_chain | with_reducible apply un_eF | with_reducible apply un_xV | with_reducible apply un_tof | with_reducible apply un_tru | with_reducible apply un_tnot | with_reducible apply un_tand | with_reducible apply un_tor | with_reducible apply un_oat | with_reducible apply un_slice | with_reducible apply un_items | with_reducible apply un_range1 | with_reducible apply un_range2 | with_reducible apply un_comp | with_reducible apply us_seq | with_reducible apply us_set | with_reducible apply us_ret | with_reducible apply us_expr | with_reducible apply us_if | with_reducible apply us_for | with_reducible apply us_while | with_reducible apply us_mut | with_reducible apply us_try | with_reducible apply us_setall | with_reducible apply us_unp))
theorem us_b_check_words_1 : UnS b_check_words_1 := by
  unfold b_check_words_1
  repeat' (first | exact um_check_word | with_reducible exact un_var _ | with_reducible exact un_c _ | with_reducible exact un_nil | with_reducible exact un_xnil | with_reducible exact un_tt | with_reducible exact un_ono | with_reducible exact us_skip | with_reducible exact us_retN | with_reducible exact us_raise | with_reducible exact us_bk | with_reducible exact us_ct | with_reducible apply un_cons | with_reducible apply un_xcons | with_reducible apply un_bin | with_reducible apply un_un | with_reducible apply un_cb | with_reducible apply un_mt | with_reducible apply un_tup | with_reducible apply un_lst | with_reducible apply un_calls | with_reducible apply un_call0 | with_reducible apply un_and | with_reducible apply un_or | with_reducible apply un_not | with_reducible apply un_if | with_reducible apply un_chain | with_reducible apply un_eF | with_reducible apply un_xV | with_reducible apply un_tof | with_reducible apply un_tru | with_reducible apply un_tnot | with_reducible apply un_tand | with_reducible apply un_tor | with_reducible apply un_oat | with_reducible apply un_slice | with_reducible apply un_items | with_reducible apply un_range1 | with_reducible apply un_range2 | with_reducible apply un_comp | with_reducible apply us_seq | with_reducible apply us_set | with_reducible apply us_ret | with_reducible apply us_expr | with_reducible apply us_if | with_reducible apply us_for | with_reducible apply us_while | with_reducible apply us_mut | with_reducible apply us_try | with_reducible apply us_setall | with_reducible apply us_unp)
theorem um_check_words : UnM m_check_words := um_run (by
  unfold b_check_words
  repeat' (first | exact um_check_word | exact us_b_check_words_1 | with_reducible exact un_var _ | with_reducible exact un_c _ | with_reducible exact un_nil | with_reducible exact un_xnil | with_reducible exact un_tt | with_reducible exact un_ono | with_reducible exact us_skip | with_reducible exact us_retN | with_reducible exact us_raise | with_reducible exact us_bk | with_reducible exact us_ct | with_reducible apply un_cons | with_reducible apply un_xcons | with_reducible apply un_bin | with_reducible apply un_un | with_reducible apply un_cb | with_reducible apply un_mt | with_reducible apply un_tup | with_reducible apply un_lst | with_reducible apply un_calls | with_reducible apply un_call0 | with_reducible apply un_and | with_reducible apply un_or | with_reducible apply un_not | with_reducible apply un_if | with_reducible apply un_chain | with_reducible apply un_eF | with_reducible apply un_xV | with_reducible apply un_tof | with_reducible apply un_tru | with_reducible apply un_tnot | with_reducible apply un_tand | with_reducible apply un_tor | with_reducible apply un_oat | with_reducible apply un_slice | with_reducible apply un_items | with_reducible apply un_range1 | with_reducible apply un_range2 | with_reducible apply un_comp | with_reducible apply us_seq | with_reducible apply us_set | with_reducible apply us_ret | with_reducible apply us_expr | with_reducible apply us_if | with_reducible apply us_for | with_reducible apply us_while | with_reducible apply us_mut | with_reducible apply us_try | with_reducible apply us_setall | with_reducible apply us_unp))
theorem us_b_ways_to_1 : UnS b_ways_to_1 := by
  unfold b_ways_to_1
  repeat' (first | with_reducible exact un_var _ | with_reducible exact un_c _ | with_reducible exact un_nil | with_reducible exact un_xnil | with_reducible exact un_tt | with_reducible exact un_ono | with_reducible exact us_skip | with_reducible exact us_retN | with_reducible exact us_raise | with_reducible exact us_bk | with_reducible exact us_ct | with_reducible apply un_cons | with_reducible apply un_xcons | with_reducible apply un_bin | with_reducible apply un_un | with_reducible apply un_cb | with_reducible apply un_mt | with_reducible apply un_tup | with_reducible apply un_lst | with_reducible apply un_calls | with_reducible apply un_call0 | with_reducible apply un_and | with_reducible apply un_or | with_reducible apply un_not | with_reducible apply un_if | with_reducible apply un_chain | with_reducible apply un_eF | with_reducible apply un_xV | with_reducible apply un_tof | with_reducible apply un_tru | with_reducible apply un_tnot | with_reducible apply un_tand | with_reducible apply un_tor | with_reducible apply un_oat | with_reducible apply un_slice | with_reducible apply un_items | with_reducible apply un_range1 | with_reducible apply un_range2 | with_reducible apply un_comp | with_reducible apply us_seq | with_reducible apply us_set | with_reducible apply us_ret | with_reducible apply us_expr | with_reducible apply us_if | with_reducible apply us_for | with_reducible apply us_while | with_reducible apply us_mut | with_reducible apply us_try | with_reducible apply us_setall | with_reducible apply us_unp)
theorem um_ways_to : UnM m_ways_to := um_run (by
  unfold b_ways_to
  repeat' (first | exact us_b_ways_to_1 | with_reducible exact un_var _ | with_reducible exact un_c _ | with_reducible exact un_nil | with_reducible exact un_xnil | with_reducible exact un_tt | with_reducible exact un_ono | with_reducible exact us_skip | with_reducible exact us_retN | with_reducible exact us_raise | with_reducible exact us_bk | with_reducible exact us_ct | with_reducible apply un_cons | with_reducible apply un_xcons | with_reducible apply un_bin | with_reducible apply un_un | with_reducible apply un_cb | with_reducible apply un_mt | with_reducible apply un_tup | with_reducible apply un_lst | with_reducible apply un_calls | with_reducible apply un_call0 | with_reducible apply un_and | with_reducible apply un_or | with_reducible apply un_not | with_reducible apply un_if | with_reducible apply un_chain | with_reducible apply un_eF | with_reducible apply un_xV | with_reducible apply un_tof | with_reducible apply un_tru | with_reducible apply un_tnot | with_reducible apply un_tand | with_reducible apply un_tor | with_reducible apply un_oat | with_reducible apply un_slice | with_reducible apply un_items | with_reducible apply un_range1 | with_reducible apply un_range2 | with_reducible apply un_comp | with_reducible apply us_seq | with_reducible apply us_set | with_reducible apply us_ret | with_reducible apply us_expr | with_reducible apply us_if | with_reducible apply us_for | with_reducible apply us_while | with_reducible apply us_mut | with_reducible apply us_try | with_reducible apply us_setall | with_reducible apply us_unp))
theorem us_b_derived_1 : UnS b_derived_1 := by
  unfold b_derived_1
  repeat' (first | exact um_ways_to | with_reducible exact un_var _ | with_reducible exact un_c _ | with_reducible exact un_nil | with_reducible exact un_xnil | with_reducible exact un_tt | with_reducible exact un_ono | with_reducible exact us_skip | with_reducible exact us_retN | with_reducible exact us_raise | with_reducible exact us_bk | with_reducible exact us_ct | with_reducible apply un_cons | with_reducible apply un_xcons | with_reducible apply un_bin | with_reducible apply un_un | with_reducible apply un_cb | with_reducible apply un_mt | with_reducible apply un_tup | with_reducible apply un_lst | with_reducible apply un_calls | with_reducible apply un_call0 | with_reducible apply un_and | with_reducible apply un_or | with_reducible apply un_not | with_reducible apply un_if | with_reducible apply un_chain | with_reducible apply un_eF | with_reducible apply un_xV | with_reducible apply un_tof | with_reducible apply un_tru | with_reducible apply un_tnot | with_reducible apply un_tand | with_reducible apply un_tor | with_reducible apply un_oat | with_reducible apply un_slice | with_reducible apply un_items | with_reducible apply un_range1 | with_reducible apply un_range2 | with_reducible apply un_comp | with_reducible apply us_seq | with_reducible apply us_set | with_reducible apply us_ret | with_reducible apply us_expr | with_reducible apply us_if | with_reducible apply us_for | with_reducible apply us_while | with_reducible apply us_mut | with_reducible apply us_try | with_reducible apply us_setall | with_reducible apply us_unp)
theorem us_b_derived_2 : UnS b_derived_2 := by
  unfold b_derived_2
  repeat' (first | exact um_ways_to | exact us_b_derived_1 | with_reducible exact un_var _ | with_reducible exact un_c _ | with_reducible exact un_nil | with_reducible exact un_xnil | with_reducible exact un_tt | with_reducible exact un_ono | with_reducible exact us_skip | with_reducible exact us_retN | with_reducible exact us_raise | with_reducible exact us_bk | with_reducible exact us_ct | with_reducible apply un_cons | with_reducible apply un_xcons | with_reducible apply un_bin | with_reducible apply un_un | with_reducible apply un_cb | with_reducible apply un_mt | with_reducible apply un_tup | with_reducible apply un_lst | with_reducible apply un_calls | with_reducible apply un_call0 | with_reducible apply un_and | with_reducible apply un_or | with_reducible apply un_not | with_reducible apply un_if | with_reducible apply un_chain | with_reducible apply un_eF | with_reducible apply un_xV | with_reducible apply un_tof | with_reducible apply un_tru | with_reducible apply un_tnot | with_reducible apply un_tand | with_reducible apply un_tor | with_reducible apply un_oat | with_reducible apply un_slice | with_reducible apply un_items | with_reducible apply un_range1 | with_reducible apply un_range2 | with_reducible apply un_comp | with_reducible apply us_seq | with_reducible apply us_set | with_reducible apply us_ret | with_reducible apply us_expr | with_reducible apply us_if | with_reducible apply us_for | with_reducible apply us_while | with_reducible apply us_mut | with_reducible apply us_try | with_reducible apply us_setall | with_reducible apply us_unp)
theorem um_derived : UnM m_derived := um_run (by
  unfold b_derived
  repeat' (first | exact um_ways_to | exact us_b_derived_1 | exact us_b_derived_2 | with_reducible exact un_var _ | with_reducible exact un_c _ | with_reducible exact un_nil | with_reducible exact un_xnil | with_reducible exact un_tt | with_reducible exact un_ono | with_reducible exact us_skip | with_reducible exact us_retN | with_reducible exact us_raise | with_reducible exact us_bk | with_reducible exact us_ct | with_reducible apply un_cons | with_reducible apply un_xcons | with_reducible apply un_bin | with_reducible apply un_un | with_reducible apply un_cb | with_reducible apply un_mt | with_reducible apply un_tup | with_reducible apply un_lst | with_reducible apply un_calls | with_reducible apply un_call0 | with_reducible apply un_and | with_reducible apply un_or | with_reducible apply un_not | with_reducible apply un_if | with_reducible apply un_chain | with_reducible apply un_eF | with_reducible apply un_xV | with_reducible apply un_tof | with_reducible apply un_tru | with_reducible apply un_tnot | with_reducible apply un_tand | with_reducible apply un_tor | with_reducible apply un_oat | with_reducible apply un_slice | with_reducible apply un_items | with_reducible apply un_range1 | with_reducible apply un_range2 | with_reducible apply un_comp | with_reducible apply us_seq | with_reducible apply us_set | with_reducible apply us_ret | with_reducible apply us_expr | with_reducible apply us_if | with_reducible apply us_for | with_reducible apply us_while | with_reducible apply us_mut | with_reducible apply us_try | with_reducible apply us_setall | with_reducible apply us_unp))
theorem um_all_forced : UnM m_all_forced := um_run (by
  unfold b_all_forced
  repeat' (first | exact um_check_words | exact um_derived | with_reducible exact un_var _ | with_reducible exact un_c _ | with_reducible exact un_nil | with_reducible exact un_xnil | with_reducible exact un_tt | with_reducible exact un_ono | with_reducible exact us_skip | with_reducible exact us_retN | with_reducible exact us_raise | with_reducible exact us_bk | with_reducible exact us_ct | with_reducible apply un_cons | with_reducible apply un_xcons | with_reducible apply un_bin | with_reducible apply un_un | with_reducible apply un_cb | with_reducible apply un_mt | with_reducible apply un_tup | with_reducible apply un_lst | with_reducible apply un_calls | with_reducible apply un_call0 | with_reducible apply un_and | with_reducible apply un_or | with_reducible apply un_not | with_reducible apply un_if | with_reducible apply un_chain | with_reducible apply un_eF | with_reducible apply un_xV | with_reducible apply un_tof | with_reducible apply un_tru | with_reducible apply un_tnot | with_reducible apply un_tand | with_reducible apply un_tor | with_reducible apply un_oat | with_reducible apply un_slice | with_reducible apply un_items | with_reducible apply un_range1 | with_reducible apply un_range2 | with_reducible apply un_comp | with_reducible apply us_seq | with_reducible apply us_set | with_reducible apply us_ret | with_reducible apply us_expr | with_reducible apply us_if | with_reducible apply us_for | with_reducible apply us_while | with_reducible apply us_mut | with_reducible apply us_try | with_reducible apply us_setall | with_reducible apply us_unp))
theorem um_does_force : UnM m_does_force := um_run (by
  unfold b_does_force
  repeat' (first | exact um_all_forced | exact um_check_word | with_reducible exact un_var _ | with_reducible exact un_c _ | with_reducible exact un_nil | with_reducible exact un_xnil | with_reducible exact un_tt | with_reducible exact un_ono | with_reducible exact us_skip | with_reducible exact us_retN | with_reducible exact us_raise | with_reducible exact us_bk | with_reducible exact us_ct | with_reducible apply un_cons | with_reducible apply un_xcons | with_reducible apply un_bin | with_reducible apply un_un | with_reducible apply un_cb | with_reducible apply un_mt | with_reducible apply un_tup | with_reducible apply un_lst | with_reducible apply un_calls | with_reducible apply un_call0 | with_reducible apply un_and | with_reducible apply un_or | with_reducible apply un_not | with_reducible apply un_if | with_reducible apply un_chain | with_reducible apply un_eF | with_reducible apply un_xV | with_reducible apply un_tof | with_reducible apply un_tru | with_reducible apply un_tnot | with_reducible apply un_tand | with_reducible apply un_tor | with_reducible apply un_oat | with_reducible apply un_slice | with_reducible apply un_items | with_reducible apply un_range1 | with_reducible apply un_range2 | with_reducible apply un_comp | with_reducible apply us_seq | with_reducible apply us_set | with_reducible apply us_ret | with_reducible apply us_expr | with_reducible apply us_if | with_reducible apply us_for | with_reducible apply us_while | with_reducible apply us_mut | with_reducible apply us_try | with_reducible apply us_setall | with_reducible apply us_unp))
theorem um__law_ask : UnM m__law_ask := um_run (by
  unfold b__law_ask
  repeat' (first | exact um_all_forced | exact um_does_force | with_reducible exact un_var _ | with_reducible exact un_c _ | with_reducible exact un_nil | with_reducible exact un_xnil | with_reducible exact un_tt | with_reducible exact un_ono | with_reducible exact us_skip | with_reducible exact us_retN | with_reducible exact us_raise | with_reducible exact us_bk | with_reducible exact us_ct | with_reducible apply un_cons | with_reducible apply un_xcons | with_reducible apply un_bin | with_reducible apply un_un | with_reducible apply un_cb | with_reducible apply un_mt | with_reducible apply un_tup | with_reducible apply un_lst | with_reducible apply un_calls | with_reducible apply un_call0 | with_reducible apply un_and | with_reducible apply un_or | with_reducible apply un_not | with_reducible apply un_if | with_reducible apply un_chain | with_reducible apply un_eF | with_reducible apply un_xV | with_reducible apply un_tof | with_reducible apply un_tru | with_reducible apply un_tnot | with_reducible apply un_tand | with_reducible apply un_tor | with_reducible apply un_oat | with_reducible apply un_slice | with_reducible apply un_items | with_reducible apply un_range1 | with_reducible apply un_range2 | with_reducible apply un_comp | with_reducible apply us_seq | with_reducible apply us_set | with_reducible apply us_ret | with_reducible apply us_expr | with_reducible apply us_if | with_reducible apply us_for | with_reducible apply us_while | with_reducible apply us_mut | with_reducible apply us_try | with_reducible apply us_setall | with_reducible apply us_unp))
theorem um__law_says : UnM m__law_says := um_run (by
  unfold b__law_says
  repeat' (first | with_reducible exact un_var _ | with_reducible exact un_c _ | with_reducible exact un_nil | with_reducible exact un_xnil | with_reducible exact un_tt | with_reducible exact un_ono | with_reducible exact us_skip | with_reducible exact us_retN | with_reducible exact us_raise | with_reducible exact us_bk | with_reducible exact us_ct | with_reducible apply un_cons | with_reducible apply un_xcons | with_reducible apply un_bin | with_reducible apply un_un | with_reducible apply un_cb | with_reducible apply un_mt | with_reducible apply un_tup | with_reducible apply un_lst | with_reducible apply un_calls | with_reducible apply un_call0 | with_reducible apply un_and | with_reducible apply un_or | with_reducible apply un_not | with_reducible apply un_if | with_reducible apply un_chain | with_reducible apply un_eF | with_reducible apply un_xV | with_reducible apply un_tof | with_reducible apply un_tru | with_reducible apply un_tnot | with_reducible apply un_tand | with_reducible apply un_tor | with_reducible apply un_oat | with_reducible apply un_slice | with_reducible apply un_items | with_reducible apply un_range1 | with_reducible apply un_range2 | with_reducible apply un_comp | with_reducible apply us_seq | with_reducible apply us_set | with_reducible apply us_ret | with_reducible apply us_expr | with_reducible apply us_if | with_reducible apply us_for | with_reducible apply us_while | with_reducible apply us_mut | with_reducible apply us_try | with_reducible apply us_setall | with_reducible apply us_unp))

def g0 : G := ⟨[], 0, 0, 0⟩
def arrL : List D := match c_ARROWS with | .tup ds => ds | _ => []
def jntL : List D := match c_JOINT_ARROWS with | .tup ds => ds | _ => []
def wdL : List D := match c_WORDS with | .tup ds => ds | _ => []
def wd (i : Nat) : D := wdL.getD i .non
/-- the steps by the words' places: premises, what follows -/
def stps : List (List Nat × Nat) := (arrL ++ jntL).map fun d => match d with
  | .tup ds => let ix := ds.map fun d => (wdL.findIdx? (beqD d)).getD 99; (ix.dropLast, ix.getLastD 99)
  | _ => ([], 99)
def sD (s : List Nat × Nat) : D := .tup ((s.1 ++ [s.2]).map wd)
theorem stps_eq : arrL ++ jntL = stps.map sD := beqDs_eq _ _ (by decide +kernel)
theorem wdL_eq : wdL = (List.range 14).map wd := beqDs_eq _ _ (by decide +kernel)
def optB (o : Option D) (d : D) : Bool := match o with | some a => beqD a d | _ => false
theorem optB_eq {o : Option D} {d : D} (h : optB o d = true) : o = some d := by
  unfold optB at h
  split at h
  · rw [beqD_eq _ _ h]
  · cases h
def optV (o : Option Fv) (d : D) : Bool := match o with | some (.v a) => beqD a d | _ => false
theorem optV_eq {o : Option Fv} {d : D} (h : optV o d = true) : o = some (.v d) := by
  unfold optV at h
  split at h
  · rw [beqD_eq _ _ h]
  · cases h
structure OkS (s : List Nat × Nat) : Prop where
  lt : s.2 < 14
  ps : ∀ i ∈ s.1, i < 14
  last : idxD (sD s) (.int (-1)) = some (wd s.2)
  pre : sliceD (sD s) none (some (-1)) = some (.v (.tup (s.1.map wd)))
  sh : Sh 1 (sD s)
  nol : (sD s).nol = true
def okS (s : List Nat × Nat) : Bool := decide (s.2 < 14) && s.1.all (fun i => decide (i < 14)) && optB (idxD (sD s) (.int (-1))) (wd s.2) && optV (sliceD (sD s) none (some (-1))) (.tup (s.1.map wd)) && decide (Sh 1 (sD s)) && (sD s).nol
theorem stps_ok : ∀ s ∈ stps, OkS s := by
  have h : stps.all okS = true := by decide +kernel
  intro s hs
  have := List.all_eq_true.mp h s hs
  simp only [okS, Bool.and_eq_true, decide_eq_true_eq, List.all_eq_true] at this
  obtain ⟨⟨⟨⟨⟨h1, h2⟩, h3⟩, h4⟩, h5⟩, h6⟩ := this
  exact ⟨h1, h2, optB_eq h3, optV_eq h4, h5, h6⟩
theorem wd_sh : ∀ i < 14, Sh 0 (wd i) := by decide +kernel
theorem wd_nol : ∀ i < 14, (wd i).nol = true := by decide +kernel
theorem wd_eqv : ∀ i < 14, ∀ j < 14, PyData.eqv (wd i).py (wd j).py = (i == j) := by decide +kernel
theorem wd_str : ∀ i < 14, isiD "str" (wd i) = some (.bl true) := by
  have : ∀ i < 14, optB (isiD "str" (wd i)) (.bl true) = true := by decide +kernel
  exact fun i h => optB_eq (this i h)
def All14 (F : List Nat) : Prop := ∀ i ∈ F, i < 14
theorem sh_map {F : List Nat} (h : All14 F) : ∀ d ∈ F.map wd, Sh 0 d := fun d hd => by
  obtain ⟨i, hi, rfl⟩ := List.mem_map.mp hd
  exact wd_sh i (h i hi)
theorem any_map {F : List Nat} (h : All14 F) {w : Nat} (hw : w < 14) : ((F.map wd).any fun z => PyData.eqv z.py (wd w).py) = F.contains w := by
  induction F with
  | nil => rfl
  | cons x F ih =>
    rw [List.map_cons, List.any_cons, ih fun i hi => h i (List.mem_cons_of_mem _ hi), wd_eqv x (h x List.mem_cons_self) w hw, List.contains_cons]
    congr 1
    exact Bool.beq_comm
theorem in_lst {F : List Nat} (h : All14 F) {w : Nat} (hw : w < 14) : inB (wd w) (.lst (F.map wd)) = some (F.contains w) := by
  unfold inB
  dsimp only
  rw [if_pos ⟨(wd_sh w hw).ok (by omega), (sh_lst (sh_map h)).ok (by omega)⟩, any_map h hw]
theorem in_tup {F : List Nat} (h : All14 F) {w : Nat} (hw : w < 14) : inB (wd w) (.tup (F.map wd)) = some (F.contains w) := by
  unfold inB
  dsimp only
  rw [if_pos ⟨(wd_sh w hw).ok (by omega), (sh_tup (sh_map h)).ok (by omega)⟩, any_map h hw]
theorem eq_wd {i j : Nat} (hi : i < 14) (hj : j < 14) : eqD (wd i) (wd j) = some (.bl (i == j)) := by
  unfold eqD
  rw [if_pos ⟨(wd_sh i hi).ok (by omega), (wd_sh j hj).ok (by omega)⟩, wd_eqv i hi j hj]
/-! ways_to -/
def fits (F : List Nat) (w : Nat) (s : List Nat × Nat) : Bool := s.2 == w && s.1.all F.contains
theorem all_run {F ps : List Nat} (h : All14 F) (hp : All14 ps) {it : ET} {own : Nat} {k : Nat} {S : DSt} {g : G} (hit : it S g = .ok (.tup (ps.map wd)) g) (hS : ∀ x, ((wipeD S [own]).set own (some x))[own]? = some (some x)) (hk : ∀ x, ((wipeD S [own]).set own (some x))[k]? = some (some (.lst (F.map wd)))) :
    tTru (dCB allD (aCons (eF (xComp [own] (.nm own) (iItems it) tTrue (dBin inD (eVar own) (eVar k)))) aNil)) S g = .ok (ps.all F.contains) g := by
  have hc : compL [own] (.nm own) tTrue (dBin inD (eVar own) (eVar k)) S (ps.map wd) g = .ok (ps.map fun i => .bl (F.contains i)) g := by
    rw [compL_map wd (fun _ => true) (fun i => .bl (F.contains i)) (xs := ps) fun i hi => ⟨_, rfl, rfl, fun _ => by
      unfold dBin eVar
      rw [hS, hk]
      simp only [R.bind_ok, inD, in_lst h (hp i hi), Option.map_some, lift_some, id]⟩, List.filter_eq_self.mpr fun _ _ => rfl]
  simp only [tTru, dCB, aCons, aNil, eF, xComp, iItems, hit, R.bind_ok, itemsD, lift_some, hc, R.map_ok, Fv.d, allD, bools_map, Option.map_some, truD, List.all_map]
  rfl
theorem ways_run {F : List Nat} (h : All14 F) {w : Nat} (hw : w < 14) (g : G) : m_ways_to [.lst (F.map wd), wd w] g = .ok (match stps.find? (fits F w) with | some s => sD s | none => .non) g := by
  have body : ∀ s (S : SS), OkS s → (∃ x, S = [some (.val (.lst (F.map wd))), some (.val (wd w)), x, none]) → ∃ S1, setS (.nm 2) (sD s) S = some S1 ∧ ((fits F w s = true ∧ b_ways_to_1 S1 g = .ret (sD s) g) ∨ (fits F w s = false ∧ ∃ S2, b_ways_to_1 S1 g = .nx S2 g ∧ ∃ x, S2 = [some (.val (.lst (F.map wd))), some (.val (wd w)), x, none])) := by
    rintro s S hs ⟨x, rfl⟩
    refine ⟨_, rfl, ?_⟩
    have e1 := eq_wd hs.lt hw
    have e2 := all_run (it := eF (xSlice (eVar 2) oNo (oAt (dUn negD (eC (.int 1)))))) (own := 3) (k := 0) (S := view [some (.val (.lst (F.map wd))), some (.val (wd w)), some (.val (sD s)), none]) (g := g) h hs.ps (by
      simp [eF, xSlice, eVar, view, SV.d, oNo, oAt, dUn, eC, negD, hs.pre, Fv.d]) (fun x => rfl) (fun x => rfl)
    have ec : (tAndD (tOf (dBin eqD (dBin idxD (eVar 2) (dUn negD (eC (.int 1)))) (eVar 1))) (tTru (dCB allD (aCons (eF (xComp [3] (.nm 3) (iItems (eF (xSlice (eVar 2) oNo (oAt (dUn negD (eC (.int 1))))))) tTrue (dBin inD (eVar 3) (eVar 0)))) aNil)))) (view [some (.val (.lst (F.map wd))), some (.val (wd w)), some (.val (sD s)), none]) g = .ok (fits F w s) g := by
      unfold tAndD
      have e0 : tOf (dBin eqD (dBin idxD (eVar 2) (dUn negD (eC (.int 1)))) (eVar 1)) (view [some (.val (.lst (F.map wd))), some (.val (wd w)), some (.val (sD s)), none]) g = .ok (s.2 == w) g := by
        simp [tOf, dBin, eVar, view, SV.d, dUn, eC, negD, hs.last, e1]
      rw [e0, R.bind_ok]
      unfold fits
      cases hb : (s.2 == w) with
      | true => rw [if_pos rfl, e2]; rfl
      | false => rw [if_neg (by decide)]; rfl
    show (fits F w s = true ∧ sIf _ _ _ _ _ g = _) ∨ (fits F w s = false ∧ ∃ S2, sIf _ _ _ _ _ g = _ ∧ _)
    unfold sIf
    rw [show ([some (SV.val (.lst (F.map wd))), some (.val (wd w)), x, none] : SS).set 2 (some (.val (sD s))) = [some (.val (.lst (F.map wd))), some (.val (wd w)), some (.val (sD s)), none] from rfl, ec]
    cases hf : fits F w s with
    | true => exact .inl ⟨rfl, rfl⟩
    | false => exact .inr ⟨rfl, _, rfl, _, rfl⟩
  have hb := forL_find (tg := .nm 2) (body := b_ways_to_1) sD (fits F w) sD (fun S => ∃ x, S = [some (.val (.lst (F.map wd))), some (.val (wd w)), x, none]) OkS body stps [some (.val (.lst (F.map wd))), some (.val (wd w)), none, none] stps_ok ⟨none, rfl⟩
  have hit : iItems (eF (dBin addD (eC c_ARROWS) (eC c_JOINT_ARROWS))) (view [some (.val (.lst (F.map wd))), some (.val (wd w)), none, none]) g = .ok (stps.map sD) g := by
    rw [← stps_eq]; rfl
  refine (runD_at (n := 2) rfl).trans ?_
  show outR (sSeq (sFor true (.nm 2) ([] ++ []) (iItems (eF (dBin addD (eC c_ARROWS) (eC c_JOINT_ARROWS)))) b_ways_to_1) (sRet [] (eC .non)) [some (.val (.lst (F.map wd))), some (.val (wd w)), none, none] g) = _
  unfold sSeq sFor
  rw [hit]
  simp only [if_true, List.append_nil, frzB_nil]
  rcases hb with ⟨s, h1, h2⟩ | ⟨h1, S', h2, h3⟩
  · rw [h2, h1]; rfl
  · rw [h2, h1]; rfl
/-! derived -/
def stepW (a : List Nat × Bool) (w : Nat) : Option (List Nat × Bool) := if !a.1.contains w && (stps.find? (fits a.1 w)).isSome then (if a.1.length < 1000 then some (a.1 ++ [w], true) else none) else some a
def passW (F : List Nat) : Option (List Nat × Bool) := (List.range 14).foldlM stepW (F, false)
def iterW : Nat → List Nat → Option (List Nat)
  | 0, _ => none
  | n + 1, F => match passW F with
    | some (F', true) => iterW n F'
    | some (F', false) => some F'
    | none => none
/-- the slots of derived -/
def RlW (t0 : D) (a : List Nat × Bool) (S : SS) : Prop := All14 a.1 ∧ ∃ st x y, st.length ≤ a.1.length ∧ nolAll st = true ∧ S = [some (.val t0), some (.own (a.1.map wd)), some (.own st), some (.val (.bl a.2)), x, y]
theorem nolAll_map {F : List Nat} (h : All14 F) : nolAll (F.map wd) = true := by
  induction F with
  | nil => rfl
  | cons x F ih =>
    rw [List.map_cons]
    simp only [nolAll, Bool.and_eq_true]
    exact ⟨wd_nol x (h x List.mem_cons_self), ih fun i hi => h i (List.mem_cons_of_mem _ hi)⟩
theorem nolAll_app {a b : List D} (h1 : nolAll a = true) (h2 : nolAll b = true) : nolAll (a ++ b) = true := by
  induction a with
  | nil => exact h2
  | cons x a ih =>
    simp only [nolAll, Bool.and_eq_true, List.cons_append] at h1 ⊢
    exact ⟨h1.1, ih h1.2⟩
theorem derived_step {t0 : D} (g : G) (w : Nat) (a a' : List Nat × Bool) (S : SS) (hw : w < 14) (e : stepW a w = some a') (r : RlW t0 a S) : ∃ S1 S2, setS (.nm 4) (wd w) S = some S1 ∧ b_derived_1 S1 g = .nx S2 g ∧ RlW t0 a' S2 := by
  obtain ⟨h, st, x, y, hl, hn, rfl⟩ := r
  refine ⟨[some (.val t0), some (.own (a.1.map wd)), some (.own st), some (.val (.bl a.2)), some (.val (wd w)), y], ?_⟩
  refine Exists.imp (fun S2 hh => ⟨rfl, hh⟩) ?_
  show ∃ S2, b_derived_1 [some (.val t0), some (.own (a.1.map wd)), some (.own st), some (.val (.bl a.2)), some (.val (wd w)), y] g = .nx S2 g ∧ _
  have ew := ways_run h hw g
  generalize hz : (match stps.find? (fits a.1 w) with | some s => sD s | none => D.non) = z at ew
  have zn : z.nol = true := by
    subst hz
    cases hf : stps.find? (fits a.1 w) with
    | none => rfl
    | some s => exact (stps_ok s (List.mem_of_find?_eq_some hf)).nol
  have e5 : sSet 5 ([1] ++ ([4] ++ [])) (xV (eCalls 2 m_ways_to (aCons (eVar 1) (aCons (eVar 4) aNil)))) [some (.val t0), some (.own (a.1.map wd)), some (.own st), some (.val (.bl a.2)), some (.val (wd w)), y] g = .nx [some (.val t0), some (.own (a.1.map wd)), some (.own st), some (.val (.bl a.2)), some (.val (wd w)), some (.val z)] g := by
    unfold sSet
    have : xV (eCalls 2 m_ways_to (aCons (eVar 1) (aCons (eVar 4) aNil))) (view [some (.val t0), some (.own (a.1.map wd)), some (.own st), some (.val (.bl a.2)), some (.val (wd w)), y]) g = .ok (.v z) g := by
      show ((if (2 : Nat) = 2 then m_ways_to [.lst (a.1.map wd), wd w] g else .bad) : R D).map Fv.v = _
      rw [if_pos rfl, ew]
      rfl
    rw [this]
    simp only [post, Fv.nol, zn, if_true]
    rfl
  have ec : tAndD (tOf (dBin notInD (eVar 4) (eVar 1))) (tOf (dBin notND (eVar 5) (eC .non))) (view [some (.val t0), some (.own (a.1.map wd)), some (.own st), some (.val (.bl a.2)), some (.val (wd w)), some (.val z)]) g = .ok (!a.1.contains w && (stps.find? (fits a.1 w)).isSome) g := by
    have e1 : tOf (dBin notInD (eVar 4) (eVar 1)) (view [some (.val t0), some (.own (a.1.map wd)), some (.own st), some (.val (.bl a.2)), some (.val (wd w)), some (.val z)]) g = .ok (!a.1.contains w) g := by
      show (lift (notInD (wd w) (.lst (a.1.map wd))) g : R D).bind _ = _
      unfold notInD
      rw [in_lst h hw]
      rfl
    have e2 : tOf (dBin notND (eVar 5) (eC .non)) (view [some (.val t0), some (.own (a.1.map wd)), some (.own st), some (.val (.bl a.2)), some (.val (wd w)), some (.val z)]) g = .ok (stps.find? (fits a.1 w)).isSome g := by
      show (lift (notND z .non) g : R D).bind _ = _
      subst hz
      cases stps.find? (fits a.1 w) <;> rfl
    unfold tAndD
    rw [e1, R.bind_ok]
    cases (!a.1.contains w) with
    | true => rw [if_pos rfl, e2]; rfl
    | false => rw [if_neg (by decide)]; rfl
  show ∃ S2, sSeq (sSet 5 ([1] ++ ([4] ++ [])) (xV (eCalls 2 m_ways_to (aCons (eVar 1) (aCons (eVar 4) aNil))))) _ _ g = _ ∧ _
  unfold sSeq
  rw [e5]
  dsimp only
  show ∃ S2, sIf _ _ _ _ _ g = _ ∧ _
  unfold sIf
  rw [ec]
  unfold stepW at e
  cases hc : (!a.1.contains w && (stps.find? (fits a.1 w)).isSome) with
  | false =>
    rw [hc, if_neg (by decide)] at e
    cases e
    exact ⟨_, rfl, h, st, _, _, hl, hn, rfl⟩
  | true =>
    rw [hc, if_pos rfl] at e
    split at e
    · rename_i hlt
      cases e
      dsimp only
      have l1 : (a.1.map wd).length < sizeLine := by rw [List.length_map]; exact small1000 (by omega)
      have l2 : st.length < sizeLine := small1000 (by omega)
      have m1 : sMut 1 [4] (eVar 4) appD [some (.val t0), some (.own (a.1.map wd)), some (.own st), some (.val (.bl a.2)), some (.val (wd w)), some (.val z)] g = .nx [some (.val t0), some (.own ((a.1 ++ [w]).map wd)), some (.own st), some (.val (.bl a.2)), some (.val (wd w)), some (.val z)] g := by
        exact (sMut_ok (d := wd w) rfl (wd_nol w hw) rfl (appD_ok l1)).trans (by rw [List.map_append]; rfl)
      have m2 : sMut 2 [5] (eVar 5) appD [some (.val t0), some (.own ((a.1 ++ [w]).map wd)), some (.own st), some (.val (.bl a.2)), some (.val (wd w)), some (.val z)] g = .nx [some (.val t0), some (.own ((a.1 ++ [w]).map wd)), some (.own (st ++ [z])), some (.val (.bl a.2)), some (.val (wd w)), some (.val z)] g := by
        exact (sMut_ok (d := z) rfl zn rfl (appD_ok l2)).trans rfl
      rw [m1]
      dsimp only
      rw [m2]
      dsimp only
      refine ⟨_, rfl, ?_, st ++ [z], _, _, ?_, nolAll_app hn (by simp [nolAll, zn]), rfl⟩
      · intro i hi
        rcases List.mem_append.mp hi with hi | hi
        · exact h i hi
        · rw [List.mem_singleton.mp hi]; exact hw
      · rw [List.length_append, List.length_append]
        exact Nat.succ_le_succ hl
    · cases e
theorem cW : itemsD c_WORDS = some ((List.range 14).map wd) := by rw [← wdL_eq]; rfl
theorem pass_run {t0 : D} (g : G) {F : List Nat} {b : Bool} {a' : List Nat × Bool} {S : SS} (e : passW F = some a') (r : RlW t0 (F, b) S) : ∃ S2, b_derived_2 S g = .nx S2 g ∧ RlW t0 a' S2 := by
  obtain ⟨h, st, x, y, hl, hn, rfl⟩ := r
  have e1 : sSet 3 [] (xV (eC (.bl false))) [some (.val t0), some (.own (F.map wd)), some (.own st), some (.val (.bl b)), x, y] g = .nx [some (.val t0), some (.own (F.map wd)), some (.own st), some (.val (.bl false)), x, y] g := sSet_nol (f := .v (.bl false)) rfl rfl
  obtain ⟨S2, h1, h2⟩ := forL_foldM (tg := .nm 4) (body := b_derived_1) wd stepW (RlW t0) (g := g) (fun w => w < 14) (fun w a a' S hw e r => derived_step g w a a' S hw e r) (List.range 14) (F, false) a' [some (.val t0), some (.own (F.map wd)), some (.own st), some (.val (.bl false)), x, y] (fun w hw => List.mem_range.mp hw) e ⟨h, st, x, y, hl, hn, rfl⟩
  refine ⟨S2, ?_, h2⟩
  refine (sSeq_nx e1).trans ?_
  unfold sFor
  have : iItems (eC c_WORDS) (view [some (.val t0), some (.own (F.map wd)), some (.own st), some (.val (.bl false)), x, y]) g = .ok ((List.range 14).map wd) g := by
    show lift (itemsD c_WORDS) g = _
    rw [cW]; rfl
  rw [this]
  simp only [if_true, frzB_nil]
  exact h1
theorem while_run {t0 : D} (g : G) : ∀ (n : Nat) (F F' : List Nat) (S : SS), iterW n F = some F' → RlW t0 (F, true) S → ∃ S', whileL [3] (tTru (eVar 3)) b_derived_2 (n + 1) S g = .nx S' g ∧ RlW t0 (F', false) S'
  | 0, F, F', S, e, _ => by cases e
  | n + 1, F, F', S, e, r => by
    unfold iterW at e
    cases hp : passW F with
    | none => rw [hp] at e; cases e
    | some a =>
      obtain ⟨F1, more⟩ := a
      rw [hp] at e
      obtain ⟨S2, h1, h2⟩ := pass_run g hp r
      have hc : tTru (eVar 3) (view S) g = .ok true g := by
        obtain ⟨_, st, x, y, _, _, rfl⟩ := r
        rfl
      unfold whileL
      rw [hc]
      dsimp only
      rw [h1]
      dsimp only
      cases more with
      | true => exact while_run g n F1 F' S2 e h2
      | false =>
        cases e
        refine ⟨S2, ?_, h2⟩
        have hc2 : tTru (eVar 3) (view S2) g = .ok false g := by
          obtain ⟨_, st, x, y, _, _, rfl⟩ := h2
          rfl
        unfold whileL
        rw [hc2]
theorem derived_run {ws F : List Nat} (h : All14 ws) (e : iterW 99 ws = some F) (g : G) : All14 F ∧ ∃ st, m_derived [.tup (ws.map wd)] g = .ok (.tup [.lst (F.map wd), .lst st]) g := by
  have e1 : sSetAll [1, 2, 3] (([0] ++ []) ++ ([] ++ ([] ++ []))) (axCons (dCB lstOfD (aCons (eVar 0) aNil)) (axCons (xLst aNil) (axCons (xV (eC (.bl true))) axNil))) [some (.val (.tup (ws.map wd))), none, none, none, none, none] g = .nx [some (.val (.tup (ws.map wd))), some (.own (ws.map wd)), some (.own []), some (.val (.bl true)), none, none] g := by
    unfold sSetAll
    have : axCons (dCB lstOfD (aCons (eVar 0) aNil)) (axCons (xLst aNil) (axCons (xV (eC (.bl true))) axNil)) (view [some (.val (.tup (ws.map wd))), none, none, none, none, none]) g = .ok [.f (ws.map wd), .f [], .v (.bl true)] g := by
      simp [axCons, axNil, dCB, aCons, aNil, eVar, view, SV.d, lstOfD, xLst, xV, eC]
    rw [this]
    have hn : nolF [.f (ws.map wd), .f [], .v (.bl true)] = true := by simp [nolF, Fv.nol, nolAll_map h, nolAll, D.nol]
    simp only [hn, if_true, List.length_cons, List.length_nil]
    rfl
  obtain ⟨S2, h1, hA, st, x, y, hl, hn, rfl⟩ := while_run (t0 := .tup (ws.map wd)) g 99 ws F [some (.val (.tup (ws.map wd))), some (.own (ws.map wd)), some (.own []), some (.val (.bl true)), none, none] e ⟨h, [], none, none, Nat.zero_le _, rfl, rfl⟩
  refine ⟨hA, st, ?_⟩
  refine (runD_at (n := 1) rfl).trans ?_
  have : b_derived (startD 6 [.tup (ws.map wd)]) g = .ret (.tup [.lst (F.map wd), .lst st]) g := by
    refine (sSeq_nx e1).trans ((sSeq_nx h1).trans ?_)
    rfl
  rw [this]
  rfl
/-! all_forced, does_force -/
theorem ret_ok {B : List Nat} {t : ET} {S : SS} {g g' : G} {d : D} (h : t (view S) g = .ok d g') : sRet B t S g = .ret d g' := by unfold sRet; rw [h]
theorem ck_word {w : Nat} (hw : w < 14) (g : G) : m_check_word [wd w] g = .ok .non g := by
  have h : ∀ w < 14, isD (m_check_word [wd w] g0) .non = true := by decide +kernel
  exact (um_check_word _).isD (h w hw) g
theorem filter_run {F : List Nat} (h : All14 F) {own k : Nat} {it : DSt → G → R (List D)} {S : DSt} {g : G} (hit : it S g = .ok ((List.range 14).map wd) g) (hS : ∀ x, ((wipeD S [own]).set own (some x))[own]? = some (some x)) (hk : ∀ x, ((wipeD S [own]).set own (some x))[k]? = some (some (.lst (F.map wd)))) :
    dCB tupOfD (aCons (eF (xComp [own] (.nm own) it (tOf (dBin inD (eVar own) (eVar k))) (eVar own))) aNil) S g = .ok (.tup (((List.range 14).filter F.contains).map wd)) g := by
  have hc : compL [own] (.nm own) (tOf (dBin inD (eVar own) (eVar k))) (eVar own) S ((List.range 14).map wd) g = .ok (((List.range 14).filter F.contains).map wd) g := by
    refine compL_map wd F.contains wd fun i hi => ⟨_, rfl, ?_, fun _ => ?_⟩
    · unfold tOf dBin eVar
      rw [hS, hk]
      simp only [R.bind_ok, inD, in_lst h (List.mem_range.mp hi), Option.map_some, lift_some, id]
    · unfold eVar
      rw [hS]
      rfl
  simp only [dCB, aCons, aNil, eF, xComp, hit, R.bind_ok, hc, R.map_ok, Fv.d, tupOfD, lift_some]
def forcedW (F : List Nat) : List Nat := (List.range 14).filter F.contains
theorem forced14 (F : List Nat) : All14 (forcedW F) := fun i hi => List.mem_range.mp (List.mem_filter.mp hi).1
theorem forced_run {ws F : List Nat} (h : All14 ws) (hl : ws.length = 1 ∨ ws.length = 2) (e : iterW 99 ws = some F) (g : G) : m_all_forced [.tup (ws.map wd)] g = .ok (.tup ((forcedW F).map wd)) g := by
  obtain ⟨hF, st, hd⟩ := derived_run h e g
  have ck : m_check_words [.tup (ws.map wd)] g = .ok .non g := by
    have body : ∀ w (S : SS), w < 14 → (∃ x, S = [some (.val (.tup (ws.map wd))), x]) → ∃ S1 S2, setS (.nm 1) (wd w) S = some S1 ∧ sExpr ([1] ++ []) (eCalls 1 m_check_word (aCons (eVar 1) aNil)) S1 g = .nx S2 g ∧ ∃ x, S2 = [some (.val (.tup (ws.map wd))), x] := by
      rintro w S hw ⟨x, rfl⟩
      refine ⟨_, [some (.val (.tup (ws.map wd))), some (.val (wd w))], rfl, ?_, _, rfl⟩
      unfold sExpr
      have : eCalls 1 m_check_word (aCons (eVar 1) aNil) (view ([some (.val (.tup (ws.map wd))), x].set 1 (some (.val (wd w))))) g = .ok .non g := by
        show (if (1 : Nat) = 1 then m_check_word [wd w] g else .bad) = _
        rw [if_pos rfl, ck_word hw]
      rw [this]
      rfl
    obtain ⟨S', h1, _⟩ := forL_foldM (tg := .nm 1) (body := b_check_words_1) (σ := Unit) wd (fun _ _ => some ()) (fun _ S => ∃ x, S = [some (.val (.tup (ws.map wd))), x]) (g := g) (fun w => w < 14) (fun w a a' S hw _ r => body w S hw r) ws () () [some (.val (.tup (ws.map wd))), none] h (fold_unit ws) ⟨none, rfl⟩
    refine (runD_at (n := 1) rfl).trans ?_
    have : b_check_words (startD 2 [.tup (ws.map wd)]) g = .nx S' g := by
      refine (sSeq_nx (S1 := [some (.val (.tup (ws.map wd))), none]) (g1 := g) ?_).trans ?_
      · refine (sIf_f (g1 := g) ?_).trans rfl
        have e1 : tNotD (tTru (dUn (isiD "tuple") (eVar 0))) (view (startD 2 [.tup (ws.map wd)])) g = .ok false g := rfl
        have e2 : tNotD (tOf (eChain (ltI fun i j => decide (i ≤ j)) (ltI fun i j => decide (i ≤ j)) (eC (.int 1)) (dCB lenD (aCons (eVar 0) aNil)) (eC (.int 2)))) (view (startD 2 [.tup (ws.map wd)])) g = .ok false g := by
          have hlen : ((ws.map wd).length : Int) = 1 ∨ ((ws.map wd).length : Int) = 2 := by rw [List.length_map]; omega
          unfold tNotD tOf eChain
          have : dCB lenD (aCons (eVar 0) aNil) (view (startD 2 [.tup (ws.map wd)])) g = .ok (.int ((ws.map wd).length : Int)) g := rfl
          simp only [eC, R.bind_ok, this]
          rcases hlen with hh | hh <;> rw [hh] <;> rfl
        unfold tOrD
        rw [e1, R.bind_ok, if_neg (by decide)]
        exact e2
      · unfold sFor
        have : iItems (eVar 0) (view [some (.val (.tup (ws.map wd))), none]) g = .ok (ws.map wd) g := rfl
        rw [this]
        exact h1
    rw [this]
    rfl
  refine (runD_at (n := 1) rfl).trans ?_
  have : b_all_forced (startD 3 [.tup (ws.map wd)]) g = .ret (.tup ((forcedW F).map wd)) g := by
    refine (sSeq_nx (S1 := [some (.val (.tup (ws.map wd))), none, none]) (g1 := g) ?_).trans ?_
    · unfold sExpr
      have : eCalls 1 m_check_words (aCons (eVar 0) aNil) (view (startD 3 [.tup (ws.map wd)])) g = .ok .non g := by
        show (if (1 : Nat) = 1 then m_check_words [.tup (ws.map wd)] g else .bad) = _
        rw [if_pos rfl, ck]
      rw [this]
      rfl
    · refine (sSeq_nx (S1 := [some (.val (.tup (ws.map wd))), some (.val (.lst (F.map wd))), none]) (g1 := g) ?_).trans ?_
      · unfold sSet
        have : xV (dBin idxD (eCalls 1 m_derived (aCons (eVar 0) aNil)) (eC (.int 0))) (view [some (.val (.tup (ws.map wd))), none, none]) g = .ok (.v (.lst (F.map wd))) g := by
          show (((if (1 : Nat) = 1 then m_derived [.tup (ws.map wd)] g else .bad) : R D).bind _).map Fv.v = _
          rw [if_pos rfl, hd]
          rfl
        rw [this]
        rfl
      · refine ret_ok ?_
        exact filter_run hF (own := 2) (k := 1) (by show lift (itemsD c_WORDS) g = _; rw [cW]; rfl) (fun x => rfl) (fun x => rfl)
  rw [this]
  rfl
theorem does_run {ws F : List Nat} (h : All14 ws) (hl : ws.length = 1 ∨ ws.length = 2) (e : iterW 99 ws = some F) {w : Nat} (hw : w < 14) (g : G) : m_does_force [.tup (ws.map wd), wd w] g = .ok (.bl ((forcedW F).contains w)) g := by
  refine (runD_at (n := 2) rfl).trans ?_
  have : b_does_force (startD 2 [.tup (ws.map wd), wd w]) g = .ret (.bl ((forcedW F).contains w)) g := by
    refine (sSeq_nx (S1 := startD 2 [.tup (ws.map wd), wd w]) (g1 := g) ?_).trans (ret_ok ?_)
    · unfold sExpr
      have : eCalls 1 m_check_word (aCons (eVar 1) aNil) (view (startD 2 [.tup (ws.map wd), wd w])) g = .ok .non g := by
        show (if (1 : Nat) = 1 then m_check_word [wd w] g else .bad) = _
        rw [if_pos rfl, ck_word hw]
      rw [this]
      rfl
    · show (((if (1 : Nat) = 1 then m_all_forced [.tup (ws.map wd)] g else .bad) : R D).bind fun b g2 => lift (inD (wd w) b) g2) = _
      rw [if_pos rfl, forced_run h hl e, R.bind_ok]
      unfold inD
      rw [in_tup (forced14 F) hw]
      rfl
  rw [this]
  rfl
theorem ask0_run {ws F : List Nat} (h : All14 ws) (hl : ws.length = 1 ∨ ws.length = 2) (e : iterW 99 ws = some F) (z : D) (g : G) : m__law_ask [.int 0, .tup (ws.map wd), z] g = .ok (.tup ((forcedW F).map wd)) g := by
  refine (runD_at (n := 3) rfl).trans ?_
  have : b__law_ask (startD 3 [.int 0, .tup (ws.map wd), z]) g = .ret (.tup ((forcedW F).map wd)) g := by
    unfold b__law_ask sTry
    rw [ret_ok (d := .tup ((forcedW F).map wd)) (g' := g)]
    show ((if (1 : Nat) = 1 then m_all_forced [.tup (ws.map wd)] g else .bad) : R D) = _
    rw [if_pos rfl, forced_run h hl e]
  rw [this]
  rfl
theorem ask1_run {ws F : List Nat} (h : All14 ws) (hl : ws.length = 1 ∨ ws.length = 2) (e : iterW 99 ws = some F) {w : Nat} (hw : w < 14) (g : G) : m__law_ask [.int 1, .tup (ws.map wd), wd w] g = .ok (.bl ((forcedW F).contains w)) g := by
  refine (runD_at (n := 3) rfl).trans ?_
  have : b__law_ask (startD 3 [.int 1, .tup (ws.map wd), wd w]) g = .ret (.bl ((forcedW F).contains w)) g := by
    unfold b__law_ask sTry
    rw [ret_ok (d := .bl ((forcedW F).contains w)) (g' := g)]
    show ((if (2 : Nat) = 2 then m_does_force [.tup (ws.map wd), wd w] g else .bad) : R D) = _
    rw [if_pos rfl, does_run h hl e hw]
  rw [this]
  rfl
/-! the law's own going on -/
def stepL (F : List Nat) (s : List Nat × Nat) : Option (List Nat) := if !F.contains s.2 && s.1.all F.contains then (if F.length < 1000 then some (F ++ [s.2]) else none) else some F
def turnL (F : List Nat) : Option (List Nat) := stps.foldlM stepL F
def ledW (ws : List Nat) : Option (List Nat) := (List.range 20).foldlM (fun F _ => turnL F) ws
def RlL (t0 : D) (F : List Nat) (S : SS) : Prop := All14 F ∧ ∃ x y, S = [some (.val t0), some (.own (F.map wd)), x, y, none]
theorem ar0 : isD (m__law_arrows [] g0) (.lst arrL) = true := by decide +kernel
theorem jn0 : isD (m__law_joint [] g0) (.lst jntL) = true := by decide +kernel
theorem wr0 : isD (m__law_words [] g0) (.lst wdL) = true := by decide +kernel
theorem ar1 (g : G) : m__law_arrows [] g = .ok (.lst arrL) g := (um__law_arrows []).isD ar0 g
theorem jn1 (g : G) : m__law_joint [] g = .ok (.lst jntL) g := (um__law_joint []).isD jn0 g
theorem wr1 (g : G) : m__law_words [] g = .ok (.lst wdL) g := (um__law_words []).isD wr0 g
theorem led_step {t0 : D} (g : G) (s : List Nat × Nat) (F F' : List Nat) (S : SS) (hs : OkS s) (e : stepL F s = some F') (r : RlL t0 F S) : ∃ S1 S2, setS (.nm 3) (sD s) S = some S1 ∧ b__law_led_1 S1 g = .nx S2 g ∧ RlL t0 F' S2 := by
  obtain ⟨h, x, y, rfl⟩ := r
  refine ⟨[some (.val t0), some (.own (F.map wd)), x, some (.val (sD s)), none], ?_⟩
  refine Exists.imp (fun S2 hh => ⟨rfl, hh⟩) ?_
  have e0 : tOf (dBin notInD (dBin idxD (eVar 3) (dUn negD (eC (.int 1)))) (eVar 1)) (view [some (.val t0), some (.own (F.map wd)), x, some (.val (sD s)), none]) g = .ok (!F.contains s.2) g := by
    show (((lift (idxD (sD s) (.int (-1))) g : R D).bind fun a g1 => lift (notInD a (.lst (F.map wd))) g1).bind _ : R Bool) = _
    rw [hs.last]
    unfold notInD
    rw [lift_some, R.bind_ok, in_lst h hs.lt]
    rfl
  have e2 := all_run (it := eF (xSlice (eVar 3) oNo (oAt (dUn negD (eC (.int 1)))))) (own := 4) (k := 1) (S := view [some (.val t0), some (.own (F.map wd)), x, some (.val (sD s)), none]) (g := g) h hs.ps (by
    show ((lift (sliceD (sD s) none (some (-1))) g : R Fv).map Fv.d) = _
    rw [hs.pre]; rfl) (fun x => rfl) (fun x => rfl)
  have ec : tAndD (tOf (dBin notInD (dBin idxD (eVar 3) (dUn negD (eC (.int 1)))) (eVar 1))) (tTru (dCB allD (aCons (eF (xComp [4] (.nm 4) (iItems (eF (xSlice (eVar 3) oNo (oAt (dUn negD (eC (.int 1))))))) tTrue (dBin inD (eVar 4) (eVar 1)))) aNil))) (view [some (.val t0), some (.own (F.map wd)), x, some (.val (sD s)), none]) g = .ok (!F.contains s.2 && s.1.all F.contains) g := by
    unfold tAndD
    rw [e0, R.bind_ok]
    cases (!F.contains s.2) with
    | true => rw [if_pos rfl, e2]; rfl
    | false => rw [if_neg (by decide)]; rfl
  show ∃ S2, sIf _ _ _ _ _ g = _ ∧ _
  unfold sIf
  rw [ec]
  unfold stepL at e
  cases hc : (!F.contains s.2 && s.1.all F.contains) with
  | false =>
    rw [hc, if_neg (by decide)] at e
    cases e
    exact ⟨_, rfl, h, _, _, rfl⟩
  | true =>
    rw [hc, if_pos rfl] at e
    split at e
    · rename_i hlt
      cases e
      dsimp only
      refine ⟨_, sMut_ok (d := wd s.2) ?_ (wd_nol _ hs.lt) rfl (appD_ok (by rw [List.length_map]; exact small1000 (by omega))), ?_, x, some (.val (sD s)), ?_⟩
      · show (lift (idxD (sD s) (.int (-1))) g : R D) = _
        rw [hs.last]; rfl
      · intro i hi
        rcases List.mem_append.mp hi with hi | hi
        · exact h i hi
        · rw [List.mem_singleton.mp hi]; exact hs.lt
      · rw [List.map_append]; rfl
    · cases e
theorem turn_run {t0 : D} (g : G) (i : Nat) (F F' : List Nat) (S : SS) (e : turnL F = some F') (r : RlL t0 F S) : ∃ S1 S2, setS (.nm 2) (.int (0 + (i : Nat))) S = some S1 ∧ b__law_led_2 S1 g = .nx S2 g ∧ RlL t0 F' S2 := by
  obtain ⟨h, x, y, rfl⟩ := r
  refine ⟨[some (.val t0), some (.own (F.map wd)), some (.val (.int (0 + (i : Nat)))), y, none], ?_⟩
  refine Exists.imp (fun S2 hh => ⟨rfl, hh⟩) ?_
  obtain ⟨S2, h1, h2⟩ := forL_foldM (tg := .nm 3) (body := b__law_led_1) sD stepL (RlL t0) (g := g) OkS (fun s a a' S hs e r => led_step g s a a' S hs e r) stps F F' [some (.val t0), some (.own (F.map wd)), some (.val (.int (0 + (i : Nat)))), y, none] stps_ok e ⟨h, _, _, rfl⟩
  refine ⟨S2, ?_, h2⟩
  unfold b__law_led_2 sFor
  have : iItems (eF (dBin addD (eCall0 m__law_arrows) (eCall0 m__law_joint))) (view [some (.val t0), some (.own (F.map wd)), some (.val (.int (0 + (i : Nat)))), y, none]) g = .ok (stps.map sD) g := by
    unfold iItems eF dBin eCall0
    rw [ar1]
    dsimp only
    rw [R.bind_ok, jn1, ← stps_eq]
    rfl
  rw [this]
  simp only [if_true, List.append_nil, frzB_nil]
  exact h1
theorem led_run {ws F : List Nat} (h : All14 ws) (e : ledW ws = some F) (g : G) : All14 F ∧ m__law_led [.tup (ws.map wd)] g = .ok (.lst (F.map wd)) g := by
  obtain ⟨S2, h1, h2, x, y, rfl⟩ := forL_foldM (tg := .nm 2) (body := b__law_led_2) (fun i : Nat => D.int (0 + (i : Nat))) (fun F _ => turnL F) (RlL (.tup (ws.map wd))) (g := g) (fun _ => True) (fun i a a' S _ e r => turn_run g i a a' S e r) (List.range 20) ws F [some (.val (.tup (ws.map wd))), some (.own (ws.map wd)), none, none, none] (fun _ _ => trivial) e ⟨h, _, _, rfl⟩
  refine ⟨h2, ?_⟩
  refine (runD_at (n := 1) rfl).trans ?_
  have : b__law_led (startD 5 [.tup (ws.map wd)]) g = .ret (.lst (F.map wd)) g := by
    refine (sSeq_nx (S1 := [some (.val (.tup (ws.map wd))), some (.own (ws.map wd)), none, none, none]) (g1 := g) (sSet_nol (f := .f (ws.map wd)) rfl (nolAll_map h))).trans ?_
    refine (sSeq_nx (S1 := [some (.val (.tup (ws.map wd))), some (.own (F.map wd)), x, y, none]) (g1 := g) ?_).trans rfl
    unfold sFor
    have : iRange1 (aCons (eC (.int 20)) aNil) (view [some (.val (.tup (ws.map wd))), some (.own (ws.map wd)), none, none, none]) g = .ok (rangeL 0 20) g := rfl
    rw [this]
    exact h1
  rw [this]
  rfl

/-! the table -/
def chkW (ws : List Nat) : Bool := match iterW 99 ws, ledW ws with
  | some F, some L => forcedW F == forcedW L
  | _, _ => false
theorem tab1 : ∀ a < 14, chkW [a] = true := by decide +kernel
theorem tab2 : ∀ a < 14, ∀ b < 14, chkW [a, b] = true := by decide +kernel
theorem tab {ws : List Nat} (h : All14 ws) (hl : ws.length = 1 ∨ ws.length = 2) : ∃ F L, iterW 99 ws = some F ∧ ledW ws = some L ∧ forcedW F = forcedW L := by
  have c : chkW ws = true := by
    match ws, hl, h with
    | [a], _, h => exact tab1 a (h a (by simp))
    | [a, b], _, h => exact tab2 a (h a (by simp)) b (h b (by simp))
    | [], hl, _ => simp at hl
    | _ :: _ :: _ :: _, hl, _ => simp at hl
  unfold chkW at c
  split at c
  · rename_i F L e1 e2
    exact ⟨F, L, e1, e2, by simpa using c⟩
  · cases c
theorem forced_has {F : List Nat} {w : Nat} (hw : w < 14) : (forcedW F).contains w = F.contains w := by
  unfold forcedW
  rw [Bool.eq_iff_iff, List.contains_iff_mem, List.contains_iff_mem, List.mem_filter]
  simp [hw]
/-! the draws -/
theorem take_ok {n : Nat} (h0 : 0 < n) (h1 : n < 2 ^ 20) {g : G} (hg : -1 ≤ g.at_) : ∃ (k : Nat) (g' : G), m__law_take [.draw, .int (n : Nat)] g = .ok (.int (k : Nat)) g' ∧ k < n ∧ -1 ≤ g'.at_ := by
  have hn : okN ((n : Nat) : Int) := ⟨by omega, by
    rw [Int.natAbs_natCast]
    exact Nat.lt_of_lt_of_le ((Nat.log2_lt (by omega)).mpr h1) (by decide)⟩
  obtain ⟨i, g', e, h2, h3, h4⟩ := mTake_ok hn hg
  obtain ⟨k, rfl⟩ := Int.eq_ofNat_of_zero_le h2
  exact ⟨k, g', e, by omega, h4⟩
theorem wd_at {k : Nat} (hk : k < 14) : idxD (.lst wdL) (.int (k : Nat)) = some (wd k) := by
  have : ∀ k < 14, optB (idxD (.lst wdL) (.int (k : Nat))) (wd k) = true := by decide +kernel
  exact optB_eq (this k hk)
abbrev eTake (n : Int) : ET := eCalls 2 m__law_take (aCons (eVar 1) (aCons (eC (.int n)) aNil))
theorem etake_ok {n : Nat} (h0 : 0 < n) (h1 : n < 2 ^ 20) {S : DSt} (hS : S[1]? = some (some .draw)) {g : G} (hg : -1 ≤ g.at_) : ∃ (k : Nat) (g' : G), eTake (n : Nat) S g = .ok (.int (k : Nat)) g' ∧ k < n ∧ -1 ≤ g'.at_ := by
  obtain ⟨k, g', e, h2, h3⟩ := take_ok h0 h1 hg
  refine ⟨k, g', ?_, h2, h3⟩
  have : eVar 1 S g = .ok .draw g := by unfold eVar; rw [hS]
  show ((eVar 1 S g).bind fun a g1 => (R.ok [D.int (n : Nat)] g1).bind fun b g2 => R.ok (a :: b) g2).bind _ = _
  rw [this]
  show (if (2 : Nat) = 2 then m__law_take [.draw, .int (n : Nat)] g else .bad) = _
  rw [if_pos rfl, e]
theorem words_draw {S : DSt} (hS : ∀ x, ((wipeD S [6]).set 6 x)[1]? = some (some .draw)) : ∀ (ds : List D) (g : G), -1 ≤ g.at_ → ∃ (ks : List Nat) (g' : G), compL [6] (.nm 6) tTrue (dBin idxD (eCall0 m__law_words) (eTake 14)) S ds g = .ok (ks.map wd) g' ∧ ks.length = ds.length ∧ All14 ks ∧ -1 ≤ g'.at_
  | [], g, hg => ⟨[], g, rfl, rfl, (by intro i h; cases h), hg⟩
  | d :: ds, g, hg => by
    obtain ⟨k, g1, e1, h1, h2⟩ := etake_ok (n := 14) (by omega) (by omega) (hS (some d)) hg
    obtain ⟨ks, g2, e2, h3, h4, h5⟩ := words_draw hS ds g1 h2
    refine ⟨k :: ks, g2, ?_, by rw [List.length_cons, List.length_cons, h3], fun i hi => ?_, h5⟩
    · have hb : dBin idxD (eCall0 m__law_words) (eTake 14) ((wipeD S [6]).set 6 (some d)) g = .ok (wd k) g1 := by
        unfold dBin eCall0
        rw [wr1]
        dsimp only
        rw [R.bind_ok]
        rw [show eTake 14 ((wipeD S [6]).set 6 (some d)) g = .ok (.int (k : Nat)) g1 from e1, R.bind_ok, wd_at h1]
        rfl
      unfold compL
      show (match tTrue ((wipeD S [6]).set 6 (some d)) g with
        | .ok true g1 => match dBin idxD (eCall0 m__law_words) (eTake 14) ((wipeD S [6]).set 6 (some d)) g1 with
          | .ok y g2 => (compL [6] (.nm 6) tTrue (dBin idxD (eCall0 m__law_words) (eTake 14)) S ds g2).map (y :: ·)
          | _ => .bad
        | .ok false g1 => compL [6] (.nm 6) tTrue (dBin idxD (eCall0 m__law_words) (eTake 14)) S ds g1
        | _ => .bad) = _
      unfold tTrue
      dsimp only
      rw [hb]
      dsimp only
      rw [show (fun _ g => R.ok true g : BT) = tTrue from rfl, e2]
      rfl
    · rcases List.mem_cons.mp hi with rfl | hi
      · exact h1
      · exact h4 i hi
/-! a turn -/
def Sx (x2 x3 x4 x5 : Option SV) : SS := [none, some (.val .draw), x2, x3, x4, x5, none, none, none]
theorem says_ok (b : Bool) (g : G) : m__law_says [.bl b, .bl b] g = .ok (.bl true) g := by cases b <;> rfl
theorem turn_ok (x2 x3 x4 : Option SV) (g : G) (hg : -1 ≤ g.at_) : ∃ S2 g2, b_law_1 (Sx x2 x3 x4 none) g = .nx S2 g2 ∧ -1 ≤ g2.at_ ∧ ∃ x3 x4, S2 = Sx x2 x3 x4 none := by
  -- words
  obtain ⟨k, g1, e1, h1, h2⟩ := etake_ok (n := 2) (by omega) (by omega) (S := view (Sx x2 x3 x4 none)) (by rfl) hg
  have er : iRange1 (aCons (eF (dBin addD (eC (.int 1)) (eTake 2))) aNil) (view (Sx x2 x3 x4 none)) g = .ok (rangeL 0 (1 + k)) g1 := by
    unfold iRange1 aCons
    have : eF (dBin addD (eC (.int 1)) (eTake 2)) (view (Sx x2 x3 x4 none)) g = .ok (.int (1 + (k : Nat))) g1 := by
      show ((eTake 2 (view (Sx x2 x3 x4 none)) g).bind fun b g2 => lift (addD (.int 1) b) g2).map Fv.d = _
      rw [show eTake 2 (view (Sx x2 x3 x4 none)) g = .ok (.int (k : Nat)) g1 from e1]
      rfl
    rw [this]
    show lift (rangeD1 [.int (1 + (k : Nat))]) g1 = _
    unfold rangeD1
    dsimp only
    rw [if_pos (by omega)]
    rw [show (1 + ((k : Nat) : Int)).toNat = 1 + k by omega]
    rfl
  obtain ⟨ks, g2, e2, h3, h4, h5⟩ := words_draw (S := view (Sx x2 x3 x4 none)) (fun x => rfl) (rangeL 0 (1 + k)) g1 h2
  have hl : ks.length = 1 ∨ ks.length = 2 := by
    rw [h3]
    simp only [rangeL, List.length_map, List.length_range]
    omega
  have s1 : sSet 3 (((([] ++ ([1] ++ ([] ++ []))) ++ []) ++ [1]) ++ []) (xV (dCB tupOfD (aCons (eF (xComp [6] (.nm 6) (iRange1 (aCons (eF (dBin addD (eC (.int 1)) (eTake 2))) aNil)) tTrue (dBin idxD (eCall0 m__law_words) (eTake 14)))) aNil))) (Sx x2 x3 x4 none) g = .nx (Sx x2 (some (.val (.tup (ks.map wd)))) x4 none) g2 := by
    refine (sSet_nol (g' := g2) (f := .v (.tup (ks.map wd))) ?_ (nolAll_map h4)).trans rfl
    exact xV_ok (cb_ok (args1 (eF_ok (comp_ok er e2))) rfl)
  obtain ⟨F, L, t1, t2, t3⟩ := tab h4 hl
  obtain ⟨hL, hled⟩ := led_run h4 t2 g2
  have s2 : sSet 4 ([3] ++ []) (xV (eCalls 1 m__law_led (aCons (eVar 3) aNil))) (Sx x2 (some (.val (.tup (ks.map wd)))) x4 none) g2 = .nx (Sx x2 (some (.val (.tup (ks.map wd)))) (some (.val (.lst (L.map wd)))) none) g2 := by
    have : xV (eCalls 1 m__law_led (aCons (eVar 3) aNil)) (view (Sx x2 (some (.val (.tup (ks.map wd)))) x4 none)) g2 = .ok (.v (.lst (L.map wd))) g2 := by
      show ((if (1 : Nat) = 1 then m__law_led [.tup (ks.map wd)] g2 else .bad) : R D).map Fv.v = _
      rw [if_pos rfl, hled]
      rfl
    unfold sSet
    rw [this]
    rfl
  have hw : iItems (eCall0 m__law_words) (view (Sx x2 (some (.val (.tup (ks.map wd)))) (some (.val (.lst (L.map wd)))) none)) g2 = .ok ((List.range 14).map wd) g2 := by
    unfold iItems eCall0
    rw [wr1, ← wdL_eq]
    rfl
  have c3 : tOf (dBin neD (eCalls 3 m__law_ask (aCons (eC (.int 0)) (aCons (eVar 3) (aCons (eC (.str "")) aNil)))) (dCB tupOfD (aCons (eF (xComp [7] (.nm 7) (iItems (eCall0 m__law_words)) (tOf (dBin inD (eVar 7) (eVar 4))) (eVar 7))) aNil))) (view (Sx x2 (some (.val (.tup (ks.map wd)))) (some (.val (.lst (L.map wd)))) none)) g2 = .ok false g2 := by
    have a1 : eCalls 3 m__law_ask (aCons (eC (.int 0)) (aCons (eVar 3) (aCons (eC (.str "")) aNil))) (view (Sx x2 (some (.val (.tup (ks.map wd)))) (some (.val (.lst (L.map wd)))) none)) g2 = .ok (.tup ((forcedW F).map wd)) g2 := by
      show ((if (3 : Nat) = 3 then m__law_ask [.int 0, .tup (ks.map wd), .str ""] g2 else .bad) : R D) = _
      rw [if_pos rfl, ask0_run h4 hl t1]
    have a2 := filter_run hL (own := 7) (k := 4) (it := iItems (eCall0 m__law_words)) (S := view (Sx x2 (some (.val (.tup (ks.map wd)))) (some (.val (.lst (L.map wd)))) none)) (g := g2) hw (fun x => rfl) (fun x => rfl)
    rw [show ((List.range 14).filter L.contains) = forcedW F from t3.symm] at a2
    exact tOf_ok (bin_ok a1 a2 (ne_self (sh_tup (sh_map (forced14 F))) (by omega)))
  have c4 : tNotD (tTru (dCB allD (aCons (eF (xComp [7] (.nm 7) (iItems (eCall0 m__law_words)) tTrue (eCalls 2 m__law_says (aCons (eCalls 3 m__law_ask (aCons (eC (.int 1)) (aCons (eVar 3) (aCons (eVar 7) aNil)))) (aCons (dBin inD (eVar 7) (eVar 4)) aNil))))) aNil))) (view (Sx x2 (some (.val (.tup (ks.map wd)))) (some (.val (.lst (L.map wd)))) none)) g2 = .ok false g2 := by
    have hc : compL [7] (.nm 7) tTrue (eCalls 2 m__law_says (aCons (eCalls 3 m__law_ask (aCons (eC (.int 1)) (aCons (eVar 3) (aCons (eVar 7) aNil)))) (aCons (dBin inD (eVar 7) (eVar 4)) aNil))) (view (Sx x2 (some (.val (.tup (ks.map wd)))) (some (.val (.lst (L.map wd)))) none)) ((List.range 14).map wd) g2 = .ok ((List.range 14).map fun _ => .bl true) g2 := by
      rw [compL_map wd (fun _ => true) (fun _ => .bl true) (xs := List.range 14) fun i hi => ⟨_, rfl, rfl, fun _ => ?_⟩, List.filter_eq_self.mpr fun _ _ => rfl]
      have hi := List.mem_range.mp hi
      show ((((if (3 : Nat) = 3 then m__law_ask [.int 1, .tup (ks.map wd), wd i] g2 else .bad) : R D).bind fun a g1 => (((lift (inD (wd i) (.lst (L.map wd))) g1 : R D).bind fun a g1 => R.ok [a] g1) : R (List D)).bind fun b g2 => R.ok (a :: b) g2).bind fun ds g1 => if ds.length = 2 then m__law_says ds g1 else .bad) = _
      rw [if_pos rfl, ask1_run h4 hl t1 hi, R.bind_ok]
      unfold inD
      rw [in_lst hL hi, forced_has hi, ← forced_has (F := L) hi, ← t3, forced_has hi]
      exact says_ok _ g2
    exact tNot_ok (tTru_ok (cb_ok (args1 (eF_ok (comp_ok hw hc))) (by show allD [.lst _] = _; unfold allD; dsimp only; rw [bools_map]; rfl)) rfl)
  refine ⟨_, g2, (sSeq_nx s1).trans ((sSeq_nx s2).trans ((sSeq_nx (sIf_f c3)).trans (sIf_f c4))), h5, _, _, rfl⟩
/-! the first lines, the values that are none -/
theorem sortL_arr : sortL arrL = some (.f (arrL.mergeSort leD)) := by
  unfold sortL
  rw [if_pos (by decide +kernel)]
theorem sortL_jnt : sortL jntL = some (.f (jntL.mergeSort leD)) := by
  unfold sortL
  rw [if_pos (by decide +kernel)]
theorem arr_sh : ∀ d ∈ arrL, Sh 1 d := by
  have : arrL.all (fun d => decide (Sh 1 d)) = true := by decide +kernel
  exact fun d hd => of_decide_eq_true (List.all_eq_true.mp this d hd)
theorem jnt_sh : ∀ d ∈ jntL, Sh 1 d := by
  have : jntL.all (fun d => decide (Sh 1 d)) = true := by decide +kernel
  exact fun d hd => of_decide_eq_true (List.all_eq_true.mp this d hd)
theorem m_arr (g : G) : m_arrows [] g = .ok (.tup (arrL.mergeSort leD)) g := by
  refine (runD_at (n := 0) rfl).trans ?_
  rw [show b_arrows (startD 0 []) g = .ret (.tup (arrL.mergeSort leD)) g from ret_ok (by
    show ((((lift (sortL arrL) g : R Fv).map Fv.d).bind fun a g1 => R.ok [a] g1).bind fun a g1 => lift (tupOfD a) g1) = _
    rw [sortL_arr]
    rfl)]
  rfl
theorem m_jnt (g : G) : m_joint_arrows [] g = .ok (.tup (jntL.mergeSort leD)) g := by
  refine (runD_at (n := 0) rfl).trans ?_
  rw [show b_joint_arrows (startD 0 []) g = .ret (.tup (jntL.mergeSort leD)) g from ret_ok (by
    show ((((lift (sortL jntL) g : R Fv).map Fv.d).bind fun a g1 => R.ok [a] g1).bind fun a g1 => lift (tupOfD a) g1) = _
    rw [sortL_jnt]
    rfl)]
  rfl
theorem c1_ok (S : DSt) (g : G) : tOf (dBin neD (eCall0 m_arrows) (dCB tupOfD (aCons (eF (dCB sortD (aCons (eCall0 m__law_arrows) aNil))) aNil))) S g = .ok false g := by
  have a1 : eCall0 m_arrows S g = .ok (.tup (arrL.mergeSort leD)) g := by unfold eCall0; rw [m_arr]
  have a2 : dCB tupOfD (aCons (eF (dCB sortD (aCons (eCall0 m__law_arrows) aNil))) aNil) S g = .ok (.tup (arrL.mergeSort leD)) g := by
    have a3 : eCall0 m__law_arrows S g = .ok (.lst arrL) g := by unfold eCall0; rw [ar1]
    exact cb_ok (args1 (eF_ok (cb_ok (args1 a3) sortL_arr))) rfl
  exact tOf_ok (bin_ok a1 a2 (ne_self (sh_tup fun d hd => arr_sh d (List.mem_mergeSort.mp hd)) (by omega)))
theorem c2_ok (S : DSt) (g : G) : tOf (dBin neD (eCall0 m_joint_arrows) (dCB tupOfD (aCons (eF (dCB sortD (aCons (eCall0 m__law_joint) aNil))) aNil))) S g = .ok false g := by
  have a1 : eCall0 m_joint_arrows S g = .ok (.tup (jntL.mergeSort leD)) g := by unfold eCall0; rw [m_jnt]
  have a2 : dCB tupOfD (aCons (eF (dCB sortD (aCons (eCall0 m__law_joint) aNil))) aNil) S g = .ok (.tup (jntL.mergeSort leD)) g := by
    have a3 : eCall0 m__law_joint S g = .ok (.lst jntL) g := by unfold eCall0; rw [jn1]
    exact cb_ok (args1 (eF_ok (cb_ok (args1 a3) sortL_jnt))) rfl
  exact tOf_ok (bin_ok a1 a2 (ne_self (sh_tup fun d hd => jnt_sh d (List.mem_mergeSort.mp hd)) (by omega)))
def bads : List D := [.tup [], .tup [.str "fip", .str "sep", .str "rest"], .lst [.str "fip"], .str "fip", .non, .tup [.str "FIP"], .tup [.str ""], .tup [.non], .tup [.str "fip", .int 3], .tup [.tup [.str "fip"]]]
def bad1 : List D := [.str "", .str "FIP", .non, .int 3, .tup [.str "fip"], .bl true]
theorem bads_ok : ∀ d ∈ bads, ∀ w < 2, ∀ g, m__law_ask [.int (w : Nat), d, .str "fip"] g = .ok (.str "<malformed>") g := by
  have h : (bads.all fun d => (List.range 2).all fun w => isD (m__law_ask [.int (w : Nat), d, .str "fip"] g0) (.str "<malformed>")) = true := by decide +kernel
  intro d hd w hw g
  exact (um__law_ask _).isD (List.all_eq_true.mp (List.all_eq_true.mp h d hd) w (List.mem_range.mpr hw)) g
theorem bad1_ok : ∀ d ∈ bad1, ∀ g, m__law_ask [.int 1, .tup [.str "fip"], d] g = .ok (.str "<malformed>") g := by
  have h : (bad1.all fun d => isD (m__law_ask [.int 1, .tup [.str "fip"], d] g0) (.str "<malformed>")) = true := by decide +kernel
  intro d hd g
  exact (um__law_ask _).isD (List.all_eq_true.mp h d hd) g
theorem bads_turn (d : D) (hd : d ∈ bads) (x2 x3 x4 x5 : Option SV) (g : G) : b_law_2 (Sx x2 x3 x4 (some (.val d))) g = .nx (Sx x2 x3 x4 (some (.val d))) g := by
  refine (sIf_f ?_).trans rfl
  have hc : compL [8] (.nm 8) tTrue (eCalls 3 m__law_ask (aCons (eVar 8) (aCons (eVar 5) (aCons (eC (.str "fip")) aNil)))) (view (Sx x2 x3 x4 (some (.val d)))) [.int ((0 : Nat) : Int), .int ((1 : Nat) : Int)] g = .ok [.str "<malformed>", .str "<malformed>"] g := by
    rw [show [D.int ((0 : Nat) : Int), D.int ((1 : Nat) : Int)] = (List.range 2).map (fun w : Nat => D.int (w : Nat)) from rfl, compL_map (fun w : Nat => D.int (w : Nat)) (fun _ => true) (fun _ => .str "<malformed>") (xs := List.range 2) fun w hw => ⟨_, rfl, rfl, fun _ => by
      show (if (3 : Nat) = 3 then m__law_ask [.int (w : Nat), d, .str "fip"] g else .bad) = _
      rw [if_pos rfl, bads_ok d hd w (List.mem_range.mp hw)]⟩]
    rfl
  have a1 : eF (xComp [8] (.nm 8) (iItems (eF (xLst (aCons (eC (.int 0)) (aCons (eC (.int 1)) aNil))))) tTrue (eCalls 3 m__law_ask (aCons (eVar 8) (aCons (eVar 5) (aCons (eC (.str "fip")) aNil))))) (view (Sx x2 x3 x4 (some (.val d)))) g = .ok (.lst [.str "<malformed>", .str "<malformed>"]) g := by
    exact eF_ok (comp_ok rfl hc)
  have a2 : eF (dBin mulX (eF (xLst (aCons (eC (.str "<malformed>")) aNil))) (eC (.int 2))) (view (Sx x2 x3 x4 (some (.val d)))) g = .ok (.lst [.str "<malformed>", .str "<malformed>"]) g := by
    show ((lift (mulX (.lst [.str "<malformed>"]) (.int 2)) g : R Fv).map Fv.d) = _
    unfold mulX
    dsimp only
    rw [if_pos (by decide +kernel)]
    rfl
  exact tOf_ok (bin_ok a1 a2 (ne_self (n := 1) (by decide +kernel) (by omega)))
theorem law_ok : ∀ g : G, -1 ≤ g.at_ → ∃ g', b_law ((List.replicate 9 none).set 1 (some (.val .draw))) g = .ret (.bl true) g' := by
  intro g hg
  have s1 : ∀ c : SB, sIf (([] ++ (([] ++ []) ++ [])) ++ ([] ++ (([] ++ []) ++ []))) (tOrD (tOf (dBin neD (eCall0 m_arrows) (dCB tupOfD (aCons (eF (dCB sortD (aCons (eCall0 m__law_arrows) aNil))) aNil)))) (tOf (dBin neD (eCall0 m_joint_arrows) (dCB tupOfD (aCons (eF (dCB sortD (aCons (eCall0 m__law_joint) aNil))) aNil))))) c sSkip (Sx none none none none) g = .nx (Sx none none none none) g := fun c => by
    refine (sIf_f ?_).trans rfl
    unfold tOrD
    rw [c1_ok, R.bind_ok, if_neg (by decide)]
    exact c2_ok _ g
  obtain ⟨S2, g2, e2, hg2, x2, x3, x4, rfl⟩ := forL_inv (tg := .nm 2) (body := b_law_1) (fun S g => -1 ≤ g.at_ ∧ ∃ x2 x3 x4, S = Sx x2 x3 x4 none) (rangeL 0 4) (fun d _ S g ⟨hg, x2, x3, x4, e⟩ => by
    subst e
    obtain ⟨S2, g2, e, h, x3, x4, rfl⟩ := turn_ok (some (.val d)) x3 x4 g hg
    exact ⟨_, _, g2, rfl, .inl e, h, _, x3, x4, rfl⟩) (Sx none none none none) g ⟨hg, none, none, none, rfl⟩
  obtain ⟨S3, g3, e3, rfl, x5, rfl⟩ := forL_inv (tg := .nm 5) (body := b_law_2) (fun S g => g = g2 ∧ ∃ x5, S = Sx x2 x3 x4 x5) bads (fun d hd S g ⟨hg, x5, e⟩ => by
    subst e hg
    exact ⟨_, _, _, rfl, .inl (bads_turn d hd x2 x3 x4 x5 g), rfl, _, rfl⟩) (Sx x2 x3 x4 none) g2 ⟨rfl, none, rfl⟩
  refine ⟨g3, (sSeq_nx (s1 _)).trans ((sSeq_nx (S1 := Sx x2 x3 x4 none) (g1 := g3) ?_).trans ((sSeq_nx (S1 := Sx x2 x3 x4 x5) (g1 := g3) ?_).trans (ret_ok ?_)))⟩
  · unfold sFor
    rw [show iRange1 (aCons (eC (.int 4)) aNil) (view (Sx none none none none)) g = .ok (rangeL 0 4) g from rfl]
    exact e2
  · unfold sFor
    rw [show iItems (eF (xLst (aCons (eTup aNil) (aCons (eTup (aCons (eC (.str "fip")) (aCons (eC (.str "sep")) (aCons (eC (.str "rest")) aNil)))) (aCons (eF (xLst (aCons (eC (.str "fip")) aNil))) (aCons (eC (.str "fip")) (aCons (eC .non) (aCons (eTup (aCons (eC (.str "FIP")) aNil)) (aCons (eTup (aCons (eC (.str "")) aNil)) (aCons (eTup (aCons (eC .non) aNil)) (aCons (eTup (aCons (eC (.str "fip")) (aCons (eC (.int 3)) aNil))) (aCons (eTup (aCons (eTup (aCons (eC (.str "fip")) aNil)) aNil)) aNil)))))))))))) (view (Sx x2 x3 x4 none)) g3 = .ok bads g3 from rfl]
    simp only [if_true, List.append_nil, frzB_nil]
    exact e3
  · have hc : compL [5] (.nm 5) tTrue (dBin eqD (eCalls 3 m__law_ask (aCons (eC (.int 1)) (aCons (eTup (aCons (eC (.str "fip")) aNil)) (aCons (eVar 5) aNil)))) (eC (.str "<malformed>"))) (view (Sx x2 x3 x4 x5)) bad1 g3 = .ok (bad1.map fun _ => .bl true) g3 := by
      have := compL_map (own := [5]) (tg := .nm 5) (c := tTrue) (e := dBin eqD (eCalls 3 m__law_ask (aCons (eC (.int 1)) (aCons (eTup (aCons (eC (.str "fip")) aNil)) (aCons (eVar 5) aNil)))) (eC (.str "<malformed>"))) (S := view (Sx x2 x3 x4 x5)) (g := g3) id (fun _ => true) (fun _ => .bl true) (xs := bad1) fun d hd => ⟨_, rfl, rfl, fun _ => by
        show (((if (3 : Nat) = 3 then m__law_ask [.int 1, .tup [.str "fip"], d] g3 else .bad) : R D).bind fun a g1 => lift (eqD a (.str "<malformed>")) g1) = _
        rw [if_pos rfl, bad1_ok d hd, R.bind_ok]
        have : optB (eqD (.str "<malformed>") (.str "<malformed>")) (.bl true) = true := by decide +kernel
        rw [optB_eq this]
        rfl⟩
      rw [List.map_id, List.filter_eq_self.mpr fun _ _ => rfl] at this
      exact this
    exact cb_ok (args1 (eF_ok (comp_ok rfl hc))) (by show allD [.lst _] = _; unfold allD; dsimp only; rw [bools_map]; rfl)

abbrev s__law_draw : Stmt := tp 17
theorem sc__law_draw : FnScope ["script", "seed", "cell"] ["script"] (defScope s__law_draw) := ⟨rfl, rfl, rfl, by decide +kernel, rfl, by decide +kernel, by decide +kernel⟩
abbrev s__law_take : Stmt := tp 18
theorem sc__law_take : FnScope ["draw", "many", "found"] ["draw", "many"] (defScope s__law_take) := ⟨rfl, rfl, rfl, by decide +kernel, rfl, by decide +kernel, by decide +kernel⟩
abbrev s_arrows : Stmt := tp 9
theorem sc_arrows : FnScope [] [] (defScope s_arrows) := ⟨rfl, rfl, rfl, by decide +kernel, rfl, by decide +kernel, by decide +kernel⟩
abbrev s__law_arrows : Stmt := tp 21
theorem sc__law_arrows : FnScope ["text", "words", "k"] [] (defScope s__law_arrows) := ⟨rfl, rfl, rfl, by decide +kernel, rfl, by decide +kernel, by decide +kernel⟩
abbrev s_joint_arrows : Stmt := tp 10
theorem sc_joint_arrows : FnScope [] [] (defScope s_joint_arrows) := ⟨rfl, rfl, rfl, by decide +kernel, rfl, by decide +kernel, by decide +kernel⟩
abbrev s__law_joint : Stmt := tp 22
theorem sc__law_joint : FnScope ["text", "words", "k"] [] (defScope s__law_joint) := ⟨rfl, rfl, rfl, by decide +kernel, rfl, by decide +kernel, by decide +kernel⟩
abbrev s__law_words : Stmt := tp 20
theorem sc__law_words : FnScope [] [] (defScope s__law_words) := ⟨rfl, rfl, rfl, by decide +kernel, rfl, by decide +kernel, by decide +kernel⟩
abbrev s__law_led : Stmt := tp 23
theorem sc__law_led : FnScope ["words", "found", "turn", "step", "one"] ["words"] (defScope s__law_led) := ⟨rfl, rfl, rfl, by decide +kernel, rfl, by decide +kernel, by decide +kernel⟩
abbrev s_check_word : Stmt := tp 5
theorem sc_check_word : FnScope ["word"] ["word"] (defScope s_check_word) := ⟨rfl, rfl, rfl, by decide +kernel, rfl, by decide +kernel, by decide +kernel⟩
abbrev s_check_words : Stmt := tp 11
theorem sc_check_words : FnScope ["words", "word"] ["words"] (defScope s_check_words) := ⟨rfl, rfl, rfl, by decide +kernel, rfl, by decide +kernel, by decide +kernel⟩
abbrev s_ways_to : Stmt := tp 12
theorem sc_ways_to : FnScope ["words", "word", "step", "one"] ["words", "word"] (defScope s_ways_to) := ⟨rfl, rfl, rfl, by decide +kernel, rfl, by decide +kernel, by decide +kernel⟩
abbrev s_derived : Stmt := tp 13
theorem sc_derived : FnScope ["words", "found", "steps", "more", "word", "step"] ["words"] (defScope s_derived) := ⟨rfl, rfl, rfl, by decide +kernel, rfl, by decide +kernel, by decide +kernel⟩
abbrev s_all_forced : Stmt := tp 14
theorem sc_all_forced : FnScope ["words", "found", "word"] ["words"] (defScope s_all_forced) := ⟨rfl, rfl, rfl, by decide +kernel, rfl, by decide +kernel, by decide +kernel⟩
abbrev s_does_force : Stmt := tp 15
theorem sc_does_force : FnScope ["words", "word"] ["words", "word"] (defScope s_does_force) := ⟨rfl, rfl, rfl, by decide +kernel, rfl, by decide +kernel, by decide +kernel⟩
abbrev s__law_ask : Stmt := tp 24
theorem sc__law_ask : FnScope ["which", "words", "word"] ["which", "words", "word"] (defScope s__law_ask) := ⟨rfl, rfl, rfl, by decide +kernel, rfl, by decide +kernel, by decide +kernel⟩
abbrev s__law_says : Stmt := tp 19
theorem sc__law_says : FnScope ["value", "due"] ["value", "due"] (defScope s__law_says) := ⟨rfl, rfl, rfl, by decide +kernel, rfl, by decide +kernel, by decide +kernel⟩
abbrev s_law : Stmt := tp 25
theorem sc_law : FnScope ["script", "draw", "turn", "words", "found", "bad", "k", "word", "which"] ["script"] (defScope s_law) := ⟨rfl, rfl, rfl, by decide +kernel, rfl, by decide +kernel, by decide +kernel⟩
structure Tp (K : PySem.W.Frag) (mg : Str → Option Value) : Prop where
  n_abs : mg "abs" = none
  n_all : mg "all" = none
  n_bool : mg "bool" = none
  n_int : mg "int" = none
  n_isinstance : mg "isinstance" = none
  n_len : mg "len" = none
  n_list : mg "list" = none
  n_range : mg "range" = none
  n_sorted : mg "sorted" = none
  n_str : mg "str" = none
  n_tuple : mg "tuple" = none
  f__law_draw : FnF K mg "_law_draw" s__law_draw ["script"]
  f__law_take : FnF K mg "_law_take" s__law_take ["draw", "many"]
  f_arrows : FnF K mg "arrows" s_arrows []
  f__law_arrows : FnF K mg "_law_arrows" s__law_arrows []
  f_joint_arrows : FnF K mg "joint_arrows" s_joint_arrows []
  f__law_joint : FnF K mg "_law_joint" s__law_joint []
  f__law_words : FnF K mg "_law_words" s__law_words []
  f__law_led : FnF K mg "_law_led" s__law_led ["words"]
  f_check_word : FnF K mg "check_word" s_check_word ["word"]
  f_check_words : FnF K mg "check_words" s_check_words ["words"]
  f_ways_to : FnF K mg "ways_to" s_ways_to ["words", "word"]
  f_derived : FnF K mg "derived" s_derived ["words"]
  f_all_forced : FnF K mg "all_forced" s_all_forced ["words"]
  f_does_force : FnF K mg "does_force" s_does_force ["words", "word"]
  f__law_ask : FnF K mg "_law_ask" s__law_ask ["which", "words", "word"]
  f__law_says : FnF K mg "_law_says" s__law_says ["value", "due"]
  f_law : FnF K mg "law" s_law ["script"]
  g_ARROWS : GlF K mg "ARROWS" c_ARROWS
  g_JOINT_ARROWS : GlF K mg "JOINT_ARROWS" c_JOINT_ARROWS
  g_WORDS : GlF K mg "WORDS" c_WORDS
  x_Malformed : ExF K mg "Malformed"
  s_Malformed : SubF K mg "Malformed" sub_Malformed
section
variable {P : Program} {w : World} {K : PySem.W.Frag} {mg : Str → Option Value} {base : Heap}
theorem ok__law_draw (T : Tp K mg) : DrawFn P w K mg base 1 := okDraw T.f__law_draw sc__law_draw fun f cdv A outer s H E =>
  pss_cons (ps_set (i := 1) sc__law_draw.nd rfl (.inl rfl) pe_int)
  (pss_cons (ps_for (passes_of rfl) rfl (pi_seq (pe_var rfl (.inl rfl))) (pg_name (i := 2) sc__law_draw.nd rfl (.inl rfl)) (pss_one (ps_set (i := 1) sc__law_draw.nd rfl (.inl rfl)
    (pe_op op_mod (pe_callTy call_int1 (by rfl) T.n_int (by decide +kernel) (pa_cons (pe_op op_add (pe_op op_add (pe_op op_mul (pe_var rfl (.inl rfl)) pe_int) (pe_op op_mod (pe_callB call_abs (by rfl) T.n_abs (by decide +kernel) (pa_cons (pe_callTy call_int1 (by rfl) T.n_int (by decide +kernel) (pa_cons (pe_var rfl (.inl rfl)) pa_nil)) pa_nil)) pe_int)) pe_int) pa_nil)) pe_int))))
  (pss_one (ps_ret (pe_lst (pa_cons (pe_lc (own := [("cell", 2)]) rfl sc__law_draw.nd (pi_seq (pe_var rfl (.inl rfl))) (blkOk_by (by rfl)) (fun s H C cl fp => pg_name (i := 2) sc__law_draw.nd rfl (.inl rfl)) (fun s H C cl fp => pts_nil)
    (fun s H C cl fp => pe_callB call_abs (by rfl) T.n_abs (by decide +kernel) (pa_cons (pe_callTy call_int1 (by rfl) T.n_int (by decide +kernel) (pa_cons (pe_var rfl (.inl rfl)) pa_nil)) pa_nil)))
    (pa_cons (pe_un un_neg pe_int) (pa_cons pe_int (pa_cons (pe_var rfl (.inl rfl)) pa_nil))))))))
theorem ok__law_take (T : Tp K mg) : DefOk P w K mg base "_law_take" 2 m__law_take 1 := okTake T.f__law_take sc__law_take fun f cdv A outer s H E =>
  have dv : ∀ {p : Pos}, PE (cxOf (L2.CX P w) P w K mg base ["draw", "many", "found"] "_law_take" (defScope s__law_take) f cdv A outer s H E) (.Name "draw" p) (tVar 0) := fun {p} => pe_var rfl (.inl rfl)
  have dx : ∀ {k : Int} {j : Nat} {p p1 p2 : Pos}, PE (cxOf (L2.CX P w) P w K mg base ["draw", "many", "found"] "_law_take" (defScope s__law_take) f cdv A outer s H E) (.Subscript (.Name "draw" p) (.Constant (.int k) j p1) p2) (dIx K k) := fun {k j p p1 p2} => pe_ix ix_seq dv pe_int fun _ _ => rfl
  pss_cons (ps_if (pt_cmp (pc_eqI dx pe_int))
    (pss_cons (ps_asg (pe_op op_add dx pe_int) (pg_sub dv pe_int set_list))
    (pss_cons (ps_if (pt_cmp (pc_lt dx (pe_callB call_len (by rfl) T.n_len boot_len (pa_cons dx pa_nil)))) (pss_one (ps_asg (pe_ix ix_seq dx dx fun _ _ => rfl) (pg_sub dv pe_int set_list))) pss_nil)
    (pss_one (ps_if (pt_cmp (pc_eqI dx pe_int)) (pss_cons (ps_asg (pe_op op_mod (pe_callTy call_int1 (by rfl) T.n_int (by decide +kernel) (pa_cons (pe_op op_add (pe_op op_mul dx pe_int) pe_int) pa_nil)) pe_int) (pg_sub dv pe_int set_list)) (pss_one (ps_asg dx (pg_sub dv pe_int set_list)))) pss_nil)))) pss_nil)
  (pss_cons (ps_set (i := 2) sc__law_take.nd rfl (.inl rfl) (pe_op op_mod (pe_callTy call_int1 (by rfl) T.n_int (by decide +kernel) (pa_cons dx pa_nil)) (pe_var rfl (.inl rfl))))
  (pss_cons (ps_asg (pe_op op_fdivW dx (pe_var rfl (.inl rfl))) (pg_sub dv pe_int set_list))
  (pss_one (ps_ret (pe_var rfl (.inl rfl))))))
theorem ok_arrows (T : Tp K mg) : DefOk P w K mg base "arrows" 0 m_arrows 1 := okF (N := []) (b := b_arrows) T.f_arrows sc_arrows fun f cdv A outer s H E hr =>
 (ds_one (ds_ret (dr_callTy bkE call_tuple_of ad_tupOf (by rfl) T.n_tuple (by decide +kernel) (da_cons (xE (dr_callB bkX (cr_sortA (hu64 hr)) ad_sort (by rfl) T.n_sorted (by decide +kernel) (da_cons (de_globF T.g_ARROWS) da_nil))) da_nil))))
theorem ok__law_arrows (T : Tp K mg) : DefOk P w K mg base "_law_arrows" 0 m__law_arrows 1 := okF (N := ["text", "words", "k"]) (b := b__law_arrows) T.f__law_arrows sc__law_arrows fun f cdv A outer s H E hr =>
 (ds_cons (ds_set (i := 0) sc__law_arrows.nd rfl (by first | exact .inl rfl | exact .inr rfl) (dx_of de_str))
 (ds_cons (ds_set (i := 1) sc__law_arrows.nd rfl (by first | exact .inl rfl | exact .inr rfl) (dr_bm bkX PySem.F.plainAttrs_str PySem.F.slot_str_split PySem.F.type_str_split mt_split ad_split (xE (dr_op bkX op_addAll ad_add (de_var 0) de_str)) (da_cons de_str da_nil)))
 (ds_one (ds_ret (xE (dx_comp rfl sc__law_arrows.nd (own := [("k", 2)]) (B := [1]) (blkOk_by (by rfl)) (by decide) (by decide) (di_R (di_range1 (by rfl) T.n_range (da_cons (dr_op bkE op_fdivN ad_fdiv (dr_callB bkE call_len ad_len (by rfl) T.n_len (by decide +kernel) (da_cons (de_var 1) da_nil)) de_int) da_nil))) (fun s H C cl fp => (tg_nm (i := 2) sc__law_arrows.nd rfl (by first | exact .inl rfl | exact .inr rfl))) (fun s H C cl fp => dts_nil) (fun s H C cl fp => (de_tup (da_cons (dr_ix bkE ix_seq ad_idx (de_var 1) (dr_op bkE op_mul ad_mul de_int (de_var 2)) (fun _ _ => rfl)) (da_cons (dr_ix bkE ix_seq ad_idx (de_var 1) (xE (dr_op bkX op_addAll ad_add (dr_op bkE op_mul ad_mul de_int (de_var 2)) de_int)) (fun _ _ => rfl)) da_nil))))))))))
theorem ok_joint_arrows (T : Tp K mg) : DefOk P w K mg base "joint_arrows" 0 m_joint_arrows 1 := okF (N := []) (b := b_joint_arrows) T.f_joint_arrows sc_joint_arrows fun f cdv A outer s H E hr =>
 (ds_one (ds_ret (dr_callTy bkE call_tuple_of ad_tupOf (by rfl) T.n_tuple (by decide +kernel) (da_cons (xE (dr_callB bkX (cr_sortA (hu64 hr)) ad_sort (by rfl) T.n_sorted (by decide +kernel) (da_cons (de_globF T.g_JOINT_ARROWS) da_nil))) da_nil))))
theorem ok__law_joint (T : Tp K mg) : DefOk P w K mg base "_law_joint" 0 m__law_joint 1 := okF (N := ["text", "words", "k"]) (b := b__law_joint) T.f__law_joint sc__law_joint fun f cdv A outer s H E hr =>
 (ds_cons (ds_set (i := 0) sc__law_joint.nd rfl (by first | exact .inl rfl | exact .inr rfl) (dx_of de_str))
 (ds_cons (ds_set (i := 1) sc__law_joint.nd rfl (by first | exact .inl rfl | exact .inr rfl) (dr_bm bkX PySem.F.plainAttrs_str PySem.F.slot_str_split PySem.F.type_str_split mt_split ad_split (xE (dr_op bkX op_addAll ad_add (de_var 0) de_str)) (da_cons de_str da_nil)))
 (ds_one (ds_ret (xE (dx_comp rfl sc__law_joint.nd (own := [("k", 2)]) (B := [1]) (blkOk_by (by rfl)) (by decide) (by decide) (di_R (di_range1 (by rfl) T.n_range (da_cons (dr_op bkE op_fdivN ad_fdiv (dr_callB bkE call_len ad_len (by rfl) T.n_len (by decide +kernel) (da_cons (de_var 1) da_nil)) de_int) da_nil))) (fun s H C cl fp => (tg_nm (i := 2) sc__law_joint.nd rfl (by first | exact .inl rfl | exact .inr rfl))) (fun s H C cl fp => dts_nil) (fun s H C cl fp => (de_tup (da_cons (dr_ix bkE ix_seq ad_idx (de_var 1) (dr_op bkE op_mul ad_mul de_int (de_var 2)) (fun _ _ => rfl)) (da_cons (dr_ix bkE ix_seq ad_idx (de_var 1) (xE (dr_op bkX op_addAll ad_add (dr_op bkE op_mul ad_mul de_int (de_var 2)) de_int)) (fun _ _ => rfl)) (da_cons (dr_ix bkE ix_seq ad_idx (de_var 1) (xE (dr_op bkX op_addAll ad_add (dr_op bkE op_mul ad_mul de_int (de_var 2)) de_int)) (fun _ _ => rfl)) da_nil)))))))))))
theorem ok__law_words (T : Tp K mg) : DefOk P w K mg base "_law_words" 0 m__law_words 1 := okF (N := []) (b := b__law_words) T.f__law_words sc__law_words fun f cdv A outer s H E hr =>
 (ds_one (ds_ret (xE (dr_bm bkX PySem.F.plainAttrs_str PySem.F.slot_str_split PySem.F.type_str_split mt_split ad_split de_str (da_cons de_str da_nil)))))
theorem ok__law_led (T : Tp K mg) : DefOk P w K mg base "_law_led" 1 m__law_led 2 := okF (N := ["words", "found", "turn", "step", "one"]) (b := b__law_led) T.f__law_led sc__law_led fun f cdv A outer s H E hr =>
 (ds_cons (ds_set (i := 1) sc__law_led.nd rfl (by first | exact .inl rfl | exact .inr rfl) (dr_callTy bkX call_list_of ad_lstOf (by rfl) T.n_list (by decide +kernel) (da_cons (de_var 0) da_nil)))
 (ds_cons (ds_forR (passes_of rfl) rfl (di_range1 (by rfl) T.n_range (da_cons de_int da_nil)) (tg_nm (i := 2) sc__law_led.nd rfl (by first | exact .inl rfl | exact .inr rfl))
 (ds_one (ds_for (passes_of rfl) rfl (di_seq (xE (dr_op bkX op_addAll ad_add (de_call0 (ok__law_arrows T) hr (by decide) (by rfl) pass00) (de_call0 (ok__law_joint T) hr (by decide) (by rfl) pass00)))) (tg_nm (i := 3) sc__law_led.nd rfl (by first | exact .inl rfl | exact .inr rfl))
 (ds_one (ds_if (PW.pt (dw_and (dt_cmp (op_notInA (hu_65 hr)) ad_notIn (dr_ix bkE ix_seq ad_idx (de_var 3) (dr_un bkE un_neg ad_neg de_int) (fun _ _ => rfl)) (de_var 1) (by rfl)) (dw_and1 (dt_tru (dr_callB bkE (cr_all rfl) ad_all (by rfl) T.n_all (by decide +kernel) (da_cons (xE (dx_comp rfl sc__law_led.nd (own := [("one", 4)]) (B := [1]) (blkOk_by (by rfl)) (by decide) (by decide) (di_seq (xE (dx_slice (de_var 3) do_none (do_some (dr_un bkE un_neg ad_neg de_int))))) (fun s H C cl fp => (tg_nm (i := 4) sc__law_led.nd rfl (by first | exact .inl rfl | exact .inr rfl))) (fun s H C cl fp => dts_nil) (fun s H C cl fp => (dr_cmp bkE (op_inA (hu_65 hr)) ad_in (de_var 4) (de_var 1) (by rfl))))) da_nil))))))
 (ds_one (ds_mut (i := 1) PySem.F.slot_list_append PySem.F.type_list_append mt_append ad_app rfl (by first | exact .inl rfl | exact .inr (.inl rfl)) (dr_ix bkE ix_seq ad_idx (de_var 3) (dr_un bkE un_neg ad_neg de_int) (fun _ _ => rfl))))
 ds_nil)))))
 (ds_one (ds_ret (de_var 1)))))
theorem ok_check_word (T : Tp K mg) : DefOk P w K mg base "check_word" 1 m_check_word 1 := okF (N := ["word"]) (b := b_check_word) T.f_check_word sc_check_word fun f cdv A outer s H E hr =>
 (ds_one (ds_if (PW.pt (dw_or (dt_not (dt_tru (de_isi (T := "str") (de_var 0) (by rfl) T.n_isinstance (by rfl) T.n_str (by decide +kernel)))) (dw_or1 (dt_cmp (op_notInA (hu_65 hr)) ad_notIn (de_var 0) (de_globF T.g_WORDS) (by rfl)))))
 (ds_one (ds_raiseF rfl (takes_of rfl rfl rfl rfl) T.x_Malformed))
 ds_nil))
theorem ok_check_words (T : Tp K mg) : DefOk P w K mg base "check_words" 1 m_check_words 2 := okF (N := ["words", "word"]) (b := b_check_words) T.f_check_words sc_check_words fun f cdv A outer s H E hr =>
 (ds_cons (ds_if (PW.pt (dw_or (dt_not (dt_tru (de_isi (T := "tuple") (de_var 0) (by rfl) T.n_isinstance (by rfl) T.n_tuple (by decide +kernel)))) (dw_or1 (dt_not (dt_chain op_le op_le ad_cmpI ad_cmpI de_int (dr_callB bkE call_len ad_len (by rfl) T.n_len (by decide +kernel) (da_cons (de_var 0) da_nil)) de_int)))))
 (ds_one (ds_raiseF rfl (takes_of rfl rfl rfl rfl) T.x_Malformed))
 ds_nil)
 (ds_one (ds_for (passes_of rfl) rfl (di_seq (de_var 0)) (tg_nm (i := 1) sc_check_words.nd rfl (by first | exact .inl rfl | exact .inr rfl))
 (ds_one (ds_expr (de_call (ok_check_word T) hr (by decide) (by rfl) (takes_of rfl rfl rfl rfl) (da_cons (de_var 1) da_nil) (.inr trivial)))))))
theorem ok_ways_to (T : Tp K mg) : DefOk P w K mg base "ways_to" 2 m_ways_to 1 := okF (N := ["words", "word", "step", "one"]) (b := b_ways_to) T.f_ways_to sc_ways_to fun f cdv A outer s H E hr =>
 (ds_cons (ds_for (passes_of rfl) rfl (di_seq (xE (dr_op bkX op_addAll ad_add (de_globF T.g_ARROWS) (de_globF T.g_JOINT_ARROWS)))) (tg_nm (i := 2) sc_ways_to.nd rfl (by first | exact .inl rfl | exact .inr rfl))
 (ds_one (ds_if (PW.pt (dw_and (dt_cmp (op_eqD (hu_64 hr)) ad_eq (dr_ix bkE ix_seq ad_idx (de_var 2) (dr_un bkE un_neg ad_neg de_int) (fun _ _ => rfl)) (de_var 1) (nobehind _ (by decide) (by decide))) (dw_and1 (dt_tru (dr_callB bkE (cr_all rfl) ad_all (by rfl) T.n_all (by decide +kernel) (da_cons (xE (dx_comp rfl sc_ways_to.nd (own := [("one", 3)]) (B := [0]) (blkOk_by (by rfl)) (by decide) (by decide) (di_seq (xE (dx_slice (de_var 2) do_none (do_some (dr_un bkE un_neg ad_neg de_int))))) (fun s H C cl fp => (tg_nm (i := 3) sc_ways_to.nd rfl (by first | exact .inl rfl | exact .inr rfl))) (fun s H C cl fp => dts_nil) (fun s H C cl fp => (dr_cmp bkE (op_inA (hu_65 hr)) ad_in (de_var 3) (de_var 0) (by rfl))))) da_nil))))))
 (ds_one (ds_ret (de_var 2)))
 ds_nil)))
 (ds_one (ds_ret de_non)))
theorem ok_derived (T : Tp K mg) : DefOk P w K mg base "derived" 1 m_derived 2 := okF (N := ["words", "found", "steps", "more", "word", "step"]) (b := b_derived) T.f_derived sc_derived fun f cdv A outer s H E hr =>
 (ds_cons (ds_par3 (i := 1) (j := 2) (l := 3) rfl sc_derived.nd rfl rfl rfl (by decide) (by decide) (by decide) rfl rfl rfl (dax_cons (dr_callTy bkX call_list_of ad_lstOf (by rfl) T.n_list (by decide +kernel) (da_cons (de_var 0) da_nil)) (dax_cons (dx_lst da_nil) (dax_cons (dx_of de_bl) dax_nil))) (by rfl))
 (ds_cons (ds_while 100 (passes_of rfl) (dt_tru (de_var 3))
 (ds_cons (ds_set (i := 3) sc_derived.nd rfl (by first | exact .inl rfl | exact .inr rfl) (dx_of de_bl))
 (ds_one (ds_for (passes_of rfl) rfl (di_seq (de_globF T.g_WORDS)) (tg_nm (i := 4) sc_derived.nd rfl (by first | exact .inl rfl | exact .inr rfl))
 (ds_cons (ds_set (i := 5) sc_derived.nd rfl (by first | exact .inl rfl | exact .inr rfl) (dx_of (de_call (ok_ways_to T) hr (by decide) (by rfl) (takes_of rfl rfl rfl rfl) (da_cons (de_var 1) (da_cons (de_var 4) da_nil)) (.inr trivial))))
 (ds_one (ds_if (PW.pt (dw_and (dt_cmp (op_notInA (hu_65 hr)) ad_notIn (de_var 4) (de_var 1) (by rfl)) (dw_and1 (dt_cmp op_notN ad_notN (de_var 5) de_non (nobehind _ (by decide) (by decide))))))
 (ds_cons (ds_mut (i := 1) PySem.F.slot_list_append PySem.F.type_list_append mt_append ad_app rfl (by first | exact .inl rfl | exact .inr (.inl rfl)) (de_var 4))
 (ds_cons (ds_mut (i := 2) PySem.F.slot_list_append PySem.F.type_list_append mt_append ad_app rfl (by first | exact .inl rfl | exact .inr (.inl rfl)) (de_var 5))
 (ds_one (ds_set (i := 3) sc_derived.nd rfl (by first | exact .inl rfl | exact .inr rfl) (dx_of de_bl)))))
 ds_nil)))))))
 (ds_one (ds_ret (de_tup (da_cons (de_var 1) (da_cons (de_var 2) da_nil)))))))
theorem ok_all_forced (T : Tp K mg) : DefOk P w K mg base "all_forced" 1 m_all_forced 3 := okF (N := ["words", "found", "word"]) (b := b_all_forced) T.f_all_forced sc_all_forced fun f cdv A outer s H E hr =>
 (ds_cons (ds_expr (de_call (ok_check_words T) hr (by decide) (by rfl) (takes_of rfl rfl rfl rfl) (da_cons (de_var 0) da_nil) (.inr trivial)))
 (ds_cons (ds_set (i := 1) sc_all_forced.nd rfl (by first | exact .inl rfl | exact .inr rfl) (dx_of (dr_ix bkE ix_seq ad_idx (de_call (ok_derived T) hr (by decide) (by rfl) (takes_of rfl rfl rfl rfl) (da_cons (de_var 0) da_nil) (.inr trivial)) de_int (fun _ _ => rfl))))
 (ds_one (ds_ret (dr_callTy bkE call_tuple_of ad_tupOf (by rfl) T.n_tuple (by decide +kernel) (da_cons (xE (dx_comp rfl sc_all_forced.nd (own := [("word", 2)]) (B := [1]) (blkOk_by (by rfl)) (by decide) (by decide) (di_seq (de_globF T.g_WORDS)) (fun s H C cl fp => (tg_nm (i := 2) sc_all_forced.nd rfl (by first | exact .inl rfl | exact .inr rfl))) (fun s H C cl fp => (dts_one (dt_cmp (op_inA (hu_65 hr)) ad_in (de_var 2) (de_var 1) (by rfl)))) (fun s H C cl fp => (de_var 2)))) da_nil))))))
theorem ok_does_force (T : Tp K mg) : DefOk P w K mg base "does_force" 2 m_does_force 4 := okF (N := ["words", "word"]) (b := b_does_force) T.f_does_force sc_does_force fun f cdv A outer s H E hr =>
 (ds_cons (ds_expr (de_call (ok_check_word T) hr (by decide) (by rfl) (takes_of rfl rfl rfl rfl) (da_cons (de_var 1) da_nil) (.inr trivial)))
 (ds_one (ds_ret (dr_cmp bkE (op_inA (hu_65 hr)) ad_in (de_var 1) (de_call (ok_all_forced T) hr (by decide) (by rfl) (takes_of rfl rfl rfl rfl) (da_cons (de_var 0) da_nil) (.inr trivial)) (by rfl)))))
theorem ok__law_ask (T : Tp K mg) : DefOk P w K mg base "_law_ask" 3 m__law_ask 5 := okF (N := ["which", "words", "word"]) (b := b__law_ask) T.f__law_ask sc__law_ask fun f cdv A outer s H E hr =>
 (ds_one (ds_tryF rfl rfl T.s_Malformed (takes_of rfl rfl rfl rfl) (fun W pn xe tk hp => (ds_one (ds_ret (dr_if bkE (dt_cmp (op_eqD (hu_64 hr)) ad_eq (de_var 0) de_int (nobehind _ (by decide) (by decide))) (de_call (ok_all_forced T) hr (by decide) (by rfl) tk (da_cons (de_var 1) da_nil) (.inr trivial)) (de_call (ok_does_force T) hr (by decide) (by rfl) tk (da_cons (de_var 1) (da_cons (de_var 2) da_nil)) (.inr trivial))))))
 (fun a oe pn => (ds_one (ds_ret de_str)))))
theorem ok__law_says (T : Tp K mg) : DefOk P w K mg base "_law_says" 2 m__law_says 1 := okF (N := ["value", "due"]) (b := b__law_says) T.f__law_says sc__law_says fun f cdv A outer s H E hr =>
 (ds_one (ds_ret (de_and (de_isi (T := "bool") (de_var 0) (by rfl) T.n_isinstance (by rfl) T.n_bool (by decide +kernel)) (de_one (dr_cmp bkE (op_eqD (hu_64 hr)) ad_eq (de_var 0) (de_var 1) (nobehind _ (by decide) (by decide)))))))
theorem ok_law (T : Tp K mg) {f : Addr} {fd : FuncData} (Fn : Fun K "law" "law" s_law f fd) (hb : ∀ g : G, -1 ≤ g.at_ → ∃ g', b_law ((List.replicate 9 none).set 1 (some (.val .draw))) g = .ret (.bl true) g') : FnOk P w K mg base (L2.CX P w) 6 f fd ["script"] (spLaw K) :=
  okLaw (N := ["script", "draw", "turn", "words", "found", "bad", "k", "word", "which"]) (b := b_law) Fn sc_law (by decide) hb fun cdv A outer s H E hr =>
  pss_cons (ps_set (i := 1) sc_law.nd rfl (by first | exact .inl rfl | exact .inr rfl) (pe_drawn (ok__law_draw T) hr (by decide) (by rfl) (takes_of rfl rfl rfl rfl) rfl (by first | exact .inl rfl | exact .inr (.inl rfl))))
 (ds_cons (ds_if (PW.pt (dw_or (dt_cmp (op_neD (hu_64 hr)) ad_ne (de_call0 (ok_arrows T) hr (by decide) (by rfl) pass00) (dr_callTy bkE call_tuple_of ad_tupOf (by rfl) T.n_tuple (by decide +kernel) (da_cons (xE (dr_callB bkX (cr_sortA (hu64 hr)) ad_sort (by rfl) T.n_sorted (by decide +kernel) (da_cons (de_call0 (ok__law_arrows T) hr (by decide) (by rfl) pass00) da_nil))) da_nil)) (nobehind _ (by decide) (by decide))) (dw_or1 (dt_cmp (op_neD (hu_64 hr)) ad_ne (de_call0 (ok_joint_arrows T) hr (by decide) (by rfl) pass00) (dr_callTy bkE call_tuple_of ad_tupOf (by rfl) T.n_tuple (by decide +kernel) (da_cons (xE (dr_callB bkX (cr_sortA (hu64 hr)) ad_sort (by rfl) T.n_sorted (by decide +kernel) (da_cons (de_call0 (ok__law_joint T) hr (by decide) (by rfl) pass00) da_nil))) da_nil)) (nobehind _ (by decide) (by decide))))))
 (ds_one (ds_ret de_bl))
 ds_nil)
 (ds_cons (ds_forR (passes_of rfl) rfl (di_range1 (by rfl) T.n_range (da_cons de_int da_nil)) (tg_nm (i := 2) sc_law.nd rfl (by first | exact .inl rfl | exact .inr rfl))
 (ds_cons (ds_set (i := 3) sc_law.nd rfl (by first | exact .inl rfl | exact .inr rfl) (dx_of (dr_callTy bkE call_tuple_of ad_tupOf (by rfl) T.n_tuple (by decide +kernel) (da_cons (xE (dx_comp rfl sc_law.nd (own := [("k", 6)]) (B := [1]) (blkOk_by (by rfl)) (by decide) (by decide) (di_R (di_range1 (by rfl) T.n_range (da_cons (xE (dr_op bkX op_addAll ad_add de_int (de_call (ok__law_take T) hr (by decide) (by rfl) (takes_of rfl rfl rfl rfl) (da_cons (de_var 1) (da_cons de_int da_nil)) (.inr trivial)))) da_nil))) (fun s H C cl fp => (tg_nm (i := 6) sc_law.nd rfl (by first | exact .inl rfl | exact .inr rfl))) (fun s H C cl fp => dts_nil) (fun s H C cl fp => (dr_ix bkE ix_seq ad_idx (de_call0 (ok__law_words T) hr (by decide) (by rfl) pass00) (de_call (ok__law_take T) hr (by decide) (by rfl) takes0 (da_cons (de_var 1) (da_cons de_int da_nil)) (.inr trivial)) (fun _ _ => rfl))))) da_nil))))
 (ds_cons (ds_set (i := 4) sc_law.nd rfl (by first | exact .inl rfl | exact .inr rfl) (dx_of (de_call (ok__law_led T) hr (by decide) (by rfl) (takes_of rfl rfl rfl rfl) (da_cons (de_var 3) da_nil) (.inr trivial))))
 (ds_cons (ds_if (dt_cmp (op_neD (hu_64 hr)) ad_ne (de_call (ok__law_ask T) hr (by decide) (by rfl) (takes_of rfl rfl rfl rfl) (da_cons de_int (da_cons (de_var 3) (da_cons de_str da_nil))) (.inr trivial)) (dr_callTy bkE call_tuple_of ad_tupOf (by rfl) T.n_tuple (by decide +kernel) (da_cons (xE (dx_comp rfl sc_law.nd (own := [("word", 7)]) (B := [4]) (blkOk_by (by rfl)) (by decide) (by decide) (di_seq (de_call0 (ok__law_words T) hr (by decide) (by rfl) pass00)) (fun s H C cl fp => (tg_nm (i := 7) sc_law.nd rfl (by first | exact .inl rfl | exact .inr rfl))) (fun s H C cl fp => (dts_one (dt_cmp (op_inA (hu_65 hr)) ad_in (de_var 7) (de_var 4) (by rfl)))) (fun s H C cl fp => (de_var 7)))) da_nil)) (nobehind _ (by decide) (by decide)))
 (ds_one (ds_ret de_bl))
 ds_nil)
 (ds_one (ds_if (dt_not (dt_tru (dr_callB bkE (cr_all rfl) ad_all (by rfl) T.n_all (by decide +kernel) (da_cons (xE (dx_comp rfl sc_law.nd (own := [("word", 7)]) (B := [3, 4]) (blkOk_by (by rfl)) (by decide) (by decide) (di_seq (de_call0 (ok__law_words T) hr (by decide) (by rfl) pass00)) (fun s H C cl fp => (tg_nm (i := 7) sc_law.nd rfl (by first | exact .inl rfl | exact .inr rfl))) (fun s H C cl fp => dts_nil) (fun s H C cl fp => (de_call (ok__law_says T) hr (by decide) (by rfl) takes0 (da_cons (de_call (ok__law_ask T) hr (by decide) (by rfl) takes0 (da_cons de_int (da_cons (de_var 3) (da_cons (de_var 7) da_nil))) (.inr trivial)) (da_cons (dr_cmp bkE (op_inA (hu_65 hr)) ad_in (de_var 7) (de_var 4) (by rfl)) da_nil)) (.inr trivial))))) da_nil))))
 (ds_one (ds_ret de_bl))
 ds_nil))))))
 (ds_cons (ds_for (passes_of rfl) rfl (di_seq (xE (dx_lst (da_cons (de_tup da_nil) (da_cons (de_tup (da_cons de_str (da_cons de_str (da_cons de_str da_nil)))) (da_cons (xE (dx_lst (da_cons de_str da_nil))) (da_cons de_str (da_cons de_non (da_cons (de_tup (da_cons de_str da_nil)) (da_cons (de_tup (da_cons de_str da_nil)) (da_cons (de_tup (da_cons de_non da_nil)) (da_cons (de_tup (da_cons de_str (da_cons de_int da_nil))) (da_cons (de_tup (da_cons (de_tup (da_cons de_str da_nil)) da_nil)) da_nil))))))))))))) (tg_nm (i := 5) sc_law.nd rfl (by first | exact .inl rfl | exact .inr rfl))
 (ds_one (ds_if (dt_cmp (op_neD (hu_64 hr)) ad_ne (xE (dx_comp rfl sc_law.nd (own := [("which", 8)]) (B := [5]) (blkOk_by (by rfl)) (by decide) (by decide) (di_seq (xE (dx_lst (da_cons de_int (da_cons de_int da_nil))))) (fun s H C cl fp => (tg_nm (i := 8) sc_law.nd rfl (by first | exact .inl rfl | exact .inr rfl))) (fun s H C cl fp => dts_nil) (fun s H C cl fp => (de_call (ok__law_ask T) hr (by decide) (by rfl) takes0 (da_cons (de_var 8) (da_cons (de_var 5) (da_cons de_str da_nil))) (.inr trivial))))) (xE (dr_op bkX op_mulX ad_mulX (xE (dx_lst (da_cons de_str da_nil))) de_int)) (nobehind _ (by decide) (by decide)))
 (ds_one (ds_ret de_bl))
 ds_nil)))
 (ds_one (ds_ret (dr_callB bkE (cr_all rfl) ad_all (by rfl) T.n_all (by decide +kernel) (da_cons (xE (dx_comp rfl sc_law.nd (own := [("bad", 5)]) (B := []) (blkOk_by (by rfl)) (by decide) (by decide) (di_seq (xE (dx_lst (da_cons de_str (da_cons de_str (da_cons de_non (da_cons de_int (da_cons (de_tup (da_cons de_str da_nil)) (da_cons de_bl da_nil))))))))) (fun s H C cl fp => (tg_nm (i := 5) sc_law.nd rfl (by first | exact .inl rfl | exact .inr rfl))) (fun s H C cl fp => dts_nil) (fun s H C cl fp => (dr_cmp bkE (op_eqD (hu_64 hr)) ad_eq (de_call (ok__law_ask T) hr (by decide) (by rfl) takes0 (da_cons de_int (da_cons (de_tup (da_cons de_str da_nil)) (da_cons (de_var 5) da_nil))) (.inr trivial)) de_str (nobehind _ (by decide) (by decide)))))) da_nil)))))))
end

theorem cx_no : ∀ (w : World) (H : Hp) (s : Shared) (e : Value) (s' : Shared), L2.CX PySem.Challenge.pw_gamekinds_k05_arrows_of_kinds w [] H s (fun _ _ _ => False) e s' → False := fun _ _ _ _ _ h => by
  obtain ⟨_, _, _, _, _, _, _, _, _, _, _, _, z⟩ := h
  exact z.elim
theorem top_mk {K : PySem.W.Frag} {h : Heap} {mg : Str → Option Value} (I : K.In h) (G : h.Ns mainGlobals mg) {f0 : Addr} {oc0 kV0 dc0 pm0 cd0 ct0 : Value} {od0 an0 : Option Addr} {sl0 : Array (Option Value)} {f1 : Addr} {oc1 kV1 dc1 pm1 cd1 ct1 : Value} {od1 an1 : Option Addr} {sl1 : Array (Option Value)} {f2 : Addr} {oc2 kV2 dc2 pm2 cd2 ct2 : Value} {od2 an2 : Option Addr} {sl2 : Array (Option Value)} {f3 : Addr} {oc3 kV3 dc3 pm3 cd3 ct3 : Value} {od3 an3 : Option Addr} {sl3 : Array (Option Value)} {f4 : Addr} {oc4 kV4 dc4 pm4 cd4 ct4 : Value} {od4 an4 : Option Addr} {sl4 : Array (Option Value)} {f5 : Addr} {oc5 kV5 dc5 pm5 cd5 ct5 : Value} {od5 an5 : Option Addr} {sl5 : Array (Option Value)} {f6 : Addr} {oc6 kV6 dc6 pm6 cd6 ct6 : Value} {od6 an6 : Option Addr} {sl6 : Array (Option Value)} {f7 : Addr} {oc7 kV7 dc7 pm7 cd7 ct7 : Value} {od7 an7 : Option Addr} {sl7 : Array (Option Value)} {f8 : Addr} {oc8 kV8 dc8 pm8 cd8 ct8 : Value} {od8 an8 : Option Addr} {sl8 : Array (Option Value)} {f9 : Addr} {oc9 kV9 dc9 pm9 cd9 ct9 : Value} {od9 an9 : Option Addr} {sl9 : Array (Option Value)} {f10 : Addr} {oc10 kV10 dc10 pm10 cd10 ct10 : Value} {od10 an10 : Option Addr} {sl10 : Array (Option Value)} {f11 : Addr} {oc11 kV11 dc11 pm11 cd11 ct11 : Value} {od11 an11 : Option Addr} {sl11 : Array (Option Value)} {f12 : Addr} {oc12 kV12 dc12 pm12 cd12 ct12 : Value} {od12 an12 : Option Addr} {sl12 : Array (Option Value)} {f13 : Addr} {oc13 kV13 dc13 pm13 cd13 ct13 : Value} {od13 an13 : Option Addr} {sl13 : Array (Option Value)} {f14 : Addr} {oc14 kV14 dc14 pm14 cd14 ct14 : Value} {od14 an14 : Option Addr} {sl14 : Array (Option Value)} {f15 : Addr} {oc15 kV15 dc15 pm15 cd15 ct15 : Value} {od15 an15 : Option Addr} {sl15 : Array (Option Value)} {f16 : Addr} {oc16 kV16 dc16 pm16 cd16 ct16 : Value} {od16 an16 : Option Addr} {sl16 : Array (Option Value)} {a1 : Addr} {dd1 : Option Addr} {n1 : Nat} {sl_1 : Array (Option Value)} {a2 : Addr} {dd2 : Option Addr} {n2 : Nat} {sl_2 : Array (Option Value)} {t3 : Tok} {t4 : Tok} {a5 : Addr} {dd5 : Option Addr} {n5 : Nat} {sl_5 : Array (Option Value)} {t6 : Tok} {t7 : Tok} {a8 : Addr} {dd8 : Option Addr} {n8 : Nat} {sl_8 : Array (Option Value)} {t9 : Tok} {t10 : Tok} {a11 : Addr} {dd11 : Option Addr} {n11 : Nat} {sl_11 : Array (Option Value)} {t12 : Tok} {t13 : Tok} {a14 : Addr} {dd14 : Option Addr} {n14 : Nat} {sl_14 : Array (Option Value)} {t15 : Tok} {t16 : Tok} {a17 : Addr} {dd17 : Option Addr} {n17 : Nat} {sl_17 : Array (Option Value)} {t18 : Tok} {t19 : Tok} {a20 : Addr} {dd20 : Option Addr} {n20 : Nat} {sl_20 : Array (Option Value)} {t21 : Tok} {t22 : Tok} {a23 : Addr} {dd23 : Option Addr} {n23 : Nat} {sl_23 : Array (Option Value)} {t24 : Tok} {t25 : Tok} {a26 : Addr} {dd26 : Option Addr} {n26 : Nat} {sl_26 : Array (Option Value)} {t27 : Tok} {t28 : Tok} {a29 : Addr} {dd29 : Option Addr} {n29 : Nat} {sl_29 : Array (Option Value)} {t30 : Tok} {t31 : Tok} {a32 : Addr} {dd32 : Option Addr} {n32 : Nat} {sl_32 : Array (Option Value)} {t33 : Tok} {t34 : Tok} {a35 : Addr} {dd35 : Option Addr} {n35 : Nat} {sl_35 : Array (Option Value)} {t36 : Tok} {t37 : Tok} {a38 : Addr} {dd38 : Option Addr} {n38 : Nat} {sl_38 : Array (Option Value)} {t39 : Tok} {t40 : Tok} {a41 : Addr} {dd41 : Option Addr} {n41 : Nat} {sl_41 : Array (Option Value)} {t42 : Tok} {t43 : Tok} {a44 : Addr} {dd44 : Option Addr} {n44 : Nat} {sl_44 : Array (Option Value)} {t45 : Tok} {t46 : Tok} {a47 : Addr} {dd47 : Option Addr} {n47 : Nat} {sl_47 : Array (Option Value)} {t48 : Tok} {t49 : Tok} {a50 : Addr} {dd50 : Option Addr} {n50 : Nat} {sl_50 : Array (Option Value)} {t51 : Tok} {t52 : Tok} {a53 : Addr} {dd53 : Option Addr} {n53 : Nat} {sl_53 : Array (Option Value)} {a54 : Addr} {dd54 : Option Addr} {n54 : Nat} {sl_54 : Array (Option Value)} {t55 : Tok} {t56 : Tok} {t57 : Tok} {a58 : Addr} {dd58 : Option Addr} {n58 : Nat} {sl_58 : Array (Option Value)} {t59 : Tok} {t60 : Tok} {t61 : Tok} {a62 : Addr} {dd62 : Option Addr} {n62 : Nat} {sl_62 : Array (Option Value)} {t63 : Tok} {t64 : Tok} {t65 : Tok} {a66 : Addr} {dd66 : Option Addr} {n66 : Nat} {sl_66 : Array (Option Value)} {t67 : Tok} {t68 : Tok} {t69 : Tok} {a70 : Addr} {dd70 : Option Addr} {n70 : Nat} {sl_70 : Array (Option Value)} {t71 : Tok} {t72 : Tok} {t73 : Tok} {a74 : Addr} {dd74 : Option Addr} {n74 : Nat} {sl_74 : Array (Option Value)} {t75 : Tok} {t76 : Tok} {t77 : Tok} {a78 : Addr} {dd78 : Option Addr} {n78 : Nat} {sl_78 : Array (Option Value)} {t79 : Tok} {t80 : Tok} {t81 : Tok} {a82 : Addr} {dd82 : Option Addr} {n82 : Nat} {sl_82 : Array (Option Value)} {t83 : Tok} {t84 : Tok} {t85 : Tok} {a86 : Addr} {dd86 : Option Addr} {n86 : Nat} {sl_86 : Array (Option Value)} {t87 : Tok} {t88 : Tok} {t89 : Tok} {a90 : Addr} {dd90 : Option Addr} {n90 : Nat} {sl_90 : Array (Option Value)} {t91 : Tok} {t92 : Tok} {t93 : Tok} {t94 : Tok} {t95 : Tok} {t96 : Tok} {t97 : Tok} {t98 : Tok} {t99 : Tok} {t100 : Tok} {t101 : Tok} {t102 : Tok} {t103 : Tok} {t104 : Tok} {C_Malformed : Addr}
    (h1 : PySem.W.nsIn K mainGlobals "abs" = some none)
    (h2 : PySem.W.nsIn K mainGlobals "all" = some none)
    (h3 : PySem.W.nsIn K mainGlobals "bool" = some none)
    (h4 : PySem.W.nsIn K mainGlobals "int" = some none)
    (h5 : PySem.W.nsIn K mainGlobals "isinstance" = some none)
    (h6 : PySem.W.nsIn K mainGlobals "len" = some none)
    (h7 : PySem.W.nsIn K mainGlobals "list" = some none)
    (h8 : PySem.W.nsIn K mainGlobals "range" = some none)
    (h9 : PySem.W.nsIn K mainGlobals "sorted" = some none)
    (h10 : PySem.W.nsIn K mainGlobals "str" = some none)
    (h11 : PySem.W.nsIn K mainGlobals "tuple" = some none)
    (h12 : PySem.W.nsIn K mainGlobals "_law_draw" = some (some (.ref f0)))
    (h13 : K.lookup f0 = some ⟨oc0, od0, .func (PySem.W.fnOf "_law_draw" "_law_draw" (defArgs s__law_draw) (defBody s__law_draw) (defScope s__law_draw) .none kV0 dc0 pm0 an0 cd0 ct0), sl0⟩)
    (h14 : PySem.W.codeIn K cd0 "_law_draw" = true)
    (h15 : PySem.W.keepIn K (.ref f0) = true)
    (h16 : PySem.W.nsIn K mainGlobals "_law_take" = some (some (.ref f1)))
    (h17 : K.lookup f1 = some ⟨oc1, od1, .func (PySem.W.fnOf "_law_take" "_law_take" (defArgs s__law_take) (defBody s__law_take) (defScope s__law_take) .none kV1 dc1 pm1 an1 cd1 ct1), sl1⟩)
    (h18 : PySem.W.codeIn K cd1 "_law_take" = true)
    (h19 : PySem.W.keepIn K (.ref f1) = true)
    (h20 : PySem.W.nsIn K mainGlobals "arrows" = some (some (.ref f2)))
    (h21 : K.lookup f2 = some ⟨oc2, od2, .func (PySem.W.fnOf "arrows" "arrows" (defArgs s_arrows) (defBody s_arrows) (defScope s_arrows) .none kV2 dc2 pm2 an2 cd2 ct2), sl2⟩)
    (h22 : PySem.W.codeIn K cd2 "arrows" = true)
    (h23 : PySem.W.keepIn K (.ref f2) = true)
    (h24 : PySem.W.nsIn K mainGlobals "_law_arrows" = some (some (.ref f3)))
    (h25 : K.lookup f3 = some ⟨oc3, od3, .func (PySem.W.fnOf "_law_arrows" "_law_arrows" (defArgs s__law_arrows) (defBody s__law_arrows) (defScope s__law_arrows) .none kV3 dc3 pm3 an3 cd3 ct3), sl3⟩)
    (h26 : PySem.W.codeIn K cd3 "_law_arrows" = true)
    (h27 : PySem.W.keepIn K (.ref f3) = true)
    (h28 : PySem.W.nsIn K mainGlobals "joint_arrows" = some (some (.ref f4)))
    (h29 : K.lookup f4 = some ⟨oc4, od4, .func (PySem.W.fnOf "joint_arrows" "joint_arrows" (defArgs s_joint_arrows) (defBody s_joint_arrows) (defScope s_joint_arrows) .none kV4 dc4 pm4 an4 cd4 ct4), sl4⟩)
    (h30 : PySem.W.codeIn K cd4 "joint_arrows" = true)
    (h31 : PySem.W.keepIn K (.ref f4) = true)
    (h32 : PySem.W.nsIn K mainGlobals "_law_joint" = some (some (.ref f5)))
    (h33 : K.lookup f5 = some ⟨oc5, od5, .func (PySem.W.fnOf "_law_joint" "_law_joint" (defArgs s__law_joint) (defBody s__law_joint) (defScope s__law_joint) .none kV5 dc5 pm5 an5 cd5 ct5), sl5⟩)
    (h34 : PySem.W.codeIn K cd5 "_law_joint" = true)
    (h35 : PySem.W.keepIn K (.ref f5) = true)
    (h36 : PySem.W.nsIn K mainGlobals "_law_words" = some (some (.ref f6)))
    (h37 : K.lookup f6 = some ⟨oc6, od6, .func (PySem.W.fnOf "_law_words" "_law_words" (defArgs s__law_words) (defBody s__law_words) (defScope s__law_words) .none kV6 dc6 pm6 an6 cd6 ct6), sl6⟩)
    (h38 : PySem.W.codeIn K cd6 "_law_words" = true)
    (h39 : PySem.W.keepIn K (.ref f6) = true)
    (h40 : PySem.W.nsIn K mainGlobals "_law_led" = some (some (.ref f7)))
    (h41 : K.lookup f7 = some ⟨oc7, od7, .func (PySem.W.fnOf "_law_led" "_law_led" (defArgs s__law_led) (defBody s__law_led) (defScope s__law_led) .none kV7 dc7 pm7 an7 cd7 ct7), sl7⟩)
    (h42 : PySem.W.codeIn K cd7 "_law_led" = true)
    (h43 : PySem.W.keepIn K (.ref f7) = true)
    (h44 : PySem.W.nsIn K mainGlobals "check_word" = some (some (.ref f8)))
    (h45 : K.lookup f8 = some ⟨oc8, od8, .func (PySem.W.fnOf "check_word" "check_word" (defArgs s_check_word) (defBody s_check_word) (defScope s_check_word) .none kV8 dc8 pm8 an8 cd8 ct8), sl8⟩)
    (h46 : PySem.W.codeIn K cd8 "check_word" = true)
    (h47 : PySem.W.keepIn K (.ref f8) = true)
    (h48 : PySem.W.nsIn K mainGlobals "check_words" = some (some (.ref f9)))
    (h49 : K.lookup f9 = some ⟨oc9, od9, .func (PySem.W.fnOf "check_words" "check_words" (defArgs s_check_words) (defBody s_check_words) (defScope s_check_words) .none kV9 dc9 pm9 an9 cd9 ct9), sl9⟩)
    (h50 : PySem.W.codeIn K cd9 "check_words" = true)
    (h51 : PySem.W.keepIn K (.ref f9) = true)
    (h52 : PySem.W.nsIn K mainGlobals "ways_to" = some (some (.ref f10)))
    (h53 : K.lookup f10 = some ⟨oc10, od10, .func (PySem.W.fnOf "ways_to" "ways_to" (defArgs s_ways_to) (defBody s_ways_to) (defScope s_ways_to) .none kV10 dc10 pm10 an10 cd10 ct10), sl10⟩)
    (h54 : PySem.W.codeIn K cd10 "ways_to" = true)
    (h55 : PySem.W.keepIn K (.ref f10) = true)
    (h56 : PySem.W.nsIn K mainGlobals "derived" = some (some (.ref f11)))
    (h57 : K.lookup f11 = some ⟨oc11, od11, .func (PySem.W.fnOf "derived" "derived" (defArgs s_derived) (defBody s_derived) (defScope s_derived) .none kV11 dc11 pm11 an11 cd11 ct11), sl11⟩)
    (h58 : PySem.W.codeIn K cd11 "derived" = true)
    (h59 : PySem.W.keepIn K (.ref f11) = true)
    (h60 : PySem.W.nsIn K mainGlobals "all_forced" = some (some (.ref f12)))
    (h61 : K.lookup f12 = some ⟨oc12, od12, .func (PySem.W.fnOf "all_forced" "all_forced" (defArgs s_all_forced) (defBody s_all_forced) (defScope s_all_forced) .none kV12 dc12 pm12 an12 cd12 ct12), sl12⟩)
    (h62 : PySem.W.codeIn K cd12 "all_forced" = true)
    (h63 : PySem.W.keepIn K (.ref f12) = true)
    (h64 : PySem.W.nsIn K mainGlobals "does_force" = some (some (.ref f13)))
    (h65 : K.lookup f13 = some ⟨oc13, od13, .func (PySem.W.fnOf "does_force" "does_force" (defArgs s_does_force) (defBody s_does_force) (defScope s_does_force) .none kV13 dc13 pm13 an13 cd13 ct13), sl13⟩)
    (h66 : PySem.W.codeIn K cd13 "does_force" = true)
    (h67 : PySem.W.keepIn K (.ref f13) = true)
    (h68 : PySem.W.nsIn K mainGlobals "_law_ask" = some (some (.ref f14)))
    (h69 : K.lookup f14 = some ⟨oc14, od14, .func (PySem.W.fnOf "_law_ask" "_law_ask" (defArgs s__law_ask) (defBody s__law_ask) (defScope s__law_ask) .none kV14 dc14 pm14 an14 cd14 ct14), sl14⟩)
    (h70 : PySem.W.codeIn K cd14 "_law_ask" = true)
    (h71 : PySem.W.keepIn K (.ref f14) = true)
    (h72 : PySem.W.nsIn K mainGlobals "_law_says" = some (some (.ref f15)))
    (h73 : K.lookup f15 = some ⟨oc15, od15, .func (PySem.W.fnOf "_law_says" "_law_says" (defArgs s__law_says) (defBody s__law_says) (defScope s__law_says) .none kV15 dc15 pm15 an15 cd15 ct15), sl15⟩)
    (h74 : PySem.W.codeIn K cd15 "_law_says" = true)
    (h75 : PySem.W.keepIn K (.ref f15) = true)
    (h76 : PySem.W.nsIn K mainGlobals "law" = some (some (.ref f16)))
    (h77 : K.lookup f16 = some ⟨oc16, od16, .func (PySem.W.fnOf "law" "law" (defArgs s_law) (defBody s_law) (defScope s_law) .none kV16 dc16 pm16 an16 cd16 ct16), sl16⟩)
    (h78 : PySem.W.codeIn K cd16 "law" = true)
    (h79 : PySem.W.keepIn K (.ref f16) = true)
    (h80 : PySem.W.nsIn K mainGlobals "ARROWS" = some (some (.ref a1)))
    (h81 : K.lookup a1 = some ⟨.type "tuple", dd1, .seq (List.toArray [(.ref a2), (.ref a5), (.ref a8), (.ref a11), (.ref a14), (.ref a17), (.ref a20), (.ref a23), (.ref a26), (.ref a29), (.ref a32), (.ref a35), (.ref a38), (.ref a41), (.ref a44), (.ref a47), (.ref a50)]) n1, sl_1⟩)
    (h82 : K.lookup a2 = some ⟨.type "tuple", dd2, .seq (List.toArray [(.str "zero" t3), (.str "effic" t4)]) n2, sl_2⟩)
    (h83 : K.lookup a5 = some ⟨.type "tuple", dd5, .seq (List.toArray [(.str "same" t6), (.str "fip" t7)]) n5, sl_5⟩)
    (h84 : K.lookup a8 = some ⟨.type "tuple", dd8, .seq (List.toArray [(.str "same" t9), (.str "paired" t10)]) n8, sl_8⟩)
    (h85 : K.lookup a11 = some ⟨.type "tuple", dd11, .seq (List.toArray [(.str "fip" t12), (.str "fbr" t13)]) n11, sl_11⟩)
    (h86 : K.lookup a14 = some ⟨.type "tuple", dd14, .seq (List.toArray [(.str "fbr" t15), (.str "weak" t16)]) n14, sl_14⟩)
    (h87 : K.lookup a17 = some ⟨.type "tuple", dd17, .seq (List.toArray [(.str "weak" t18), (.str "rest" t19)]) n17, sl_17⟩)
    (h88 : K.lookup a20 = some ⟨.type "tuple", dd20, .seq (List.toArray [(.str "onerest" t21), (.str "rest" t22)]) n20, sl_20⟩)
    (h89 : K.lookup a23 = some ⟨.type "tuple", dd23, .seq (List.toArray [(.str "sdom" t24), (.str "isd" t25)]) n23, sl_23⟩)
    (h90 : K.lookup a26 = some ⟨.type "tuple", dd26, .seq (List.toArray [(.str "sdom" t27), (.str "wdom" t28)]) n26, sl_26⟩)
    (h91 : K.lookup a29 = some ⟨.type "tuple", dd29, .seq (List.toArray [(.str "isd" t30), (.str "onerest" t31)]) n29, sl_29⟩)
    (h92 : K.lookup a32 = some ⟨.type "tuple", dd32, .seq (List.toArray [(.str "isd" t33), (.str "fbr" t34)]) n32, sl_32⟩)
    (h93 : K.lookup a35 = some ⟨.type "tuple", dd35, .seq (List.toArray [(.str "wdom" t36), (.str "weak" t37)]) n35, sl_35⟩)
    (h94 : K.lookup a38 = some ⟨.type "tuple", dd38, .seq (List.toArray [(.str "sep" t39), (.str "fip" t40)]) n38, sl_38⟩)
    (h95 : K.lookup a41 = some ⟨.type "tuple", dd41, .seq (List.toArray [(.str "sep" t42), (.str "wdom" t43)]) n41, sl_41⟩)
    (h96 : K.lookup a44 = some ⟨.type "tuple", dd44, .seq (List.toArray [(.str "level" t45), (.str "sep" t46)]) n44, sl_44⟩)
    (h97 : K.lookup a47 = some ⟨.type "tuple", dd47, .seq (List.toArray [(.str "level" t48), (.str "paired" t49)]) n47, sl_47⟩)
    (h98 : K.lookup a50 = some ⟨.type "tuple", dd50, .seq (List.toArray [(.str "paired" t51), (.str "rest" t52)]) n50, sl_50⟩)
    (h99 : PySem.W.nsIn K mainGlobals "JOINT_ARROWS" = some (some (.ref a53)))
    (h100 : K.lookup a53 = some ⟨.type "tuple", dd53, .seq (List.toArray [(.ref a54), (.ref a58), (.ref a62), (.ref a66), (.ref a70), (.ref a74), (.ref a78), (.ref a82), (.ref a86)]) n53, sl_53⟩)
    (h101 : K.lookup a54 = some ⟨.type "tuple", dd54, .seq (List.toArray [(.str "same" t55), (.str "zero" t56), (.str "level" t57)]) n54, sl_54⟩)
    (h102 : K.lookup a58 = some ⟨.type "tuple", dd58, .seq (List.toArray [(.str "paired" t59), (.str "zero" t60), (.str "level" t61)]) n58, sl_58⟩)
    (h103 : K.lookup a62 = some ⟨.type "tuple", dd62, .seq (List.toArray [(.str "onerest" t63), (.str "same" t64), (.str "effic" t65)]) n62, sl_62⟩)
    (h104 : K.lookup a66 = some ⟨.type "tuple", dd66, .seq (List.toArray [(.str "same" t67), (.str "sep" t68), (.str "effic" t69)]) n66, sl_66⟩)
    (h105 : K.lookup a70 = some ⟨.type "tuple", dd70, .seq (List.toArray [(.str "level" t71), (.str "same" t72), (.str "zero" t73)]) n70, sl_70⟩)
    (h106 : K.lookup a74 = some ⟨.type "tuple", dd74, .seq (List.toArray [(.str "onerest" t75), (.str "sep" t76), (.str "sdom" t77)]) n74, sl_74⟩)
    (h107 : K.lookup a78 = some ⟨.type "tuple", dd78, .seq (List.toArray [(.str "level" t79), (.str "onerest" t80), (.str "zero" t81)]) n78, sl_78⟩)
    (h108 : K.lookup a82 = some ⟨.type "tuple", dd82, .seq (List.toArray [(.str "onerest" t83), (.str "paired" t84), (.str "effic" t85)]) n82, sl_82⟩)
    (h109 : K.lookup a86 = some ⟨.type "tuple", dd86, .seq (List.toArray [(.str "effic" t87), (.str "level" t88), (.str "zero" t89)]) n86, sl_86⟩)
    (h110 : PySem.W.nsIn K mainGlobals "WORDS" = some (some (.ref a90)))
    (h111 : K.lookup a90 = some ⟨.type "tuple", dd90, .seq (List.toArray [(.str "zero" t91), (.str "same" t92), (.str "fip" t93), (.str "fbr" t94), (.str "weak" t95), (.str "rest" t96), (.str "onerest" t97), (.str "sdom" t98), (.str "wdom" t99), (.str "isd" t100), (.str "sep" t101), (.str "level" t102), (.str "paired" t103), (.str "effic" t104)]) n90, sl_90⟩)
    (h112 : PySem.W.nsIn K mainGlobals "Malformed" = some (some (.ref C_Malformed)))
    (h113 : PySem.W.excIn K C_Malformed [.type "ValueError", .type "Exception", .type "BaseException", .type "object"] "ValueError.__new__" = true)
    (h114 : PySem.W.keepIn K (.ref C_Malformed) = true)
    (h115 : PySem.W.subIn K (.ref C_Malformed) (.type "BaseException") = some true)
    (h116 : PySem.W.typeIn K (.ref C_Malformed) = some (.type "type"))
    (h117 : PySem.W.isClsIn K C_Malformed = true)
    (h118 : PySem.W.typeIn K (.ref C_Malformed) = some (.type "type"))
    (h119 : PySem.W.subIn K (.ref C_Malformed) (.ref C_Malformed) = some true)
    (h120 : PySem.W.subIn K (.ref C_Malformed) (.type "BaseException") = some true) : Tp K mg where
  n_abs := PySem.W.mg_none_of I G h1
  n_all := PySem.W.mg_none_of I G h2
  n_bool := PySem.W.mg_none_of I G h3
  n_int := PySem.W.mg_none_of I G h4
  n_isinstance := PySem.W.mg_none_of I G h5
  n_len := PySem.W.mg_none_of I G h6
  n_list := PySem.W.mg_none_of I G h7
  n_range := PySem.W.mg_none_of I G h8
  n_sorted := PySem.W.mg_none_of I G h9
  n_str := PySem.W.mg_none_of I G h10
  n_tuple := PySem.W.mg_none_of I G h11
  f__law_draw := fnF I G h12 h13 h14 h15 fun _ _ _ _ _ _ us hl => match us, hl with | [_], _ => rfl
  f__law_take := fnF I G h16 h17 h18 h19 fun _ _ _ _ _ _ us hl => match us, hl with | [_, _], _ => rfl
  f_arrows := fnF I G h20 h21 h22 h23 fun _ _ _ _ _ _ us hl => match us, hl with | [], _ => rfl
  f__law_arrows := fnF I G h24 h25 h26 h27 fun _ _ _ _ _ _ us hl => match us, hl with | [], _ => rfl
  f_joint_arrows := fnF I G h28 h29 h30 h31 fun _ _ _ _ _ _ us hl => match us, hl with | [], _ => rfl
  f__law_joint := fnF I G h32 h33 h34 h35 fun _ _ _ _ _ _ us hl => match us, hl with | [], _ => rfl
  f__law_words := fnF I G h36 h37 h38 h39 fun _ _ _ _ _ _ us hl => match us, hl with | [], _ => rfl
  f__law_led := fnF I G h40 h41 h42 h43 fun _ _ _ _ _ _ us hl => match us, hl with | [_], _ => rfl
  f_check_word := fnF I G h44 h45 h46 h47 fun _ _ _ _ _ _ us hl => match us, hl with | [_], _ => rfl
  f_check_words := fnF I G h48 h49 h50 h51 fun _ _ _ _ _ _ us hl => match us, hl with | [_], _ => rfl
  f_ways_to := fnF I G h52 h53 h54 h55 fun _ _ _ _ _ _ us hl => match us, hl with | [_, _], _ => rfl
  f_derived := fnF I G h56 h57 h58 h59 fun _ _ _ _ _ _ us hl => match us, hl with | [_], _ => rfl
  f_all_forced := fnF I G h60 h61 h62 h63 fun _ _ _ _ _ _ us hl => match us, hl with | [_], _ => rfl
  f_does_force := fnF I G h64 h65 h66 h67 fun _ _ _ _ _ _ us hl => match us, hl with | [_, _], _ => rfl
  f__law_ask := fnF I G h68 h69 h70 h71 fun _ _ _ _ _ _ us hl => match us, hl with | [_, _, _], _ => rfl
  f__law_says := fnF I G h72 h73 h74 h75 fun _ _ _ _ _ _ us hl => match us, hl with | [_, _], _ => rfl
  f_law := fnF I G h76 h77 h78 h79 fun _ _ _ _ _ _ us hl => match us, hl with | [_], _ => rfl
  g_ARROWS := glF I G h80 (repK_tup h81 (by decide) (.cons (repK_tup h82 (by decide) (.cons (.str _ _) (.cons (.str _ _) .nil))) (.cons (repK_tup h83 (by decide) (.cons (.str _ _) (.cons (.str _ _) .nil))) (.cons (repK_tup h84 (by decide) (.cons (.str _ _) (.cons (.str _ _) .nil))) (.cons (repK_tup h85 (by decide) (.cons (.str _ _) (.cons (.str _ _) .nil))) (.cons (repK_tup h86 (by decide) (.cons (.str _ _) (.cons (.str _ _) .nil))) (.cons (repK_tup h87 (by decide) (.cons (.str _ _) (.cons (.str _ _) .nil))) (.cons (repK_tup h88 (by decide) (.cons (.str _ _) (.cons (.str _ _) .nil))) (.cons (repK_tup h89 (by decide) (.cons (.str _ _) (.cons (.str _ _) .nil))) (.cons (repK_tup h90 (by decide) (.cons (.str _ _) (.cons (.str _ _) .nil))) (.cons (repK_tup h91 (by decide) (.cons (.str _ _) (.cons (.str _ _) .nil))) (.cons (repK_tup h92 (by decide) (.cons (.str _ _) (.cons (.str _ _) .nil))) (.cons (repK_tup h93 (by decide) (.cons (.str _ _) (.cons (.str _ _) .nil))) (.cons (repK_tup h94 (by decide) (.cons (.str _ _) (.cons (.str _ _) .nil))) (.cons (repK_tup h95 (by decide) (.cons (.str _ _) (.cons (.str _ _) .nil))) (.cons (repK_tup h96 (by decide) (.cons (.str _ _) (.cons (.str _ _) .nil))) (.cons (repK_tup h97 (by decide) (.cons (.str _ _) (.cons (.str _ _) .nil))) (.cons (repK_tup h98 (by decide) (.cons (.str _ _) (.cons (.str _ _) .nil))) .nil))))))))))))))))))
  g_JOINT_ARROWS := glF I G h99 (repK_tup h100 (by decide) (.cons (repK_tup h101 (by decide) (.cons (.str _ _) (.cons (.str _ _) (.cons (.str _ _) .nil)))) (.cons (repK_tup h102 (by decide) (.cons (.str _ _) (.cons (.str _ _) (.cons (.str _ _) .nil)))) (.cons (repK_tup h103 (by decide) (.cons (.str _ _) (.cons (.str _ _) (.cons (.str _ _) .nil)))) (.cons (repK_tup h104 (by decide) (.cons (.str _ _) (.cons (.str _ _) (.cons (.str _ _) .nil)))) (.cons (repK_tup h105 (by decide) (.cons (.str _ _) (.cons (.str _ _) (.cons (.str _ _) .nil)))) (.cons (repK_tup h106 (by decide) (.cons (.str _ _) (.cons (.str _ _) (.cons (.str _ _) .nil)))) (.cons (repK_tup h107 (by decide) (.cons (.str _ _) (.cons (.str _ _) (.cons (.str _ _) .nil)))) (.cons (repK_tup h108 (by decide) (.cons (.str _ _) (.cons (.str _ _) (.cons (.str _ _) .nil)))) (.cons (repK_tup h109 (by decide) (.cons (.str _ _) (.cons (.str _ _) (.cons (.str _ _) .nil)))) .nil))))))))))
  g_WORDS := glF I G h110 (repK_tup h111 (by decide) (.cons (.str _ _) (.cons (.str _ _) (.cons (.str _ _) (.cons (.str _ _) (.cons (.str _ _) (.cons (.str _ _) (.cons (.str _ _) (.cons (.str _ _) (.cons (.str _ _) (.cons (.str _ _) (.cons (.str _ _) (.cons (.str _ _) (.cons (.str _ _) (.cons (.str _ _) .nil)))))))))))))))
  x_Malformed := ⟨C_Malformed, PySem.W.mg_of I G h112, h113, h114, h115, h116⟩
  s_Malformed := ⟨C_Malformed, PySem.W.mg_of I G h112, fun y v e A hA => by
    unfold sub_Malformed at e
    split at e
    · rename_i hy; subst hy; cases e; rw [PySem.W.mg_of I G h112] at hA; cases hA; exact exm_mk h120 h117 h118 h119
    · cases e⟩
theorem fin {l : PySem.W.OpenLaw} {w : World} {K : PySem.W.Frag} {h : Heap} {mg : Str → Option Value} {fa : Addr} (T : Tp K mg) (hfa : mg "law" = some (.ref fa)) (hb : ∀ g : G, -1 ≤ g.at_ → ∃ g', b_law ((List.replicate 9 none).set 1 (some (.val .draw))) g = .ret (.bl true) g') :
    ∃ fd : FuncData, (∀ (s : Shared) (v : Value), BindsTo s fd ⟨[v], []⟩ [("script", v)]) ∧ ∀ base : Heap, K.In base → base.Ns mainGlobals mg → FnOk l.prog w K mg base (L2.CX l.prog w) 6 fa fd ["script"] (spLaw K) := by
  obtain ⟨f, fd, Fn, hm, _⟩ := T.f_law.ex
  cases hfa.symm.trans hm
  refine ⟨fd, ?_, fun base _ _ => ok_law T Fn hb⟩
  obtain ⟨oc, od, kV, doc, pm, an, cdv, ct, osl, rfl, _⟩ := Fn.ex
  exact fun s v => .of_eq rfl
end DI
open PySem PySem.W PyProof.Rows
set_option maxHeartbeats 0 in
theorem PySem.Challenge.cw_gamekinds_k05_arrows_of_kinds_holds : PySem.Challenge.rw_gamekinds_k05_arrows_of_kinds.Holds := by
  w_on; o_law; k_head; (case hw => w_witness2)
  k_fill
  refine L2.walk_of (l := PySem.Challenge.rw_gamekinds_k05_arrows_of_kinds) (n := 63) (k := 6) (x := "script") (CX := fun w => L2.CX _ w) (sp := fun w => DI.spLaw _) rfl (by decide) rfl ⟨rfl, by decide, by decide⟩ (fun w h Y => PySem.W.kIn_of Y) ?F (fun _ _ a ns hl _ hS => ⟨a, ns, rfl, hS, hl, fun _ => rfl⟩) DI.cx_no
  case F =>
    intro w mg fa h KX G hmg
    refine DI.fin (h := h) ?T hmg DI.law_ok
    case T =>
      refine' DI.top_mk KX G ?h1 ?h2 ?h3 ?h4 ?h5 ?h6 ?h7 ?h8 ?h9 ?h10 ?h11 ?h12 ?h13 ?h14 ?h15 ?h16 ?h17 ?h18 ?h19 ?h20 ?h21 ?h22 ?h23 ?h24 ?h25 ?h26 ?h27 ?h28 ?h29 ?h30 ?h31 ?h32 ?h33 ?h34 ?h35 ?h36 ?h37 ?h38 ?h39 ?h40 ?h41 ?h42 ?h43 ?h44 ?h45 ?h46 ?h47 ?h48 ?h49 ?h50 ?h51 ?h52 ?h53 ?h54 ?h55 ?h56 ?h57 ?h58 ?h59 ?h60 ?h61 ?h62 ?h63 ?h64 ?h65 ?h66 ?h67 ?h68 ?h69 ?h70 ?h71 ?h72 ?h73 ?h74 ?h75 ?h76 ?h77 ?h78 ?h79 ?h80 ?h81 ?h82 ?h83 ?h84 ?h85 ?h86 ?h87 ?h88 ?h89 ?h90 ?h91 ?h92 ?h93 ?h94 ?h95 ?h96 ?h97 ?h98 ?h99 ?h100 ?h101 ?h102 ?h103 ?h104 ?h105 ?h106 ?h107 ?h108 ?h109 ?h110 ?h111 ?h112 ?h113 ?h114 ?h115 ?h116 ?h117 ?h118 ?h119 ?h120
      (case h1 => k_is); (case h2 => k_is); (case h3 => k_is); (case h4 => k_is); (case h5 => k_is); (case h6 => k_is); (case h7 => k_is); (case h8 => k_is); (case h9 => k_is); (case h10 => k_is); (case h11 => k_is); (case h12 => k_is); (case h13 => k_is); (case h14 => k_is); (case h15 => k_is); (case h16 => k_is); (case h17 => k_is); (case h18 => k_is); (case h19 => k_is); (case h20 => k_is); (case h21 => k_is); (case h22 => k_is); (case h23 => k_is); (case h24 => k_is); (case h25 => k_is); (case h26 => k_is); (case h27 => k_is); (case h28 => k_is); (case h29 => k_is); (case h30 => k_is); (case h31 => k_is); (case h32 => k_is); (case h33 => k_is); (case h34 => k_is); (case h35 => k_is); (case h36 => k_is); (case h37 => k_is); (case h38 => k_is); (case h39 => k_is); (case h40 => k_is); (case h41 => k_is); (case h42 => k_is); (case h43 => k_is); (case h44 => k_is); (case h45 => k_is); (case h46 => k_is); (case h47 => k_is); (case h48 => k_is); (case h49 => k_is); (case h50 => k_is); (case h51 => k_is); (case h52 => k_is); (case h53 => k_is); (case h54 => k_is); (case h55 => k_is); (case h56 => k_is); (case h57 => k_is); (case h58 => k_is); (case h59 => k_is); (case h60 => k_is); (case h61 => k_is); (case h62 => k_is); (case h63 => k_is); (case h64 => k_is); (case h65 => k_is); (case h66 => k_is); (case h67 => k_is); (case h68 => k_is); (case h69 => k_is); (case h70 => k_is); (case h71 => k_is); (case h72 => k_is); (case h73 => k_is); (case h74 => k_is); (case h75 => k_is); (case h76 => k_is); (case h77 => k_is); (case h78 => k_is); (case h79 => k_is); (case h80 => k_is); (case h81 => k_is); (case h82 => k_is); (case h83 => k_is); (case h84 => k_is); (case h85 => k_is); (case h86 => k_is); (case h87 => k_is); (case h88 => k_is); (case h89 => k_is); (case h90 => k_is); (case h91 => k_is); (case h92 => k_is); (case h93 => k_is); (case h94 => k_is); (case h95 => k_is); (case h96 => k_is); (case h97 => k_is); (case h98 => k_is); (case h99 => k_is); (case h100 => k_is); (case h101 => k_is); (case h102 => k_is); (case h103 => k_is); (case h104 => k_is); (case h105 => k_is); (case h106 => k_is); (case h107 => k_is); (case h108 => k_is); (case h109 => k_is); (case h110 => k_is); (case h111 => k_is); (case h112 => k_is); (case h113 => k_exc); (case h114 => k_is); (case h115 => k_is); (case h116 => k_is); (case h117 => k_is); (case h118 => k_is); (case h119 => k_is); (case h120 => k_is)

