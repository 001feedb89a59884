import PyProof.Rows.All
import Wide.All
import OpenK.AllK
import Wide.FinOn
import HandS.ForMost
import HandS.ForExc
import HandS.IsInst
import HandS.Deep
import HandS.Walk
import HandS.TupAny
import HandS.Wide
import HandS.SortInts
import HandS.Flow
import HandS.Style
import KE.SortData
import HandS.WordsExc
import HandS.Words
import KE.DataMinMax
import HandS.TupMul
import HandS.Zip
import KE.GoesEnum
import HandS.Strs
import HandS.Conv
import HandS.ReCall
import KE.KTupSum
import HandS.TupSets
import HandS.DictComp
import PySem.Challenge.RW_gamekinds_k78_whole_where_copying_leads
set_option Elab.async false
set_option linter.all false
set_option maxRecDepth 100000
set_option maxHeartbeats 4444444
namespace DI
open PySem L2 PySem.Spec PyProof.Rows
/-! values as plain data; what stands for them in the heap -/
abbrev St := L2.St

/-- plain data; draw: the law's own drawing list; fn: a def by its name; dct: a dict that stays, its keys and values -/
inductive D where
  | non | bl (b : Bool) | int (i : Int) | str (s : Str) | tup (xs : List D) | lst (xs : List D) | draw | fn (x : Str) | dct (ks vs : List D)
mutual
def D.py : D → PyData
  | .non => .none
  | .bl b => .bool b
  | .int i => .int i
  | .str s => .str s
  | .tup xs => .tuple (pyAll xs)
  | .lst xs => .list (pyAll xs)
  | .draw => .dict []
  | .fn _ => .dict []
  | .dct _ _ => .dict []
def pyAll : List D → List PyData
  | [] => []
  | x :: xs => x.py :: pyAll xs
end
mutual
/-- no list within -/
def D.nol : D → Bool
  | .lst _ => false
  | .dct _ _ => false
  | .tup xs => nolAll xs
  | _ => true
def nolAll : List D → Bool
  | [] => true
  | x :: xs => x.nol && nolAll xs
end

/-- a list that stays as it is -/
def SqP (K : PySem.W.Frag) (H : Hp) (a : Addr) (xs : List V) : Prop := ∃ o, H a = some (.frz o (.lst xs))
theorem SqP.l {K : PySem.W.Frag} {H : Hp} {a : Addr} {xs : List V} (h : SqP K H a xs) : SqL K H a xs := by
  obtain ⟨o, h⟩ := h
  exact .inl (.inr ⟨o, h⟩)

/-- a tuple that stays as it is, without attributes -/
def SqN (K : PySem.W.Frag) (H : Hp) (a : Addr) (xs : List V) : Prop := (∃ o, H a = some (.frz o (.tup xs)) ∧ o.dict = none) ∨ (SqT K (fun _ => none) a xs ∧ ∃ o, K.lookup a = some o ∧ o.cls = .type "tuple" ∧ o.dict = none)
theorem SqN.t {K : PySem.W.Frag} {H : Hp} {a : Addr} {xs : List V} (h : SqN K H a xs) : SqT K H a xs := by
  rcases h with ⟨o, h, _⟩ | ⟨h, _⟩
  · exact .inl (.inr ⟨o, h⟩)
  · rcases h with (h | ⟨o, h⟩) | h
    · cases h
    · cases h
    · exact .inr h
/-- .. newly laid -/
theorem SqN.new {K : PySem.W.Frag} {H : Hp} {q : Addr} {o : Obj} {xs : List V} (h : o.dict = none) : SqN K (upd H q (.frz o (.tup xs))) q xs := .inl ⟨o, upd_same, h⟩
/-- at another heap -/
theorem SqN.to {K : PySem.W.Frag} {H H' : Hp} (k : ∀ a o u, H a = some (.frz o (.tup u)) → H' a = some (.frz o (.tup u))) {a : Addr} {xs : List V} (h : SqN K H a xs) : SqN K H' a xs := by
  rcases h with ⟨o, h, e⟩ | h
  · exact .inl ⟨o, k _ _ _ h, e⟩
  · exact .inr h

/-- a dict's key, as data -/
def keyD : Key → D
  | .inl i => .int i
  | .inr x => .str x
/-- a dict that stays as it is: its keys, its values -/
def DcP (H : Hp) (a : Addr) (ks : List D) (xs : List V) : Prop := ∃ (o : Obj) (kvs : List (Key × V)), H a = some (.frz o (.dK kvs)) ∧ ks = kvs.map (fun p => keyD p.1) ∧ xs = kvs.map Prod.snd
theorem DcP.to {H H' : Hp} (k : ∀ a o u, H a = some (.frz o (.dK u)) → H' a = some (.frz o (.dK u))) {a : Addr} {ks : List D} {xs : List V} (h : DcP H a ks xs) : DcP H' a ks xs := by
  obtain ⟨o, kvs, h, r⟩ := h
  exact ⟨o, kvs, k _ _ _ h, r⟩

/-- the law's drawing list and its cells -/
structure DA where
  ad : Addr
  ac : Addr
mutual
inductive Rep (K : PySem.W.Frag) (mg : Str → Option Value) (ad : DA) (H : Hp) : V → D → Prop
  | non : Rep K mg ad H .non .non
  | bl (b : Bool) : Rep K mg ad H (.bl b) (.bl b)
  | int (i : Int) : Rep K mg ad H (.int i) (.int i)
  | str (x : Str) : Rep K mg ad H (.str x) (.str x)
  | tup {a : Addr} {xs : List V} {ds : List D} : SqN K H a xs → RepAll K mg ad H xs ds → Rep K mg ad H (.ref a) (.tup ds)
  | lst {a : Addr} {xs : List V} {ds : List D} : SqP K H a xs → RepAll K mg ad H xs ds → Rep K mg ad H (.ref a) (.lst ds)
  | draw : Rep K mg ad H (.ref ad.ad) .draw
  | fn {x : Str} {f : Addr} : mg x = some (.ref f) → Rep K mg ad H (.ref f) (.fn x)
  | dct {a : Addr} {xs : List V} {ks ds : List D} : DcP H a ks xs → RepAll K mg ad H xs ds → Rep K mg ad H (.ref a) (.dct ks ds)
inductive RepAll (K : PySem.W.Frag) (mg : Str → Option Value) (ad : DA) (H : Hp) : List V → List D → Prop
  | nil : RepAll K mg ad H [] []
  | cons {v : V} {vs : List V} {d : D} {ds : List D} : Rep K mg ad H v d → RepAll K mg ad H vs ds → RepAll K mg ad H (v :: vs) (d :: ds)
end

section
variable {K : PySem.W.Frag} {mg : Str → Option Value} {ad : DA} {H H' : Hp}
mutual
theorem Rep.map (ht : ∀ a xs, SqN K H a xs → SqN K H' a xs) (hl : ∀ a xs, SqP K H a xs → SqP K H' a xs) (hd : ∀ a ks xs, DcP H a ks xs → DcP H' a ks xs) : ∀ (d : D) (v : V), Rep K mg ad H v d → Rep K mg ad H' v d
  | .non, _, h => by cases h; exact .non
  | .bl _, _, h => by cases h; exact .bl _
  | .int _, _, h => by cases h; exact .int _
  | .str _, _, h => by cases h; exact .str _
  | .draw, _, h => by cases h; exact .draw
  | .fn _, _, h => by cases h with | fn e => exact .fn e
  | .tup ds, _, h => by cases h with | tup s r => exact .tup (ht _ _ s) (RepAll.map ht hl hd ds _ r)
  | .lst ds, _, h => by cases h with | lst s r => exact .lst (hl _ _ s) (RepAll.map ht hl hd ds _ r)
  | .dct ks ds, _, h => by cases h with | dct s r => exact .dct (hd _ _ _ s) (RepAll.map ht hl hd ds _ r)
theorem RepAll.map (ht : ∀ a xs, SqN K H a xs → SqN K H' a xs) (hl : ∀ a xs, SqP K H a xs → SqP K H' a xs) (hd : ∀ a ks xs, DcP H a ks xs → DcP H' a ks xs) : ∀ (ds : List D) (vs : List V), RepAll K mg ad H vs ds → RepAll K mg ad H' vs ds
  | [], _, h => by cases h; exact .nil
  | d :: ds, _, h => by cases h with | cons a b => exact .cons (Rep.map ht hl hd d _ a) (RepAll.map ht hl hd ds _ b)
end
mutual
theorem Rep.mapN (ht : ∀ a xs, SqN K H a xs → SqN K H' a xs) : ∀ (d : D) (v : V), d.nol = true → Rep K mg ad H v d → Rep K mg ad H' v d
  | .non, _, _, h => by cases h; exact .non
  | .bl _, _, _, h => by cases h; exact .bl _
  | .int _, _, _, h => by cases h; exact .int _
  | .str _, _, _, h => by cases h; exact .str _
  | .draw, _, _, h => by cases h; exact .draw
  | .fn _, _, _, h => by cases h with | fn e => exact .fn e
  | .tup ds, _, n, h => by
    cases h with
    | tup s r =>
      simp only [D.nol] at n
      exact .tup (ht _ _ s) (RepAll.mapN ht ds _ n r)
  | .lst ds, _, n, h => by simp [D.nol] at n
  | .dct _ _, _, n, h => by simp [D.nol] at n
theorem RepAll.mapN (ht : ∀ a xs, SqN K H a xs → SqN K H' a xs) : ∀ (ds : List D) (vs : List V), nolAll ds = true → RepAll K mg ad H vs ds → RepAll K mg ad H' vs ds
  | [], _, _, h => by cases h; exact .nil
  | d :: ds, _, n, h => by
    simp only [nolAll, Bool.and_eq_true] at n
    cases h with | cons a b => exact .cons (Rep.mapN ht d _ n.1 a) (RepAll.mapN ht ds _ n.2 b)
end
mutual
theorem Rep.dp : ∀ (d : D) (v : V), (d.py).canLay0 = true → Rep K mg ad H v d → Dp K H v d.py
  | .non, _, _, h => by cases h; exact .non
  | .bl _, _, _, h => by cases h; exact .bl _
  | .int _, _, _, h => by cases h; exact .int _
  | .str _, _, _, h => by cases h; exact .str _
  | .draw, _, n, h => by simp [D.py, PyData.canLay0] at n
  | .fn _, _, n, h => by simp [D.py, PyData.canLay0] at n
  | .dct _ _, _, n, h => by simp [D.py, PyData.canLay0] at n
  | .tup ds, _, n, h => by
    simp only [D.py, PyData.canLay0] at n
    cases h with | tup s r => exact .tup s.t (RepAll.dp ds _ n r)
  | .lst ds, _, n, h => by
    simp only [D.py, PyData.canLay0] at n
    cases h with | lst s r => exact .lst s.l (RepAll.dp ds _ n r)
theorem RepAll.dp : ∀ (ds : List D) (vs : List V), PyData.canLayAll0 (pyAll ds) = true → RepAll K mg ad H vs ds → DpAll K H vs (pyAll ds)
  | [], _, _, h => by cases h; exact .nil
  | d :: ds, _, n, h => by
    simp only [pyAll, PyData.canLayAll0, Bool.and_eq_true] at n
    cases h with | cons a b => exact .cons (Rep.dp d _ n.1 a) (RepAll.dp ds _ n.2 b)
end
theorem RepAll.len : ∀ {vs : List V} {ds : List D}, RepAll K mg ad H vs ds → vs.length = ds.length
  | _, _, .nil => rfl
  | _, _, .cons _ b => by rw [List.length_cons, List.length_cons, RepAll.len b]
theorem RepAll.get : ∀ {vs : List V} {ds : List D} {i : Nat} {d : D}, RepAll K mg ad H vs ds → ds[i]? = some d → ∃ v, vs[i]? = some v ∧ Rep K mg ad H v d
  | _, _, _, _, .nil, e => by simp at e
  | _, _, 0, _, .cons a _, e => by simp at e; subst e; exact ⟨_, rfl, a⟩
  | _, _, i + 1, d, .cons _ b, e => by
    obtain ⟨v, h1, h2⟩ := RepAll.get (i := i) (d := d) b (by simpa using e)
    exact ⟨v, by simpa using h1, h2⟩
theorem RepAll.getV : ∀ {vs : List V} {ds : List D} {i : Nat} {v : V}, RepAll K mg ad H vs ds → vs[i]? = some v → ∃ d, ds[i]? = some d ∧ Rep K mg ad H v d
  | _, _, _, _, .nil, e => by simp at e
  | _, _, 0, _, .cons a _, e => by simp at e; subst e; exact ⟨_, rfl, a⟩
  | _, _, i + 1, v, .cons _ b, e => by
    obtain ⟨d, h1, h2⟩ := RepAll.getV (i := i) (v := v) b (by simpa using e)
    exact ⟨d, by simpa using h1, h2⟩
theorem RepAll.app : ∀ {vs : List V} {ds : List D} {ws : List V} {es : List D}, RepAll K mg ad H vs ds → RepAll K mg ad H ws es → RepAll K mg ad H (vs ++ ws) (ds ++ es)
  | _, _, _, _, .nil, h => h
  | _, _, _, _, .cons a b, h => .cons a (RepAll.app b h)
theorem RepAll.take : ∀ {vs : List V} {ds : List D} (n : Nat), RepAll K mg ad H vs ds → RepAll K mg ad H (vs.take n) (ds.take n)
  | _, _, 0, _ => .nil
  | _, _, _ + 1, .nil => .nil
  | _, _, n + 1, .cons a b => .cons a (RepAll.take n b)
theorem RepAll.drop : ∀ {vs : List V} {ds : List D} (n : Nat), RepAll K mg ad H vs ds → RepAll K mg ad H (vs.drop n) (ds.drop n)
  | _, _, 0, h => h
  | _, _, _ + 1, .nil => .nil
  | _, _, n + 1, .cons _ b => RepAll.drop n b
theorem RepAll.set {v : V} {d : D} (r : Rep K mg ad H v d) : ∀ {vs : List V} {ds : List D} (n : Nat), RepAll K mg ad H vs ds → RepAll K mg ad H (vs.set n v) (ds.set n d)
  | _, _, _, .nil => .nil
  | _, _, 0, .cons _ b => .cons r b
  | _, _, n + 1, .cons a b => .cons a (RepAll.set r n b)
theorem RepAll.erase : ∀ {vs : List V} {ds : List D} (n : Nat), RepAll K mg ad H vs ds → RepAll K mg ad H (vs.eraseIdx n) (ds.eraseIdx n)
  | _, _, _, .nil => .nil
  | _, _, 0, .cons _ b => b
  | _, _, n + 1, .cons a b => .cons a (RepAll.erase n b)
end

/-- the law's draws: its cells, the place, what is left of the present one, the mixed row -/
structure G where
  cells : List Int
  at_ : Int
  cur : Int
  seed : Int
/-- an exception: its class's name, its own attributes -/
structure Exn where
  cls : Str
  arg : List (Str × D)
inductive R (α : Type) where
  | ok (a : α) (g : G) | er (x : Exn) (g : G) | bad
def R.bind {α β : Type} : R α → (α → G → R β) → R β
  | .ok a g, f => f a g
  | .er x g, _ => .er x g
  | .bad, _ => .bad
def R.map {α β : Type} (f : α → β) : R α → R β
  | .ok a g => .ok (f a) g
  | .er x g => .er x g
  | .bad => .bad
@[simp] theorem R.bind_ok {α β : Type} (a : α) (g : G) (f : α → G → R β) : (R.ok a g).bind f = f a g := rfl
@[simp] theorem R.bind_er {α β : Type} (x : Exn) (g : G) (f : α → G → R β) : (R.er x g).bind f = .er x g := rfl
@[simp] theorem R.bind_bad {α β : Type} (f : α → G → R β) : (R.bad).bind f = .bad := rfl
@[simp] theorem R.map_ok {α β : Type} (a : α) (g : G) (f : α → β) : (R.ok a g).map f = .ok (f a) g := rfl
@[simp] theorem R.map_er {α β : Type} (x : Exn) (g : G) (f : α → β) : (R.er x g).map f = .er x g := rfl
@[simp] theorem R.map_bad {α β : Type} (f : α → β) : (R.bad).map f = .bad := rfl
def lift {α : Type} : Option α → G → R α
  | some a, g => .ok a g
  | none, _ => .bad
@[simp] theorem lift_some {α : Type} (a : α) (g : G) : lift (some a) g = .ok a g := rfl
@[simp] theorem lift_none {α : Type} (g : G) : lift (none : Option α) g = .bad := rfl

/-- what was tracked is as it was, but the draws -/
def Keep (ad : DA) (H H' : Hp) : Prop := ∀ a o, H a = some o → a ≠ ad.ad → H' a = some o
theorem Keep.refl (ad : DA) (H : Hp) : Keep ad H H := fun _ _ h _ => h
theorem Keep.trans {ad : DA} {H H1 H2 : Hp} (a : Keep ad H H1) (b : Keep ad H1 H2) : Keep ad H H2 := fun c o h n => b c o (a c o h n) n
theorem Keep.free {ad : DA} {a : Addr} {H H' : Hp} (k : Keep ad H H') (n : a ≠ ad.ad) (h : H' a = none) : H a = none := by
  cases q : H a with
  | none => rfl
  | some o => rw [k a o q n] at h; cases h
theorem Keep.upd {ad : DA} {p : Addr} {H : Hp} {o : HO} (h : H p = none) : Keep ad H (upd H p o) := fun b x e _ => by
  rw [upd_ne (ne_of_none e h)]; exact e
def DrawOk (ad : DA) (H : Hp) (g : G) : Prop := H ad.ad = some (.lst [.ref ad.ac, .int g.at_, .int g.cur, .int g.seed]) ∧ ∃ o, H ad.ac = some (.frz o (.lst (g.cells.map V.int)))
theorem DrawOk.upd {ad : DA} {p : Addr} {H : Hp} {o : HO} {g : G} (d : DrawOk ad H g) (h : H p = none) : DrawOk ad (upd H p o) g := by
  obtain ⟨h1, oc, h2⟩ := d
  refine ⟨?_, oc, ?_⟩
  · rw [upd_ne (ne_of_none h1 h)]; exact h1
  · rw [upd_ne (ne_of_none h2 h)]; exact h2
theorem DrawOk.ne {ad : DA} {p : Addr} {H : Hp} {g : G} (d : DrawOk ad H g) (h : H p = none) : p ≠ ad.ad := by
  obtain ⟨h1, oc, h2⟩ := d
  exact fun e => ne_of_none h1 h e.symm
/-- at another heap that has these two -/
theorem DrawOk.at_ {ad : DA} {H H' : Hp} {g : G} (d : DrawOk ad H g) (h1 : ∀ xs, H ad.ad = some (.lst xs) → H' ad.ad = some (.lst xs)) (h2 : ∀ o u, H ad.ac = some (.frz o u) → H' ad.ac = some (.frz o u)) : DrawOk ad H' g := by
  obtain ⟨e1, oc, e2⟩ := d
  exact ⟨h1 _ e1, oc, h2 _ _ e2⟩
section
variable {K : PySem.W.Frag} {mg : Str → Option Value} {ad : DA} {H H' : Hp} {g : G}
theorem Keep.sqN (k : Keep ad H H') (dk : DrawOk ad H g) {a : Addr} {xs : List V} (h : SqN K H a xs) : SqN K H' a xs := by
  obtain ⟨e, _⟩ := dk
  exact h.to fun a o u h => k _ _ h (ne_of h e (by intro z; cases z))
theorem Keep.sqP (k : Keep ad H H') (dk : DrawOk ad H g) {a : Addr} {xs : List V} (h : SqP K H a xs) : SqP K H' a xs := by
  obtain ⟨e, _⟩ := dk
  obtain ⟨o, h⟩ := h
  exact ⟨o, k _ _ h (ne_of h e (by intro z; cases z))⟩
theorem Keep.dcP (k : Keep ad H H') (dk : DrawOk ad H g) {a : Addr} {ks : List D} {xs : List V} (h : DcP H a ks xs) : DcP H' a ks xs := by
  obtain ⟨e, _⟩ := dk
  exact h.to fun a o u h => k _ _ h (ne_of h e (by intro z; cases z))
theorem Rep.keep {v : V} {d : D} (r : Rep K mg ad H v d) (k : Keep ad H H') (dk : DrawOk ad H g) : Rep K mg ad H' v d := Rep.map (fun _ _ => k.sqN dk) (fun _ _ => k.sqP dk) (fun _ _ _ => k.dcP dk) d v r
theorem RepAll.keep {v : List V} {d : List D} (r : RepAll K mg ad H v d) (k : Keep ad H H') (dk : DrawOk ad H g) : RepAll K mg ad H' v d := RepAll.map (fun _ _ => k.sqN dk) (fun _ _ => k.sqP dk) (fun _ _ _ => k.dcP dk) d v r
end

/-- an exception's class and own attributes -/
def ExRep (K : PySem.W.Frag) (mg : Str → Option Value) (ad : DA) (H : Hp) (c : Value) (dd : Option Addr) (x : Exn) : Prop :=
  ∃ C, mg x.cls = some (.ref C) ∧ c = .ref C ∧ (x.arg ≠ [] → ∃ p fs, dd = some p ∧ H p = some (.xd fs) ∧ fs.map (·.1) = x.arg.map (·.1) ∧ RepAll K mg ad H (fs.map (·.2)) (x.arg.map (·.2)))

/-- a value: as data, or a list just made -/
inductive Fv where
  | v (d : D) | f (ds : List D)
def Fv.d : Fv → D
  | .v d => d
  | .f ds => .lst ds
def Fv.nol : Fv → Bool
  | .v d => d.nol
  | .f ds => nolAll ds
abbrev DSt := List (Option D)
abbrev ET := DSt → G → R D
abbrev XT := DSt → G → R Fv
abbrev BT := DSt → G → R Bool

section
variable (K : PySem.W.Frag) (mg : Str → Option Value)
def FRep (ad : DA) (H H' : Hp) (v : V) : Fv → Prop
  | .v d => Rep K mg ad H' v d
  | .f ds => ∃ a vs, v = .ref a ∧ H a = none ∧ H' a = some (.lst vs) ∧ RepAll K mg ad H' vs ds
def SR (ad : DA) (H : Hp) (B : List Nat) (σ : St) (S : DSt) : Prop := σ.length = S.length ∧ ∀ i ∈ B, ∀ d, S[i]? = some (some d) → ∃ v, σ[i]? = some (some v) ∧ Rep K mg ad H v d
def postX (ad : DA) (H : Hp) (Q : VK) (W : XK) : R Fv → Prop
  | .ok f g' => ∀ v H', Keep ad H H' → DrawOk ad H' g' → FRep K mg ad H H' v f → Q v H'
  | .er x g' => ∀ c dd H', Keep ad H H' → DrawOk ad H' g' → ExRep K mg ad H' c dd x → W c dd H'
  | .bad => False
def postE (ad : DA) (H : Hp) (Q : VK) (W : XK) : R D → Prop
  | .ok d g' => ∀ v H', Keep ad H H' → DrawOk ad H' g' → Rep K mg ad H' v d → Q v H'
  | .er x g' => ∀ c dd H', Keep ad H H' → DrawOk ad H' g' → ExRep K mg ad H' c dd x → W c dd H'
  | .bad => False
def rdX (W : WX) (B : List Nat) (t : XT) : TE := fun σ H Q => ∃ ad S g, SR K mg ad H B σ S ∧ DrawOk ad H g ∧ postX K mg ad H Q (fun c d H' => W c d σ H') (t S g)
def rdE (W : WX) (B : List Nat) (t : ET) : TE := fun σ H Q => ∃ ad S g, SR K mg ad H B σ S ∧ DrawOk ad H g ∧ postE K mg ad H Q (fun c d H' => W c d σ H') (t S g)
/-- an argument list -/
def postA (ad : DA) (H : Hp) (Q : List V → Hp → Prop) (W : XK) : R (List D) → Prop
  | .ok d g' => ∀ v H', Keep ad H H' → DrawOk ad H' g' → RepAll K mg ad H' v d → Q v H'
  | .er x g' => ∀ c dd H', Keep ad H H' → DrawOk ad H' g' → ExRep K mg ad H' c dd x → W c dd H'
  | .bad => False
def rdA (W : WX) (B : List Nat) (t : DSt → G → R (List D)) : TA := fun σ H Q => ∃ ad S g, SR K mg ad H B σ S ∧ DrawOk ad H g ∧ postA K mg ad H Q (fun c d H' => W c d σ H') (t S g)
/-- a test -/
def postT (ad : DA) (H : Hp) (Q : Bool → Hp → Prop) (W : XK) : R Bool → Prop
  | .ok b g' => ∀ H', Keep ad H H' → DrawOk ad H' g' → Q b H'
  | .er x g' => ∀ c dd H', Keep ad H H' → DrawOk ad H' g' → ExRep K mg ad H' c dd x → W c dd H'
  | .bad => False
def rdT (W : WX) (B : List Nat) (t : BT) : TT := fun σ H Q => ∃ ad S g, SR K mg ad H B σ S ∧ DrawOk ad H g ∧ postT K mg ad H Q (fun c d H' => W c d σ H') (t S g)
end
theorem PE.imp {X : Cx} {e : Expr} {t t' : TE} (h : PE X e t) (i : ∀ σ H Q, t' σ H Q → t σ H Q) : PE X e t' := ⟨fun pins s σ H Q I q => h.run pins s σ H Q I (i σ H Q q)⟩
theorem PT.imp {X : Cx} {e : Expr} {t t' : TT} (h : PT X e t) (i : ∀ σ H Q, t' σ H Q → t σ H Q) : PT X e t' := ⟨fun pins s σ H Q I q => h.run pins s σ H Q I (i σ H Q q)⟩
theorem PW.imp {X : Cx} {e : Expr} {t t' : TT} (h : PW X e t) (i : ∀ σ H Q, t' σ H Q → t σ H Q) : PW X e t' := ⟨fun w pins s σ H Q I q => h.run w pins s σ H Q I (i σ H Q q)⟩
theorem PA.imp {X : Cx} {e : List Expr} {t t' : TA} (h : PA X e t) (i : ∀ σ H Q, t' σ H Q → t σ H Q) : PA X e t' := ⟨fun p pins s σ H Q I q => h.run p pins s σ H Q I (i σ H Q q)⟩
theorem PS.imp {X : Cx} {e : Stmt} {t t' : TS} (h : PS X e t) (i : ∀ D σ H, t' D σ H → t D σ H) : PS X e t' := ⟨fun pins s σ H D I q => h.run pins s σ H D I (i D σ H q)⟩
theorem PSs.imp {X : Cx} {e : List Stmt} {t t' : TS} (h : PSs X e t) (i : ∀ D σ H, t' D σ H → t D σ H) : PSs X e t' := ⟨fun pins s σ H D I q => h.run pins s σ H D I (i D σ H q)⟩

/-! ### lists frozen and unfrozen -/
open Classical in
noncomputable def fzSet (S : Addr → Prop) (h : Heap) (H : Hp) : Hp := fun a => if S a then (match H a, h.get? a with | some (.lst xs), some o => some (.frz o (.lst xs)) | x, _ => x) else H a
open Classical in
noncomputable def ufSet (S : Addr → Prop) (H : Hp) : Hp := fun a => if S a then (match H a with | some (.frz _ (.lst xs)) => some (.lst xs) | x => x) else H a
section
variable {S : Addr → Prop} {h : Heap} {H : Hp} {a : Addr}
theorem fz_no (n : ¬ S a) : fzSet S h H a = H a := by unfold fzSet; rw [if_neg n]
theorem fz_yes {xs : List V} {o : Obj} (y : S a) (e : H a = some (.lst xs)) (e2 : h.get? a = some o) : fzSet S h H a = some (.frz o (.lst xs)) := by unfold fzSet; rw [if_pos y, e, e2]
theorem fz_other {x : HO} (e : H a = some x) (n : ∀ xs, x ≠ .lst xs) : fzSet S h H a = some x := by
  unfold fzSet
  split
  · rw [e]
    cases x with
    | lst xs => exact absurd rfl (n xs)
    | _ => rfl
  · exact e
theorem fz_none (e : H a = none) : fzSet S h H a = none := by
  unfold fzSet
  split
  · rw [e]
  · exact e
theorem uf_no (n : ¬ S a) : ufSet S H a = H a := by unfold ufSet; rw [if_neg n]
theorem uf_yes {xs : List V} {o : Obj} (y : S a) (e : H a = some (.frz o (.lst xs))) : ufSet S H a = some (.lst xs) := by unfold ufSet; rw [if_pos y, e]
theorem uf_none (e : H a = none) : ufSet S H a = none := by
  unfold ufSet
  split
  · rw [e]
  · exact e
theorem uf_other {x : HO} (e : H a = some x) (n : ∀ o xs, x ≠ .frz o (.lst xs)) : ufSet S H a = some x := by
  unfold ufSet
  split
  · rw [e]
    cases x with
    | frz o u =>
      cases u with
      | lst xs => exact absurd rfl (n o xs)
      | _ => rfl
    | _ => rfl
  · exact e
theorem fz_cases {x : HO} (e : fzSet S h H a = some x) : H a = some x ∨ ∃ xs o, H a = some (.lst xs) ∧ h.get? a = some o ∧ x = .frz o (.lst xs) := by
  unfold fzSet at e
  split at e
  · cases q : H a with
    | none => rw [q] at e; cases e
    | some y =>
      rw [q] at e
      cases y with
      | lst xs =>
        cases r : h.get? a with
        | none => rw [r] at e; exact .inl e
        | some o => rw [r] at e; exact .inr ⟨xs, o, rfl, rfl, (Option.some.inj e).symm⟩
      | _ => exact .inl e
  · exact .inl e
theorem uf_cases {x : HO} (e : ufSet S H a = some x) : H a = some x ∨ ∃ xs o, S a ∧ H a = some (.frz o (.lst xs)) ∧ x = .lst xs := by
  unfold ufSet at e
  split at e
  · rename_i hs
    cases q : H a with
    | none => rw [q] at e; cases e
    | some y =>
      rw [q] at e
      cases y with
      | frz o u =>
        cases u with
        | lst xs => exact .inr ⟨xs, o, hs, rfl, (Option.some.inj e).symm⟩
        | _ => exact .inl e
      | _ => exact .inl e
  · exact .inl e
end
section
variable {X : Cx} {pins : List (Addr × Obj)} {σ : St} {H H' : Hp} {s : Shared} {S : Addr → Prop}
/-- another abstract heap at the same state -/
theorem ghost (I : Inv X pins σ H s) (hok : HOk X.prog X.w H' s.heap) (free : ∀ b, H b = none → H' b = none) (tups : ∀ b xs, X.H_0 b = some (.tup xs) → H' b = some (.tup xs)) (frzs : ∀ b o u, X.H_0 b = some (.frz o u) → H' b = some (.frz o u))
    (tbls : ∀ b ps, X.H_0 b = some (.tbl ps) → ∃ more, H' b = some (.tbl (ps ++ more))) : Inv X pins σ H' s :=
  ⟨I.ok, I.os, I.bare, ⟨I.base.keep, I.base.slot, fun b o e n hx => free b (I.base.free b o e n hx), I.base.there, tups, frzs, tbls⟩, I.loc, I.cell, free _ I.free, fun x c e => free c (I.freeC x c e), fun p hp => ⟨(I.pin p hp).1, free _ (I.pin p hp).2.1, (I.pin p hp).2.2⟩, hok, I.len⟩
theorem freeze (I : Inv X pins σ H s) (S : Addr → Prop) : Inv X pins σ (fzSet S s.heap H) s := by
  have stay : ∀ {a : Addr} {o : HO}, ObjOk X.prog X.w H s.heap a o → ObjOk X.prog X.w (fzSet S s.heap H) s.heap a o := fun {a o} x =>
    x.stay (fun _ _ _ q => q) (fun _ e => fz_other e (by intro xs z; cases z)) (fun _ _ e => fz_other e (by intro xs z; cases z))
  refine ghost I (fun a o e => ?_) (fun b e => fz_none e) (fun b xs e => fz_other (I.base.tups b xs e) (by intro xs z; cases z)) (fun b o u e => fz_other (I.base.frzs b o u e) (by intro xs z; cases z)) (fun b ps e => ?_)
  · rcases fz_cases e with e1 | ⟨xs, ob, e1, e2, rfl⟩
    · exact stay (I.hok a o e1)
    · exact ⟨e2, stay (I.hok a _ e1)⟩
  · obtain ⟨m, q⟩ := I.base.tbls b ps e
    exact ⟨m, fz_other q (by intro xs z; cases z)⟩
theorem unfreeze (I : Inv X pins σ H s) (S : Addr → Prop) (h0 : ∀ a, S a → X.H_0 a = none) : Inv X pins σ (ufSet S H) s := by
  have stay : ∀ {a : Addr} {o : HO}, ObjOk X.prog X.w H s.heap a o → ObjOk X.prog X.w (ufSet S H) s.heap a o := fun {a o} x =>
    x.stay (fun _ _ _ q => q) (fun _ e => uf_other e (by intro o xs z; cases z)) (fun _ _ e => uf_other e (by intro o xs z; cases z))
  refine ghost I (fun a o e => ?_) (fun b e => uf_none e) (fun b xs e => uf_other (I.base.tups b xs e) (by intro o xs z; cases z)) (fun b o u e => ?_) (fun b ps e => ?_)
  · rcases uf_cases e with e1 | ⟨xs, ob, _, e1, rfl⟩
    · exact stay (I.hok a o e1)
    · have z : ObjOk X.prog X.w H s.heap a (.frz ob (.lst xs)) := I.hok a _ e1
      obtain ⟨_, z⟩ := z
      exact stay z
  · have n : ¬ S b := fun hs => by rw [h0 b hs] at e; cases e
    rw [uf_no n]
    exact I.base.frzs b o u e
  · obtain ⟨m, q⟩ := I.base.tbls b ps e
    exact ⟨m, uf_other q (by intro o xs z; cases z)⟩
end

/-! expressions -/

/-- how a result's kind lies in the heap: by the heap ahead, the heap behind -/
abbrev RpT (γ α : Type) := DA → Hp → Hp → γ → α → Prop
def pst {γ α : Type} (Rp : RpT γ α) (K : PySem.W.Frag) (mg : Str → Option Value) (ad : DA) (H : Hp) (Q : γ → Hp → Prop) (W : XK) : R α → Prop
  | .ok f g' => ∀ v H', Keep ad H H' → DrawOk ad H' g' → Rp ad H H' v f → Q v H'
  | .er x g' => ∀ c dd H', Keep ad H H' → DrawOk ad H' g' → ExRep K mg ad H' c dd x → W c dd H'
  | .bad => False
/-- from a known state -/
structure At {γ α : Type} (Rp : RpT γ α) (K : PySem.W.Frag) (mg : Str → Option Value) (W : WX) (B : List Nat) (t : DSt → G → R α) (ad : DA) (S : DSt) (g : G) (σ : St) (H : Hp) (Q : γ → Hp → Prop) : Prop where
  sr : SR K mg ad H B σ S
  dk : DrawOk ad H g
  po : pst Rp K mg ad H Q (fun c d H' => W c d σ H') (t S g)
def rd {γ α : Type} (Rp : RpT γ α) (K : PySem.W.Frag) (mg : Str → Option Value) (W : WX) (B : List Nat) (t : DSt → G → R α) : St → Hp → (γ → Hp → Prop) → Prop := fun σ H Q => ∃ ad S g, At Rp K mg W B t ad S g σ H Q
section
variable (K : PySem.W.Frag) (mg : Str → Option Value)
abbrev RpE : RpT V D := fun ad _ H' v d => Rep K mg ad H' v d
abbrev RpX : RpT V Fv := fun ad H H' v f => FRep K mg ad H H' v f
abbrev RpA : RpT (List V) (List D) := fun ad _ H' v d => RepAll K mg ad H' v d
abbrev RpT' : RpT Bool Bool := fun _ _ _ b c => b = c
abbrev eE (W : WX) (B : List Nat) (t : ET) : TE := rd (RpE K mg) K mg W B t
abbrev eX (W : WX) (B : List Nat) (t : XT) : TE := rd (RpX K mg) K mg W B t
abbrev eA (W : WX) (B : List Nat) (t : DSt → G → R (List D)) : TA := rd (RpA K mg) K mg W B t
abbrev eT (W : WX) (B : List Nat) (t : BT) : TT := rd RpT' K mg W B t
end
/-- the result's kind stands also over an earlier heap -/
def Bk {γ α : Type} (Rp : RpT γ α) : Prop := ∀ ad H H1 H' g v a, Keep ad H H1 → DrawOk ad H1 g → Rp ad H1 H' v a → Rp ad H H' v a
section
variable {K : PySem.W.Frag} {mg : Str → Option Value} {W : WX}
theorem bkE : Bk (RpE K mg) := fun _ _ _ _ _ _ _ _ _ h => h
theorem bkA : Bk (RpA K mg) := fun _ _ _ _ _ _ _ _ _ h => h
theorem bkT : Bk RpT' := fun _ _ _ _ _ _ _ _ _ h => h
theorem bkX : Bk (RpX K mg) := fun ad H H1 H' g v a k dk h => by
  cases a with
  | v d => exact h
  | f ds =>
    obtain ⟨p, vs, e, n, q⟩ := h
    exact ⟨p, vs, e, k.free (dk.ne n) n, q⟩
theorem SR.keep {ad : DA} {H H' : Hp} {B : List Nat} {σ : St} {S : DSt} {g : G} (h : SR K mg ad H B σ S) (k : Keep ad H H') (dk : DrawOk ad H g) : SR K mg ad H' B σ S := ⟨h.1, fun i hi d e => by
  obtain ⟨v, h1, h2⟩ := h.2 i hi d e
  exact ⟨v, h1, h2.keep k dk⟩⟩
theorem SR.left {ad : DA} {H : Hp} {B C : List Nat} {σ : St} {S : DSt} (h : SR K mg ad H (B ++ C) σ S) : SR K mg ad H B σ S := ⟨h.1, fun i hi => h.2 i (List.mem_append_left _ hi)⟩
theorem SR.right {ad : DA} {H : Hp} {B C : List Nat} {σ : St} {S : DSt} (h : SR K mg ad H (B ++ C) σ S) : SR K mg ad H C σ S := ⟨h.1, fun i hi => h.2 i (List.mem_append_right _ hi)⟩
theorem pst.back {γ α : Type} {Rp : RpT γ α} (b : Bk Rp) {ad : DA} {H H1 : Hp} {g : G} {Q : γ → Hp → Prop} {V : XK} {r : R α} (k : Keep ad H H1) (dk : DrawOk ad H1 g) (p : pst Rp K mg ad H Q V r) : pst Rp K mg ad H1 Q V r := by
  cases r with
  | ok a g' => exact fun v H' k' d' q => p v H' (k.trans k') d' (b _ _ _ _ _ _ _ k dk q)
  | er x g' => exact fun c dd H' k' d' q => p c dd H' (k.trans k') d' q
  | bad => exact p
/-- one after another -/
theorem At.bind {γ1 α1 γ2 α2 : Type} {Rp1 : RpT γ1 α1} {Rp2 : RpT γ2 α2} (b2 : Bk Rp2) {B1 B2 : List Nat} {t : DSt → G → R α1} {k : α1 → DSt → G → R α2} {ad : DA} {S : DSt} {g : G} {σ : St} {H : Hp} {Q : γ2 → Hp → Prop}
    (h : At Rp2 K mg W (B1 ++ B2) (fun S g => (t S g).bind fun a g1 => k a S g1) ad S g σ H Q) :
    At Rp1 K mg W B1 t ad S g σ H fun v H1 => ∃ a g1, Keep ad H H1 ∧ DrawOk ad H1 g1 ∧ Rp1 ad H H1 v a ∧ At Rp2 K mg W B2 (k a) ad S g1 σ H1 Q := by
  refine ⟨h.sr.left, h.dk, ?_⟩
  have p := h.po
  cases r : t S g with
  | bad => simp only [r, R.bind] at p; exact p
  | er x g' => simp only [r, R.bind] at p; exact p
  | ok a g1 =>
    simp only [r, R.bind] at p
    exact fun v H1 k1 d1 q => ⟨a, g1, k1, d1, q, h.sr.right.keep k1 h.dk, d1, p.back b2 k1 d1⟩
theorem rd.mk {γ α : Type} {Rp : RpT γ α} {B : List Nat} {t : DSt → G → R α} {ad : DA} {S : DSt} {g : G} {σ : St} {H : Hp} {Q : γ → Hp → Prop} (h : At Rp K mg W B t ad S g σ H Q) : rd Rp K mg W B t σ H Q := ⟨ad, S, g, h⟩
theorem At.imp {γ α : Type} {Rp : RpT γ α} {B : List Nat} {t : DSt → G → R α} {ad : DA} {S : DSt} {g : G} {σ : St} {H : Hp} {Q Q' : γ → Hp → Prop} (h : At Rp K mg W B t ad S g σ H Q) (i : ∀ v H', Q v H' → Q' v H') : At Rp K mg W B t ad S g σ H Q' := by
  refine ⟨h.sr, h.dk, ?_⟩
  have p := h.po
  cases r : t S g with
  | bad => rw [r] at p; exact p
  | er x g' => rw [r] at p; exact p
  | ok a g1 => rw [r] at p; exact fun v H1 k1 d1 q => i _ _ (p v H1 k1 d1 q)
/-- a result that is there -/
theorem At.ret {γ α : Type} {Rp : RpT γ α} {B : List Nat} {t : DSt → G → R α} {ad : DA} {S : DSt} {g g' : G} {σ : St} {H : Hp} {Q : γ → Hp → Prop} {a : α} (h : At Rp K mg W B t ad S g σ H Q) (e : t S g = .ok a g') : ∀ v H', Keep ad H H' → DrawOk ad H' g' → Rp ad H H' v a → Q v H' := by
  have p := h.po
  rw [e] at p
  exact p
end

section
variable {X : Cx} {W : WX} {B : List Nat}
/-- a list just made is laid by -/
theorem xE {e : Expr} {t : XT} (h : PE X e (eX X.K X.mg W B t)) : PE X e (eE X.K X.mg W B (fun S g => (t S g).map Fv.d)) := by
  refine ⟨fun pins s σ H Q I hq => ?_⟩
  obtain ⟨ad, S, g, sr, dk, po⟩ := hq
  refine thn (h.run pins s σ H (fun v H1 => ∃ f g', t S g = .ok f g' ∧ Keep ad H H1 ∧ DrawOk ad H1 g' ∧ FRep X.K X.mg ad H H1 v f) I ⟨ad, S, g, sr, dk, ?_⟩) fun u s1 ⟨v, H1, I1, r, f, g', ef, k1, d1, fr⟩ => ?_
  · cases r : t S g with
    | bad => simp only [r, R.map] at po; exact po
    | er x g' => simp only [r, R.map] at po; exact po
    | ok f g' => exact fun v H1 k1 d1 q => ⟨f, g', rfl, k1, d1, q⟩
  · rw [ef] at po
    cases f with
    | v d => exact ⟨v, H1, I1, r, po v H1 k1 d1 fr⟩
    | f ds =>
      obtain ⟨a, vs, rfl, na, ea, ra⟩ := fr
      have ne : a ≠ ad.ad := dk.ne na
      have old : ∀ b o, H b = some o → b ≠ a := fun b o e z => by rw [z, na] at e; cases e
      obtain ⟨ob, eo⟩ : ∃ ob, s1.heap.get? a = some ob := objOk_get (I1.hok a _ ea)
      have ht : ∀ b xs, SqN X.K H1 b xs → SqN X.K (fzSet (fun c => c = a) s1.heap H1) b xs := fun b xs q => q.to fun c o u q => fz_other q (by intro xs z; cases z)
      have hl : ∀ b xs, SqP X.K H1 b xs → SqP X.K (fzSet (fun c => c = a) s1.heap H1) b xs := fun b xs q => by
        obtain ⟨o, q⟩ := q
        exact ⟨o, fz_other q (by intro xs z; cases z)⟩
      refine ⟨.ref a, fzSet (fun c => c = a) s1.heap H1, freeze I1 _, r, po _ _ (fun b o e n => ?_) (d1.at_ (fun xs e => ?_) fun o u e => fz_other e (by intro xs z; cases z)) ?_⟩
      · rw [fz_no (S := fun c => c = a) (old b o e)]; exact k1 b o e n
      · rw [fz_no (S := fun c => c = a) (Ne.symm ne)]; exact e
      · exact .lst (⟨ob, fz_yes (S := fun c => c = a) rfl ea eo⟩) (RepAll.map ht hl (fun _ _ _ q => q.to fun c o u q => fz_other q (by intro xs z; cases z)) ds vs ra)
end

/-! ### by values -/
/-- an operator's rule serves a function on data -/
def AdG {α : Type} (Rp : RpT V α) (K : PySem.W.Frag) (mg : Str → Option Value) (r : R2) (op : D → D → Option α) : Prop :=
  ∀ ad H g x y a b c, DrawOk ad H g → Rep K mg ad H x a → Rep K mg ad H y b → op a b = some c → ∀ Q, (∀ v H', Keep ad H H' → DrawOk ad H' g → Rp ad H H' v c → Q v H') → r x y H Q
def AdU {α : Type} (Rp : RpT V α) (K : PySem.W.Frag) (mg : Str → Option Value) (r : V → Hp → VK → Prop) (op : D → Option α) : Prop :=
  ∀ ad H g x a c, DrawOk ad H g → Rep K mg ad H x a → op a = some c → ∀ Q, (∀ v H', Keep ad H H' → DrawOk ad H' g → Rp ad H H' v c → Q v H') → r x H Q
def AdC {α : Type} (Rp : RpT V α) (K : PySem.W.Frag) (mg : Str → Option Value) (r : List V → Hp → VK → Prop) (op : List D → Option α) : Prop :=
  ∀ ad H g xs ds c, DrawOk ad H g → RepAll K mg ad H xs ds → op ds = some c → ∀ Q, (∀ v H', Keep ad H H' → DrawOk ad H' g → Rp ad H H' v c → Q v H') → r xs H Q
def AdM {α : Type} (Rp : RpT V α) (K : PySem.W.Frag) (mg : Str → Option Value) (r : V → List V → Hp → VK → Prop) (op : D → List D → Option α) : Prop :=
  ∀ ad H g x xs d ds c, DrawOk ad H g → Rep K mg ad H x d → RepAll K mg ad H xs ds → op d ds = some c → ∀ Q, (∀ v H', Keep ad H H' → DrawOk ad H' g → Rp ad H H' v c → Q v H') → r x xs H Q
def dBin {α : Type} (op : D → D → Option α) (ta tb : ET) : DSt → G → R α := fun S g => (ta S g).bind fun a g1 => (tb S g1).bind fun b g2 => lift (op a b) g2
def dUn {α : Type} (op : D → Option α) (ta : ET) : DSt → G → R α := fun S g => (ta S g).bind fun a g1 => lift (op a) g1
def dCB {α : Type} (op : List D → Option α) (ts : DSt → G → R (List D)) : DSt → G → R α := fun S g => (ts S g).bind fun a g1 => lift (op a) g1
section
variable {K : PySem.W.Frag} {mg : Str → Option Value} {W : WX} {α : Type} {Rp : RpT V α} {Ba Bb : List Nat} {ta tb : ET}
theorem At.lift {o : DSt → Option α} {ad : DA} {S : DSt} {g : G} {σ : St} {H : Hp} {Q : VK} {B : List Nat} (h : At Rp K mg W B (fun S g => lift (o S) g) ad S g σ H Q) : ∃ c, o S = some c ∧ ∀ v H', Keep ad H H' → DrawOk ad H' g → Rp ad H H' v c → Q v H' := by
  have p := h.po
  cases e : o S with
  | none => simp only [e, lift_none] at p; exact p.elim
  | some c => simp only [e, lift_some] at p; exact ⟨c, rfl, p⟩
theorem AdG.ap {r : R2} {op : D → D → Option α} (ad : AdG Rp K mg r op) (b : Bk Rp) : ∀ σ H Q, rd Rp K mg W (Ba ++ Bb) (dBin op ta tb) σ H Q → tOp r (eE K mg W Ba ta) (eE K mg W Bb tb) σ H Q := fun σ H Q ⟨a0, S, g, h⟩ => by
  refine .mk ((h.bind (Rp1 := RpE K mg) b).imp fun x H1 ⟨a, g1, k1, d1, r1, h2⟩ => ?_)
  have h2 : At Rp K mg W (Bb ++ []) (fun S g => (tb S g).bind fun b g1 => (fun b (_ : DSt) g => DI.lift (op a b) g) b S g1) a0 S g1 σ H1 Q := by rw [List.append_nil]; exact h2
  refine .mk ((h2.bind (Rp1 := RpE K mg) b).imp fun y H2 ⟨c, g2, k2, d2, r2, h3⟩ => ?_)
  obtain ⟨z, e, q⟩ := At.lift (o := fun _ => op a c) h3
  exact ad a0 H2 g2 x y a c z d2 (r1.keep k2 d1) r2 e Q q
theorem AdU.ap {r : V → Hp → VK → Prop} {op : D → Option α} (ad : AdU Rp K mg r op) (b : Bk Rp) : ∀ σ H Q, rd Rp K mg W Ba (dUn op ta) σ H Q → tUn r (eE K mg W Ba ta) σ H Q := fun σ H Q ⟨a0, S, g, h⟩ => by
  have h : At Rp K mg W (Ba ++ []) (dUn op ta) a0 S g σ H Q := by rw [List.append_nil]; exact h
  refine .mk ((h.bind (Rp1 := RpE K mg) b).imp fun x H1 ⟨a, g1, k1, d1, r1, h2⟩ => ?_)
  obtain ⟨z, e, q⟩ := At.lift (o := fun _ => op a) h2
  exact ad a0 H1 g1 x a z d1 r1 e Q q
theorem AdC.ap {r : List V → Hp → VK → Prop} {op : List D → Option α} {ts : DSt → G → R (List D)} (ad : AdC Rp K mg r op) (b : Bk Rp) : ∀ σ H Q, rd Rp K mg W Ba (dCB op ts) σ H Q → tCB r (eA K mg W Ba ts) σ H Q := fun σ H Q ⟨a0, S, g, h⟩ => by
  have h : At Rp K mg W (Ba ++ []) (dCB op ts) a0 S g σ H Q := by rw [List.append_nil]; exact h
  refine .mk ((h.bind (Rp1 := RpA K mg) b).imp fun x H1 ⟨a, g1, k1, d1, r1, h2⟩ => ?_)
  obtain ⟨z, e, q⟩ := At.lift (o := fun _ => op a) h2
  exact ad a0 H1 g1 x a z d1 r1 e Q q
end
/-- which receivers a method of a built-in type takes -/
def okTy (T : String) : D → Bool
  | .lst _ => T == "list"
  | .str _ => T == "str"
  | .int _ => T == "int"
  | _ => false
def dMt {α : Type} (T : String) (op : D → List D → Option α) (ta : ET) (ts : DSt → G → R (List D)) : DSt → G → R α := fun S g => (ta S g).bind fun a g1 => if okTy T a then (ts S g1).bind fun b g2 => lift (op a b) g2 else .bad
section
variable {K : PySem.W.Frag} {mg : Str → Option Value} {W : WX} {α : Type} {Rp : RpT V α} {Ba Bb : List Nat} {ta tb : ET}
theorem okTy_tyV {T : String} {ad : DA} {H : Hp} {x : V} {d : D} (r : Rep K mg ad H x d) (t : okTy T d = true) : tyV K T x H := by
  cases r with
  | lst s _ => exact .inl ⟨by simpa [okTy] using t, _, s.l⟩
  | str _ => exact (by simpa [okTy] using t : T = "str")
  | int _ => exact (by simpa [okTy] using t : T = "int")
  | non => simp [okTy] at t
  | bl _ => simp [okTy] at t
  | tup _ _ => simp [okTy] at t
  | draw => simp [okTy] at t
  | fn _ => simp [okTy] at t
  | dct _ _ => simp [okTy] at t
theorem AdM.ap {T : String} {r : V → List V → Hp → VK → Prop} {op : D → List D → Option α} {ts : DSt → G → R (List D)} (ad : AdM Rp K mg r op) (b : Bk Rp) : ∀ σ H Q, rd Rp K mg W (Ba ++ Bb) (dMt T op ta ts) σ H Q → tBM K T r (eE K mg W Ba ta) (eA K mg W Bb ts) σ H Q := fun σ H Q ⟨a0, S, g, h⟩ => by
  refine .mk ((h.bind (Rp1 := RpE K mg) b (k := fun a S g1 => if okTy T a then (ts S g1).bind fun b g2 => lift (op a b) g2 else .bad)).imp fun x H1 ⟨a, g1, k1, d1, r1, h2⟩ => ?_)
  cases e : okTy T a with
  | false =>
    have p := h2.po
    simp only [e, Bool.false_eq_true, if_false] at p
    exact p.elim
  | true =>
    refine ⟨okTy_tyV r1 e, ?_⟩
    simp only [e, if_true] at h2
    have h2 : At Rp K mg W (Bb ++ []) (fun S g => (ts S g).bind fun b g1 => (fun b (_ : DSt) g => DI.lift (op a b) g) b S g1) a0 S g1 σ H1 Q := by rw [List.append_nil]; exact h2
    refine .mk ((h2.bind (Rp1 := RpA K mg) b).imp fun y H2 ⟨c, g2, k2, d2, r2, h3⟩ => ?_)
    obtain ⟨z, e, q⟩ := At.lift (o := fun _ => op a c) h3
    exact ad a0 H2 g2 x y a c z d2 (r1.keep k2 d1) r2 e Q q
def dMt0 {α : Type} (T : String) (op : D → Option α) (ta : ET) : DSt → G → R α := fun S g => (ta S g).bind fun a g1 => if okTy T a then lift (op a) g1 else .bad
end

/-! ### the rules -/
def eVar (i : Nat) : ET := fun S g => match S[i]? with
  | some (some d) => .ok d g
  | _ => .bad
def eC (d : D) : ET := fun _ g => .ok d g
def aNil : DSt → G → R (List D) := fun _ g => .ok [] g
def aCons (t : ET) (ts : DSt → G → R (List D)) : DSt → G → R (List D) := fun S g => (t S g).bind fun a g1 => (ts S g1).bind fun b g2 => .ok (a :: b) g2
section
variable {X : Cx} {W : WX} {B Ba Bb : List Nat} {e a b : Expr} {es : List Expr} {ta tb : ET} {pos : Pos} {α : Type}
theorem de_var (i : Nat) {x : Str} {pos : Pos} (hN : X.N[i]? = some x := by rfl) (hv : Vis X.env.scope x := by first | exact Or.inl rfl | exact Or.inr (Or.inl rfl) | exact Or.inr (Or.inr rfl)) (hd : (x == ("__debug__" : Str)) = false := by decide)
    (hcd : (x == ("__classdict__" : Str)) = false := by decide) : PE X (.Name x pos) (eE X.K X.mg W [i] (eVar i)) :=
  PE.imp (pe_var hN hv hd hcd) fun σ H Q ⟨a0, S, g, h⟩ => by
    have p := h.po
    unfold eVar at p
    split at p
    · rename_i d e
      obtain ⟨v, e1, r⟩ := h.sr.2 i (by simp) d e
      exact ⟨v, e1, p v H (.refl _ _) h.dk r⟩
    · exact p.elim
theorem de_c {v : V} {d : D} (h : PE X e (tC v)) (r : ∀ ad H, Rep X.K X.mg ad H v d) : PE X e (eE X.K X.mg W [] (eC d)) :=
  PE.imp h fun σ H Q ⟨a0, S, g, h⟩ => h.po v H (.refl _ _) h.dk (r _ _)
theorem de_int {i : Int} {j : Nat} : PE X (.Constant (.int i) j pos) (eE X.K X.mg W [] (eC (.int i))) := de_c pe_int fun _ _ => .int i
theorem de_bl {i : Bool} {j : Nat} : PE X (.Constant (.bool i) j pos) (eE X.K X.mg W [] (eC (.bl i))) := de_c pe_bl fun _ _ => .bl i
theorem de_non {j : Nat} : PE X (.Constant .none j pos) (eE X.K X.mg W [] (eC .non)) := de_c pe_non fun _ _ => .non
theorem de_str {i : Str} {j : Nat} : PE X (.Constant (.str i) j pos) (eE X.K X.mg W [] (eC (.str i))) := de_c pe_str fun _ _ => .str i
/-- a module's constant, or a def by its name -/
theorem de_glob {x : Str} {v : V} {u : Value} {d : D} (hg : Gl X x) (hm : X.mg x = some u) (r : RelV v u) (rp : ∀ ad H, Rep X.K X.mg ad H v d) (hd : (x == ("__debug__" : Str)) = false := by decide) : PE X (.Name x pos) (eE X.K X.mg W [] (eC d)) := de_c (pe_glob hg hm r hd) rp
theorem da_nil : PA X [] (eA X.K X.mg W [] aNil) := PA.imp pa_nil fun σ H Q ⟨a0, S, g, h⟩ => h.po [] H (.refl _ _) h.dk .nil
theorem da_cons {ts : DSt → G → R (List D)} (ha : PE X e (eE X.K X.mg W Ba ta)) (hr : PA X es (eA X.K X.mg W Bb ts)) (hs : starEach (e :: es) X.env = (false, eval e X.env) :: starEach es X.env := by rfl) : PA X (e :: es) (eA X.K X.mg W (Ba ++ Bb) (aCons ta ts)) :=
  PA.imp (pa_cons ha hr hs) fun σ H Q ⟨a0, S, g, h⟩ => by
    refine .mk ((h.bind (Rp1 := RpE X.K X.mg) bkA).imp fun x H1 ⟨a, g1, k1, d1, r1, h2⟩ => ?_)
    have h2 : At (RpA X.K X.mg) X.K X.mg W (Bb ++ []) (fun S g => (ts S g).bind fun b g1 => (fun b (_ : DSt) g => .ok (a :: b) g) b S g1) a0 S g1 σ H1 Q := by rw [List.append_nil]; exact h2
    refine .mk ((h2.bind (Rp1 := RpA X.K X.mg) bkA).imp fun y H2 ⟨c, g2, k2, d2, r2, h3⟩ => ?_)
    exact h3.po (x :: y) H2 (.refl _ _) d2 (.cons (r1.keep k2 d1) r2)
/-- .. newly laid, its object known to have no attributes -/
abbrev QN (Q : VK) (xs : List V) (H : Hp) : Prop := ∀ q o, H q = none → o.dict = none → Q (.ref q) (upd H q (.frz o (.tup xs)))
theorem laidN {X : Cx} {pins : List (Addr × Obj)} {σ : St} {H : Hp} {s : Shared} {xs : List V} {us : List Value} (I : Inv X pins σ H s) (r : Vals xs us) (z : xs.length ≤ sizeLine) {Q : VK} (q : QN Q xs H) :
    EP X pins σ Q (.ref s.heap.objs.size) { s with heap := s.heap.push { cls := .type "tuple", data := .seq us.toArray } } :=
  ⟨.ref s.heap.objs.size, upd H s.heap.objs.size (.frz { cls := .type "tuple", data := .seq us.toArray } (.tup xs)), I.laid (t' := s.toks) (fun b u e => Heap.get?_push_of_some _ e) (Nat.le_refl _) ⟨Heap.get?_push_size _ rfl, z, us, r, IsTup.new _ _⟩, rfl, q _ _ (I.hok.fresh (Nat.le_refl _)) rfl⟩
theorem pe_tupN {t : TA} {k : Nat} (h : PA X es t) : PE X (.Tuple es k pos) (fun σ H Q => t σ H fun xs H1 => xs.length ≤ sizeLine ∧ QN Q xs H1) := by
  refine ⟨fun pins s σ H Q I hq => ?_⟩
  exact wpAny_Tuple_spliced (thn (h.run pos pins s σ H _ I hq) fun us s1 ⟨xs, H1, I1, r, z, q⟩ => ⟨by rw [← r.length]; exact z, laidN I1 r z q⟩)
/-- a tuple's display -/
def eTup (ts : DSt → G → R (List D)) : ET := fun S g => (ts S g).bind fun ds g1 => if ds.length ≤ sizeLine then .ok (.tup ds) g1 else .bad
theorem de_tup {ts : DSt → G → R (List D)} {k : Nat} (h : PA X es (eA X.K X.mg W B ts)) : PE X (.Tuple es k pos) (eE X.K X.mg W B (eTup ts)) :=
  PE.imp (pe_tupN h) fun σ H Q ⟨a0, S, g, h⟩ => by
    have h : At (RpE X.K X.mg) X.K X.mg W (B ++ []) (eTup ts) a0 S g σ H Q := by rw [List.append_nil]; exact h
    refine .mk ((h.bind (Rp1 := RpA X.K X.mg) bkE (k := fun ds _ g1 => if ds.length ≤ sizeLine then .ok (.tup ds) g1 else .bad)).imp fun xs H1 ⟨ds, g1, k1, d1, r1, h2⟩ => ?_)
    have p := h2.po
    by_cases hl : ds.length ≤ sizeLine
    · rw [if_pos hl] at p
      refine ⟨by rw [r1.len]; exact hl, fun q o hq ho => p _ _ (Keep.upd hq) (d1.upd hq) (.tup (.new ho) (r1.keep (Keep.upd hq) d1))⟩
    · rw [if_neg hl] at p
      exact p.elim
/-- a list's display -/
def xLst (ts : DSt → G → R (List D)) : XT := fun S g => (ts S g).bind fun ds g1 => if ds.length ≤ sizeLine then .ok (.f ds) g1 else .bad
theorem dx_lst {ts : DSt → G → R (List D)} (h : PA X es (eA X.K X.mg W B ts)) : PE X (.List es pos) (eX X.K X.mg W B (xLst ts)) :=
  PE.imp (pe_lst h) fun σ H Q ⟨a0, S, g, h⟩ => by
    have h : At (RpX X.K X.mg) X.K X.mg W (B ++ []) (xLst ts) a0 S g σ H Q := by rw [List.append_nil]; exact h
    refine .mk ((h.bind (Rp1 := RpA X.K X.mg) bkX (k := fun ds _ g1 => if ds.length ≤ sizeLine then .ok (.f ds) g1 else .bad)).imp fun xs H1 ⟨ds, g1, k1, d1, r1, h2⟩ => ?_)
    have p := h2.po
    by_cases hl : ds.length ≤ sizeLine
    · rw [if_pos hl] at p
      refine ⟨by rw [r1.len]; exact hl, fun q hq => p _ _ (Keep.upd hq) (d1.upd hq) ⟨q, xs, rfl, hq, upd_same, r1.keep (Keep.upd hq) d1⟩⟩
    · rw [if_neg hl] at p
      exact p.elim
/-! operators, comparisons, subscripts, calls of built-ins, by values; Rp: what comes out -/
variable {Rp : RpT V α}
theorem dr_op {op : Operator} {r : R2} {f : D → D → Option α} (bk : Bk Rp) (ho : OpR X (binaryOp op) r) (ad : AdG Rp X.K X.mg r f) (ha : PE X a (eE X.K X.mg W Ba ta)) (hb : PE X b (eE X.K X.mg W Bb tb)) : PE X (.BinOp a op b pos) (rd Rp X.K X.mg W (Ba ++ Bb) (dBin f ta tb)) := PE.imp (pe_op ho ha hb) (ad.ap bk)
theorem dr_un {op : UnaryOp} {r : V → Hp → VK → Prop} {f : D → Option α} (bk : Bk Rp) (ho : UnR X (unaryOp op) r) (ad : AdU Rp X.K X.mg r f) (ha : PE X a (eE X.K X.mg W Ba ta)) : PE X (.UnaryOp op a pos) (rd Rp X.K X.mg W Ba (dUn f ta)) := PE.imp (pe_un ho ha) (ad.ap bk)
theorem dr_cmp {op : CmpOp} {r : R2} {f : D → D → Option α} (bk : Bk Rp) (ho : OpR X (compareOp op) r) (ad : AdG Rp X.K X.mg r f) (ha : PE X a (eE X.K X.mg W Ba ta)) (hb : PE X b (eE X.K X.mg W Bb tb)) (hm : behindInMarks op b = false) : PE X (.Compare a [op] [b] pos) (rd Rp X.K X.mg W (Ba ++ Bb) (dBin f ta tb)) := PE.imp (pe_cmpR ho ha hb hm) (ad.ap bk)
theorem dr_ix {r : R2} {f : D → D → Option α} (bk : Bk Rp) (hr : IxR X r) (ad : AdG Rp X.K X.mg r f) (ha : PE X a (eE X.K X.mg W Ba ta)) (hb : PE X b (eE X.K X.mg W Bb tb)) (hs : PlainIx b) : PE X (.Subscript a b pos) (rd Rp X.K X.mg W (Ba ++ Bb) (dBin f ta tb)) := PE.imp (pe_ix hr ha hb hs) (ad.ap bk)
theorem dr_callB {x : Str} {p : Pos} {id : String} {r : List V → Hp → VK → Prop} {f : List D → Option α} {ts : DSt → G → R (List D)} (bk : Bk Rp) (hc : CallR X (.builtin id) r) (ad : AdC Rp X.K X.mg r f) (hg : Gl X x) (hm : X.mg x = none) (hv : bootBuiltins x = some (.builtin id)) (ha : PA X (e :: es) (eA X.K X.mg W B ts))
    (hn : x ≠ "__name__" := by decide) (hdb : (x == ("__debug__" : Str)) = false := by decide) (he : starEach (e :: es) X.env = (false, eval e X.env) :: starEach es X.env := by rfl) (hpl : (backTo pos (starEach es X.env)).any (·.1) = false := by rfl) :
    PE X (.Call (.Name x p) (e :: es) [] pos) (rd Rp X.K X.mg W B (dCB f ts)) := PE.imp (pe_callB hc hg hm hv ha hn hdb he hpl) (ad.ap bk)
theorem dr_callTy {x : Str} {p : Pos} {T : String} {r : List V → Hp → VK → Prop} {f : List D → Option α} {ts : DSt → G → R (List D)} (bk : Bk Rp) (hc : CallR X (.type T) r) (ad : AdC Rp X.K X.mg r f) (hg : Gl X x) (hm : X.mg x = none) (hv : bootBuiltins x = some (.type T)) (ha : PA X (e :: es) (eA X.K X.mg W B ts))
    (hn : x ≠ "__name__" := by decide) (hdb : (x == ("__debug__" : Str)) = false := by decide) (he : starEach (e :: es) X.env = (false, eval e X.env) :: starEach es X.env := by rfl) (hpl : (backTo pos (starEach es X.env)).any (·.1) = false := by rfl) :
    PE X (.Call (.Name x p) (e :: es) [] pos) (rd Rp X.K X.mg W B (dCB f ts)) := PE.imp (pe_callTy hc hg hm hv ha hn hdb he hpl) (ad.ap bk)
theorem dr_bm {T id : String} {name : Str} {apos cpos : Pos} {r : V → List V → Hp → VK → Prop} {f : D → List D → Option α} {ts : DSt → G → R (List D)} (bk : Bk Rp) (pa : PlainAttrs T) (slot : Slot T name id) (hty : typeOf (.builtin id) = pure (.type "method_descriptor")) (hm : MtR X id r) (ad : AdM Rp X.K X.mg r f)
    (ho : PE X a (eE X.K X.mg W Ba ta)) (ha : PA X (e :: es) (eA X.K X.mg W B ts))
    (hbase : attributeBase a name X.env (eval a X.env) = eval a X.env := by rfl)
    (hfew : ((backTo cpos (starEach (e :: es) X.env)).all (fun x => !x.1) && (backToKw cpos (keywordEach [] X.env)).all (fun x => x.1.isSome)
      && decide ((e :: es).length + ([] : List Keyword).length + (if ([] : List Keyword).isEmpty then 0 else 1) < 30)) = true := by rfl)
    (hline : (apos.endLine == cpos.line) = true := by rfl) (hs : starEach (e :: es) X.env = (false, eval e X.env) :: starEach es X.env := by rfl) (hplain : (backTo cpos (starEach es X.env)).any (·.1) = false := by rfl) :
    PE X (.Call (.Attribute a name apos) (e :: es) [] cpos) (rd Rp X.K X.mg W (Ba ++ B) (dMt T f ta ts)) := PE.imp (pe_bm pa slot hty hm ho ha hbase hfew hline hs hplain) (ad.ap bk)
end

/-! the operators on data -/
section
variable {X : Cx} {K : PySem.W.Frag} {mg : Str → Option Value}
theorem lstP {pins : List (Addr × Obj)} {σ : St} {H : Hp} {s : Shared} {a : Addr} {xs : List V} (I : Inv X pins σ H s) (h : SqP X.K H a xs) :
    xs.length ≤ sizeLine ∧ ∃ (its : List Value) (n : Nat), Vals xs its ∧ xs.length = its.length ∧ s.heap.get? a = some { cls := .type "list", data := .seq its.toArray n } := by
  obtain ⟨o, h⟩ := h
  obtain ⟨_, z, its, n, r, e⟩ := I.hok a _ h
  exact ⟨z, its, n, r, r.length, e⟩
/-- two lists in a row -/
def rCatL (K : PySem.W.Frag) : R2 := fun x y H Q => ∃ l b xs zs, x = .ref l ∧ y = .ref b ∧ SqP K H l xs ∧ SqP K H b zs ∧ xs.length + zs.length ≤ sizeLine ∧ ∀ p, H p = none → Q (.ref p) (upd H p (.lst (xs ++ zs)))
theorem op_catL : OpR X (binaryOp .Add) (rCatL X.K) := by
  intro pins s σ H x y v u Q I rx ry h
  obtain ⟨l, b, xs, zs, rfl, rfl, hH, hB, hz, q⟩ := h
  cases rx
  cases ry
  obtain ⟨z, its, n, r, hl, e⟩ := lstP I hH
  obtain ⟨z2, its2, n2, r2, hl2, e2⟩ := lstP I hB
  refine PySem.P.add_list e e2 ?_ (by rw [List.size_toArray, List.size_toArray]; omega)
  have ea : its.toArray ++ its2.toArray = (its ++ its2).toArray := by simp
  rw [ea]
  exact ⟨.ref _, _, I.lnew (t' := s.toks) (r.append r2) (by rw [List.length_append]; omega), rfl, q _ I.fresh⟩
/-- two tuples in a row -/
def rCatN (K : PySem.W.Frag) : R2 := fun x y H Q => ∃ a b xs ys, x = .ref a ∧ y = .ref b ∧ SqT K H a xs ∧ SqT K H b ys ∧ xs.length + ys.length ≤ sizeLine ∧ (xs = [] → Q (.ref b) H) ∧ (xs ≠ [] → ys = [] → Q (.ref a) H) ∧ (xs ≠ [] → ys ≠ [] → QN Q (xs ++ ys) H)
theorem op_catN : OpR X (binaryOp .Add) (rCatN X.K) := by
  intro pins s σ H x y v u Q I rx ry ⟨a, b, xs, ys, ex, ey, ha, hb, hz, q0, q1, q2⟩
  subst ex ey
  cases rx
  cases ry
  obtain ⟨us, r1, p1, _⟩ := I.tuple ha
  obtain ⟨ws, r2, p2, _⟩ := I.tuple hb
  by_cases hx : xs = []
  · subst hx
    cases r1
    exact cat_tup0 p1 p2 ⟨.ref b, H, I, rfl, q0 rfl⟩
  · exact HT.cat_tup p1 p2 (fun z => hx (r1.nil_iff.mp z)) (fun z => ⟨.ref a, H, I, rfl, q1 hx (r2.nil_iff.mp z)⟩)
      (fun z => laidN I (r1.append r2) (by rw [List.length_append]; exact hz) (q2 hx fun w => z (r2.nil_iff.mpr w))) (by rw [← r1.length, ← r2.length]; exact hz)
def rAddAll (K : PySem.W.Frag) : R2 := fun x y H Q => (rI0 (fun i j => .int (i + j)) x y H Q ∨ (∃ i j, x = .str i ∧ y = .str j ∧ i.length + j.length ≤ sizeLine ∧ Q (.str (i ++ j)) H)) ∨ (rCatN K x y H Q ∨ rCatL K x y H Q)
theorem op_addAll : OpR X (binaryOp .Add) (rAddAll X.K) := OpR.or (OpR.or op_add op_add_str) (OpR.or op_catN op_catL)
def addD : D → D → Option Fv
  | .int i, .int j => some (.v (.int (i + j)))
  | .str x, .str y => if x.length + y.length ≤ sizeLine then some (.v (.str (x ++ y))) else none
  | .tup x, .tup y => if x.length + y.length ≤ sizeLine then some (.v (.tup (x ++ y))) else none
  | .lst x, .lst y => if x.length + y.length ≤ sizeLine then some (.f (x ++ y)) else none
  | _, _ => none
theorem ad_add : AdG (RpX K mg) K mg (rAddAll K) addD := by
  intro ad H g x y a b c dk rx ry e Q q
  unfold addD at e
  split at e
  · cases rx; cases ry
    cases e
    exact .inl (.inl ⟨_, _, rfl, rfl, q _ _ (.refl _ _) dk (.int _)⟩)
  · cases rx; cases ry
    split at e
    · cases e
      exact .inl (.inr ⟨_, _, rfl, rfl, by assumption, q _ _ (.refl _ _) dk (.str _)⟩)
    · cases e
  · cases rx with
    | tup s1 r1 =>
      cases ry with
      | tup s2 r2 =>
        split at e
        · rename_i hl
          cases e
          refine .inr (.inl ⟨_, _, _, _, rfl, rfl, s1.t, s2.t, by rw [r1.len, r2.len]; exact hl, fun ez => ?_, fun n1 ez => ?_, fun n1 n2 p o hp ho => ?_⟩)
          · subst ez
            cases r1
            exact q _ _ (.refl _ _) dk (.tup s2 r2)
          · subst ez
            cases r2
            rw [List.append_nil] at q
            exact q _ _ (.refl _ _) dk (.tup s1 r1)
          · exact q _ _ (Keep.upd hp) (dk.upd hp) (.tup (.new ho) ((r1.app r2).keep (Keep.upd hp) dk))
        · cases e
  · cases rx with
    | lst s1 r1 =>
      cases ry with
      | lst s2 r2 =>
        split at e
        · rename_i hl
          cases e
          refine .inr (.inr ⟨_, _, _, _, rfl, rfl, s1, s2, by rw [r1.len, r2.len]; exact hl, fun p hp => ?_⟩)
          exact q _ _ (Keep.upd hp) (dk.upd hp) ⟨p, _, rfl, hp, upd_same, (r1.app r2).keep (Keep.upd hp) dk⟩
        · cases e
  · cases e
/-- ints to an int -/
def intD (f : Int → Int → Option D) : D → D → Option D
  | .int i, .int j => f i j
  | _, _ => none
theorem ad_int {C : Int → Int → Prop} {h : Int → Int → V} {f : Int → Int → Option D} (hf : ∀ i j d, f i j = some d → C i j ∧ ∀ ad H, Rep K mg ad H (h i j) d) : AdG (RpE K mg) K mg (rI C h) (intD f) := by
  intro ad H g x y a b c dk rx ry e Q q
  unfold intD at e
  split at e
  · cases rx; cases ry
    obtain ⟨h1, h2⟩ := hf _ _ _ e
    exact ⟨_, _, rfl, rfl, h1, q _ _ (.refl _ _) dk (h2 _ _)⟩
  · cases e
theorem ad_int0 {h : Int → Int → V} {f : Int → Int → D} (hf : ∀ i j ad H, Rep K mg ad H (h i j) (f i j)) : AdG (RpE K mg) K mg (rI0 h) (intD fun i j => some (f i j)) := by
  intro ad H g x y a b c dk rx ry e Q q
  unfold intD at e
  split at e
  · cases rx; cases ry
    cases e
    exact ⟨_, _, rfl, rfl, q _ _ (.refl _ _) dk (hf _ _ _ _)⟩
  · cases e
abbrev subD : D → D → Option D := intD fun i j => some (.int (i - j))
theorem ad_sub : AdG (RpE K mg) K mg (rI0 fun i j => .int (i - j)) subD := ad_int0 fun _ _ _ _ => .int _
/-- a product: one factor below 2 ^ 64 -/
instance (i j : Int) : Decidable (CMul i j) := inferInstanceAs (Decidable (_ ∨ _))
abbrev mulD : D → D → Option D := intD fun i j => if CMul i j then some (.int (i * j)) else none
theorem ad_mul : AdG (RpE K mg) K mg (rI CMul fun i j => .int (i * j)) mulD := ad_int fun i j d e => by
  split at e
  · cases e; exact ⟨by assumption, fun _ _ => .int _⟩
  · cases e
instance (i j : Int) : Decidable (CDivN i j) := inferInstanceAs (Decidable (_ ∧ _))
abbrev fdivD : D → D → Option D := intD fun i j => if CDivN i j then some (.int (i.fdiv j)) else none
theorem ad_fdiv : AdG (RpE K mg) K mg (rI CDivN fun i j => .int (i.fdiv j)) fdivD := ad_int fun i j d e => by
  split at e
  · cases e; exact ⟨by assumption, fun _ _ => .int _⟩
  · cases e
abbrev modD : D → D → Option D := intD fun i j => if j ≠ 0 then some (.int (i.fmod j)) else none
theorem ad_mod : AdG (RpE K mg) K mg (rI (fun _ j => j ≠ 0) fun i j => .int (i.fmod j)) modD := ad_int fun i j d e => by
  split at e
  · cases e; exact ⟨by assumption, fun _ _ => .int _⟩
  · cases e
def negD : D → Option D
  | .int i => some (.int (-i))
  | _ => none
theorem ad_neg : AdU (RpE K mg) K mg (rU fun i => .int (-i)) negD := by
  intro ad H g x a c dk rx e Q q
  unfold negD at e
  split at e
  · cases rx; cases e
    exact ⟨_, rfl, q _ _ (.refl _ _) dk (.int _)⟩
  · cases e
/-! comparisons: to a bool -/
abbrev ltI (p : Int → Int → Bool) : D → D → Option D := intD fun i j => some (.bl (p i j))
theorem ad_cmpI {p : Int → Int → Bool} : AdG (RpE K mg) K mg (rI0 fun i j => .bl (p i j)) (ltI p) := ad_int0 fun _ _ _ _ => .bl _
def eqD (a b : D) : Option D := if SeqAt.shaped a.py = true ∧ SeqAt.shaped b.py = true then some (.bl (PyData.eqv a.py b.py)) else none
def neD (a b : D) : Option D := if SeqAt.shaped a.py = true ∧ SeqAt.shaped b.py = true then some (.bl (!PyData.eqv a.py b.py)) else none
theorem ad_eq : AdG (RpE K mg) K mg (rEqD K) eqD := by
  intro ad H g x y a b c dk rx ry e Q q
  unfold eqD at e
  split at e
  · rename_i h
    cases e
    exact ⟨_, _, rx.dp _ _ (SeqAt.canLay_of_shaped h.1), ry.dp _ _ (SeqAt.canLay_of_shaped h.2), h.1, h.2, q _ _ (.refl _ _) dk (.bl _)⟩
  · cases e
theorem ad_ne : AdG (RpE K mg) K mg (rNeD K) neD := by
  intro ad H g x y a b c dk rx ry e Q q
  unfold neD at e
  split at e
  · rename_i h
    cases e
    exact ⟨_, _, rx.dp _ _ (SeqAt.canLay_of_shaped h.1), ry.dp _ _ (SeqAt.canLay_of_shaped h.2), h.1, h.2, q _ _ (.refl _ _) dk (.bl _)⟩
  · cases e
/-- x in y: a list, a tuple, a text -/
def rInA (K : PySem.W.Frag) : R2 := fun x y H Q => (∃ d ds, Dp K H x d ∧ (Dp K H y (.list ds) ∧ SeqAt.shaped (.list ds) = true ∨ Dp K H y (.tuple ds) ∧ SeqAt.shaped (.tuple ds) = true) ∧ SeqAt.shaped d = true ∧ Q (.bl (ds.any fun z => PyData.eqv z d)) H) ∨
  (∃ i j, x = .str i ∧ y = .str j ∧ Q (.bl (!(Builtin.Str.occurrences j i 0 j.length 1).isEmpty)) H)
def rNotInA (K : PySem.W.Frag) : R2 := fun x y H Q => (∃ d ds, Dp K H x d ∧ (Dp K H y (.list ds) ∧ SeqAt.shaped (.list ds) = true ∨ Dp K H y (.tuple ds) ∧ SeqAt.shaped (.tuple ds) = true) ∧ SeqAt.shaped d = true ∧ Q (.bl (!ds.any fun z => PyData.eqv z d)) H) ∨
  (∃ i j, x = .str i ∧ y = .str j ∧ Q (.bl (!(!(Builtin.Str.occurrences j i 0 j.length 1).isEmpty))) H)
theorem op_inA (hu : X.A.units + 65 < cLine) : OpR X (compareOp .In) (rInA X.K) := by
  refine OpR.or (fun pins s σ H x y v u Q I rx ry h => ?_) op_in_str
  obtain ⟨d, ds, hd, he, sd, q⟩ := h
  obtain ⟨as, r1⟩ := Dp.reads I d x v hd rx
  rcases he with ⟨he, se⟩ | ⟨he, se⟩
  · obtain ⟨bs, r2⟩ := Dp.reads I (.list ds) y u he ry
    exact SeqAt.in_list_reads r2 r1 (SeqAt.canLay_of_shaped se) (SeqAt.canLay_of_shaped sd) (room_in_shaped sd hu) ⟨.bl _, H, I, rfl, q⟩
  · obtain ⟨bs, r2⟩ := Dp.reads I (.tuple ds) y u he ry
    exact SeqAt.in_tuple_reads r2 r1 (SeqAt.canLay_of_shaped se) (SeqAt.canLay_of_shaped sd) (room_in_shaped sd hu) ⟨.bl _, H, I, rfl, q⟩
theorem op_notInA (hu : X.A.units + 65 < cLine) : OpR X (compareOp .NotIn) (rNotInA X.K) := by
  refine OpR.or (fun pins s σ H x y v u Q I rx ry h => ?_) op_notin_str
  obtain ⟨d, ds, hd, he, sd, q⟩ := h
  obtain ⟨as, r1⟩ := Dp.reads I d x v hd rx
  rcases he with ⟨he, se⟩ | ⟨he, se⟩
  · obtain ⟨bs, r2⟩ := Dp.reads I (.list ds) y u he ry
    exact SeqAt.notIn_list_reads r2 r1 (SeqAt.canLay_of_shaped se) (SeqAt.canLay_of_shaped sd) (room_in_shaped sd hu) ⟨.bl _, H, I, rfl, q⟩
  · obtain ⟨bs, r2⟩ := Dp.reads I (.tuple ds) y u he ry
    exact SeqAt.notIn_tuple_reads r2 r1 (SeqAt.canLay_of_shaped se) (SeqAt.canLay_of_shaped sd) (room_in_shaped sd hu) ⟨.bl _, H, I, rfl, q⟩
def inB (a : D) : D → Option Bool
  | .lst ds => if SeqAt.shaped a.py = true ∧ SeqAt.shaped (D.lst ds).py = true then some (ds.any fun z => PyData.eqv z.py a.py) else none
  | .tup ds => if SeqAt.shaped a.py = true ∧ SeqAt.shaped (D.tup ds).py = true then some (ds.any fun z => PyData.eqv z.py a.py) else none
  | .str j => match a with
    | .str i => some (!(Builtin.Str.occurrences j i 0 j.length 1).isEmpty)
    | _ => none
  | _ => none
def inD (a b : D) : Option D := (inB a b).map fun c => .bl c
def notInD (a b : D) : Option D := (inB a b).map fun c => .bl (!c)
theorem any_py (f : PyData → Bool) : ∀ ds : List D, (pyAll ds).any f = ds.any fun z => f z.py
  | [] => rfl
  | d :: ds => by simp [pyAll, any_py f ds]
theorem ad_in : AdG (RpE K mg) K mg (rInA K) inD := by
  intro ad H g x y a b c dk rx ry e Q q
  unfold inD inB at e
  split at e
  · split at e
    · rename_i h
      cases e
      refine .inl ⟨a.py, _, rx.dp _ _ (SeqAt.canLay_of_shaped h.1), .inl ⟨ry.dp _ _ (SeqAt.canLay_of_shaped h.2), h.2⟩, h.1, ?_⟩
      rw [any_py]
      exact q _ _ (.refl _ _) dk (.bl _)
    · cases e
  · split at e
    · rename_i h
      cases e
      refine .inl ⟨a.py, _, rx.dp _ _ (SeqAt.canLay_of_shaped h.1), .inr ⟨ry.dp _ _ (SeqAt.canLay_of_shaped h.2), h.2⟩, h.1, ?_⟩
      rw [any_py]
      exact q _ _ (.refl _ _) dk (.bl _)
    · cases e
  · split at e
    · cases rx; cases ry; cases e
      exact .inr ⟨_, _, rfl, rfl, q _ _ (.refl _ _) dk (.bl _)⟩
    · cases e
  · cases e
theorem ad_notIn : AdG (RpE K mg) K mg (rNotInA K) notInD := by
  intro ad H g x y a b c dk rx ry e Q q
  unfold notInD inB at e
  split at e
  · split at e
    · rename_i h
      cases e
      refine .inl ⟨a.py, _, rx.dp _ _ (SeqAt.canLay_of_shaped h.1), .inl ⟨ry.dp _ _ (SeqAt.canLay_of_shaped h.2), h.2⟩, h.1, ?_⟩
      rw [any_py]
      exact q _ _ (.refl _ _) dk (.bl _)
    · cases e
  · split at e
    · rename_i h
      cases e
      refine .inl ⟨a.py, _, rx.dp _ _ (SeqAt.canLay_of_shaped h.1), .inr ⟨ry.dp _ _ (SeqAt.canLay_of_shaped h.2), h.2⟩, h.1, ?_⟩
      rw [any_py]
      exact q _ _ (.refl _ _) dk (.bl _)
    · cases e
  · split at e
    · cases rx; cases ry; cases e
      exact .inr ⟨_, _, rfl, rfl, q _ _ (.refl _ _) dk (.bl _)⟩
    · cases e
  · cases e
/-- is None, is not None -/
def isND (a b : D) : Option D := match b with
  | .non => some (.bl (match a with | .non => true | _ => false))
  | _ => none
def notND (a b : D) : Option D := match b with
  | .non => some (.bl (match a with | .non => false | _ => true))
  | _ => none
theorem ad_isN : AdG (RpE K mg) K mg (fun x y H Q => y = .non ∧ Q (.bl (decide (x = .non))) H) isND := by
  intro ad H g x y a b c dk rx ry e Q q
  unfold isND at e
  split at e
  · cases ry
    cases e
    refine ⟨rfl, q _ _ (.refl _ _) dk ?_⟩
    cases rx <;> exact .bl _
  · cases e
theorem ad_notN : AdG (RpE K mg) K mg (fun x y H Q => y = .non ∧ Q (.bl (!decide (x = .non))) H) notND := by
  intro ad H g x y a b c dk rx ry e Q q
  unfold notND at e
  split at e
  · cases ry
    cases e
    refine ⟨rfl, q _ _ (.refl _ _) dk ?_⟩
    cases rx <;> exact .bl _
  · cases e
/-- an item -/
def idxD (a b : D) : Option D := match b with
  | .int i => match a with
    | .lst ds => atI ds i
    | .tup ds => atI ds i
    | .str z => if z.length ≤ sizeLine then (atI z.cps.toList i).map fun c => .str ⟨#[c]⟩ else none
    | _ => none
  | _ => none
theorem RepAll.atI {ad : DA} {H : Hp} {vs : List V} {ds : List D} {i : Int} {d : D} (r : RepAll K mg ad H vs ds) (e : L2.atI ds i = some d) : ∃ v, L2.atI vs i = some v ∧ Rep K mg ad H v d := by
  unfold L2.atI at e ⊢
  rw [r.len]
  cases q : ixN ds.length i with
  | none => rw [q] at e; cases e
  | some j =>
    rw [q] at e
    exact r.get e
theorem ad_idx : AdG (RpE K mg) K mg (rIx K) idxD := by
  intro ad H g x y a b c dk rx ry e Q q
  unfold idxD at e
  split at e
  · cases ry
    split at e
    · cases rx with
      | lst s r =>
        obtain ⟨v, h1, h2⟩ := r.atI e
        exact .inl ⟨_, _, _, _, rfl, rfl, s.l, h1, q _ _ (.refl _ _) dk h2⟩
    · cases rx with
      | tup s r =>
        obtain ⟨v, h1, h2⟩ := r.atI e
        exact .inr (.inl ⟨_, _, _, _, rfl, rfl, s.t, h1, q _ _ (.refl _ _) dk h2⟩)
    · cases rx
      split at e
      · rename_i hl
        rw [Option.map_eq_some_iff] at e
        obtain ⟨c', h1, rfl⟩ := e
        exact .inr (.inr ⟨_, _, _, rfl, rfl, hl, h1, q _ _ (.refl _ _) dk (.str _)⟩)
      · cases e
    · cases e
  · cases e
end

/-! built-in calls, tests, choices, slices -/
section
variable {X : Cx} {K : PySem.W.Frag} {mg : Str → Option Value}
/-! ### built-ins -/
def lenD : List D → Option D
  | [.lst ds] => some (.int ds.length)
  | [.tup ds] => some (.int ds.length)
  | [.str x] => if x.length ≤ sizeLine then some (.int x.length) else none
  | _ => none
theorem RepAll.one {ad : DA} {H : Hp} {xs : List V} {d : D} (h : RepAll K mg ad H xs [d]) : ∃ x, xs = [x] ∧ Rep K mg ad H x d := by
  cases h with
  | cons a b => cases b; exact ⟨_, rfl, a⟩
theorem RepAll.two {ad : DA} {H : Hp} {xs : List V} {d e : D} (h : RepAll K mg ad H xs [d, e]) : ∃ x y, xs = [x, y] ∧ Rep K mg ad H x d ∧ Rep K mg ad H y e := by
  cases h with
  | cons a b => obtain ⟨y, rfl, r⟩ := b.one; exact ⟨_, _, rfl, a, r⟩
theorem ad_len : AdC (RpE K mg) K mg (fun xs H Q => ∃ x n, xs = [x] ∧ LenV K x H n ∧ Q (.int n) H) lenD := by
  intro ad H g xs ds c dk r e Q q
  unfold lenD at e
  split at e
  · obtain ⟨x, rfl, rx⟩ := r.one
    cases e
    cases rx with
    | lst s ra => exact ⟨_, _, rfl, .inl ⟨_, s.l, ra.len.symm⟩, q _ _ (.refl _ _) dk (.int _)⟩
  · obtain ⟨x, rfl, rx⟩ := r.one
    cases e
    cases rx with
    | tup s ra => exact ⟨_, _, rfl, .inr ⟨_, s.t, ra.len.symm⟩, q _ _ (.refl _ _) dk (.int _)⟩
  · obtain ⟨x, rfl, rx⟩ := r.one
    split at e
    · rename_i hl
      cases e
      cases rx
      exact ⟨_, _, rfl, (show _ ∧ _ from ⟨hl, rfl⟩), q _ _ (.refl _ _) dk (.int _)⟩
    · cases e
  · cases e
/-- a list of bools -/
def bools : List D → Option (List Bool)
  | [] => some []
  | .bl b :: r => (bools r).map (b :: ·)
  | _ :: _ => none
theorem bools_rep {ad : DA} {H : Hp} : ∀ {ds : List D} {bs : List Bool} {vs : List V}, bools ds = some bs → RepAll K mg ad H vs ds → vs = bs.map V.bl
  | [], _, _, e, r => by cases e; cases r; rfl
  | .bl b :: ds, _, _, e, r => by
    simp only [bools, Option.map_eq_some_iff] at e
    obtain ⟨bs, e, rfl⟩ := e
    cases r with
    | cons a r =>
      cases a
      rw [bools_rep e r]
      rfl
  | .non :: _, _, _, e, _ => by simp [bools] at e
  | .int _ :: _, _, _, e, _ => by simp [bools] at e
  | .str _ :: _, _, _, e, _ => by simp [bools] at e
  | .tup _ :: _, _, _, e, _ => by simp [bools] at e
  | .lst _ :: _, _, _, e, _ => by simp [bools] at e
  | .draw :: _, _, _, e, _ => by simp [bools] at e
  | .fn _ :: _, _, _, e, _ => by simp [bools] at e
  | .dct _ _ :: _, _, _, e, _ => by simp [bools] at e
def allD : List D → Option D
  | [.lst ds] => (bools ds).map fun bs => .bl (bs.all id)
  | _ => none
def anyD : List D → Option D
  | [.lst ds] => (bools ds).map fun bs => .bl (bs.any id)
  | _ => none
theorem ad_all : AdC (RpE K mg) K mg (rAll K) allD := by
  intro ad H g xs ds c dk r e Q q
  unfold allD at e
  split at e
  · obtain ⟨x, rfl, rx⟩ := r.one
    rw [Option.map_eq_some_iff] at e
    obtain ⟨bs, e, rfl⟩ := e
    cases rx with
    | lst s ra =>
      have := bools_rep e ra
      subst this
      exact ⟨_, _, rfl, s.l, q _ _ (.refl _ _) dk (.bl _)⟩
  · cases e
theorem ad_any : AdC (RpE K mg) K mg (rAny K) anyD := by
  intro ad H g xs ds c dk r e Q q
  unfold anyD at e
  split at e
  · obtain ⟨x, rfl, rx⟩ := r.one
    rw [Option.map_eq_some_iff] at e
    obtain ⟨bs, e, rfl⟩ := e
    cases rx with
    | lst s ra =>
      have := bools_rep e ra
      subst this
      exact ⟨_, _, rfl, s.l, q _ _ (.refl _ _) dk (.bl _)⟩
  · cases e
def absD : List D → Option D
  | [.int i] => some (.int (if i < 0 then -i else i))
  | _ => none
theorem ad_abs : AdC (RpE K mg) K mg (fun xs H Q => ∃ i, xs = [.int i] ∧ Q (.int (if i < 0 then -i else i)) H) absD := by
  intro ad H g xs ds c dk r e Q q
  unfold absD at e
  split at e
  · obtain ⟨x, rfl, rx⟩ := r.one
    cases rx; cases e
    exact ⟨_, rfl, q _ _ (.refl _ _) dk (.int _)⟩
  · cases e
def intOfD : List D → Option D
  | [.int i] => some (.int i)
  | [.bl b] => some (.int (if b then 1 else 0))
  | _ => none
theorem ad_intOf : AdC (RpE K mg) K mg (fun xs H Q => (∃ i, xs = [.int i] ∧ Q (.int i) H) ∨ ∃ k, xs = [.bl k] ∧ Q (.int (if k then 1 else 0)) H) intOfD := by
  intro ad H g xs ds c dk r e Q q
  unfold intOfD at e
  split at e
  · obtain ⟨x, rfl, rx⟩ := r.one
    cases rx; cases e
    exact .inl ⟨_, rfl, q _ _ (.refl _ _) dk (.int _)⟩
  · obtain ⟨x, rfl, rx⟩ := r.one
    cases rx; cases e
    exact .inr ⟨_, rfl, q _ _ (.refl _ _) dk (.int _)⟩
  · cases e
/-- tuple(..) of a list or a tuple -/
def tupOfD : List D → Option D
  | [.lst ds] => some (.tup ds)
  | [.tup ds] => some (.tup ds)
  | _ => none
def rTupN (K : PySem.W.Frag) : List V → Hp → VK → Prop := fun xs H Q => ∃ p ys, xs = [.ref p] ∧ ((SqL K H p ys ∧ QN Q ys H) ∨ (SqT K H p ys ∧ Q (.ref p) H))
theorem call_tupN {X : Cx} : CallR X (.type "tuple") (rTupN X.K) := by
  intro pins s σ H xs us Q I r ⟨p, ys, ex, h⟩
  subst ex
  obtain ⟨u, rfl, rx⟩ := vals1 r
  cases rx
  rcases h with ⟨hq, q⟩ | ⟨hq, q⟩
  · obtain ⟨its, r', pl, hz⟩ := I.list hq
    have hlen := r'.length
    exact call_tuple_list pl.isList (fun h' kp => laidN (I.kept (t' := s.toks) kp) r' hz q) (by simp only [List.size_toArray] <;> omega)
  · exact call_tuple_of pins s σ H _ _ Q I r ⟨p, ys, rfl, .inr ⟨hq, q⟩⟩
theorem ad_tupOf : AdC (RpE K mg) K mg (rTupN K) tupOfD := by
  intro ad H g xs ds c dk r e Q q
  unfold tupOfD at e
  split at e
  · obtain ⟨x, rfl, rx⟩ := r.one
    cases e
    cases rx with
    | lst s ra => exact ⟨_, _, rfl, .inl ⟨s.l, fun l o hl ho => q _ _ (Keep.upd hl) (dk.upd hl) (.tup (.new ho) (ra.keep (Keep.upd hl) dk))⟩⟩
  · obtain ⟨x, rfl, rx⟩ := r.one
    cases e
    cases rx with
    | tup s ra => exact ⟨_, _, rfl, .inr ⟨s.t, q _ _ (.refl _ _) dk (.tup s ra)⟩⟩
  · cases e
/-- list(..) of a list or a tuple: a new one -/
def lstOfD : List D → Option Fv
  | [.lst ds] => some (.f ds)
  | [.tup ds] => some (.f ds)
  | _ => none
theorem ad_lstOf : AdC (RpX K mg) K mg (fun xs H Q => ∃ p ys, xs = [.ref p] ∧ (SqL K H p ys ∨ SqT K H p ys) ∧ ∀ l, H l = none → Q (.ref l) (upd H l (.lst ys))) lstOfD := by
  intro ad H g xs ds c dk r e Q q
  unfold lstOfD at e
  split at e
  · obtain ⟨x, rfl, rx⟩ := r.one
    cases e
    cases rx with
    | lst s ra => exact ⟨_, _, rfl, .inl s.l, fun l hl => q _ _ (Keep.upd hl) (dk.upd hl) ⟨l, _, rfl, hl, upd_same, ra.keep (Keep.upd hl) dk⟩⟩
  · obtain ⟨x, rfl, rx⟩ := r.one
    cases e
    cases rx with
    | tup s ra => exact ⟨_, _, rfl, .inr s.t, fun l hl => q _ _ (Keep.upd hl) (dk.upd hl) ⟨l, _, rfl, hl, upd_same, ra.keep (Keep.upd hl) dk⟩⟩
  · cases e
/-- s.split(t): a new list of texts -/
def splitD (a : D) (bs : List D) : Option Fv := match a, bs with
  | .str x, [.str y] => if (y.length == 0) = false ∧ x.length + 2 ≤ sizeLine then some (.f ((Txt.split x y).map .str)) else none
  | _, _ => none
theorem rep_strs {ad : DA} {H : Hp} : ∀ ys : List Str, RepAll K mg ad H (ys.map V.str) (ys.map D.str)
  | [] => .nil
  | y :: ys => .cons (.str y) (rep_strs ys)
theorem ad_split : AdM (RpX K mg) K mg (fun x xs H Q => ∃ a b, x = .str a ∧ xs = [.str b] ∧ (b.length == 0) = false ∧ a.length + 2 ≤ sizeLine ∧ rNewStrs (Txt.split a b) H Q) splitD := by
  intro ad H g x xs d ds c dk rx rs e Q q
  unfold splitD at e
  split at e
  · obtain ⟨y, rfl, r⟩ := rs.one
    cases rx; cases r
    split at e
    · rename_i h
      cases e
      exact ⟨_, _, rfl, rfl, h.1, h.2, fun p hp => q _ _ (Keep.upd hp) (dk.upd hp) ⟨p, _, rfl, hp, upd_same, rep_strs _⟩⟩
    · cases e
  · cases e

/-! ### isinstance of a built-in class -/
def tyD : D → String
  | .non => "NoneType"
  | .bl _ => "bool"
  | .int _ => "int"
  | .str _ => "str"
  | .tup _ => "tuple"
  | .lst _ => "list"
  | _ => ""
def isiD (T : String) (a : D) : Option D := match a, T with
  | .draw, _ => none
  | .fn _, _ => none
  | .dct _ _, _ => none
  | .bl _, "int" => some (.bl true)
  | a, T => if T = "int" ∨ T = "str" ∨ T = "tuple" ∨ T = "list" ∨ T = "bool" then some (.bl (tyD a == T)) else none
theorem Rep.ty {ad : DA} {H : Hp} {x : V} {d : D} (r : Rep K mg ad H x d) (h : tyD d ≠ "") : TyX K H x (.type (tyD d)) := by
  cases r with
  | non => exact .base .non
  | bl _ => exact .base (.bl _)
  | int _ => exact .base (.int _)
  | str _ => exact .base (.str _)
  | tup s _ =>
    rcases s.t with (s | ⟨o, s⟩) | ⟨o, its, n, e, c, _⟩
    · exact .base (.tup s)
    · exact .fTuple s
    · exact .kTuple e c
  | lst s _ => obtain ⟨o, s⟩ := s; exact .base (.frz s)
  | draw => exact absurd rfl h
  | fn _ => exact absurd rfl h
  | dct _ _ => exact absurd rfl h
theorem isi_kit {T : String} {a c : D} (e : isiD T a = some c) : tyD a ≠ "" ∧ ∃ b, c = .bl b ∧ kitB (tyD a) T = some b := by
  have all : ∀ t ∈ ["NoneType", "bool", "int", "str", "tuple", "list"], ∀ T ∈ ["int", "str", "tuple", "list", "bool"], kitB t T = some (if t = "bool" ∧ T = "int" then true else t == T) := by decide +kernel
  have mem : ∀ T, (T = "int" ∨ T = "str" ∨ T = "tuple" ∨ T = "list" ∨ T = "bool") → T ∈ ["int", "str", "tuple", "list", "bool"] := fun T h => by simpa using h
  unfold isiD at e
  split at e
  · cases e
  · cases e
  · cases e
  · cases e
    exact ⟨(by decide : ("bool" : String) ≠ ""), true, rfl, (by decide +kernel : kitB "bool" "int" = some true)⟩
  · rename_i h1 h2 h2' h3
    split at e
    · rename_i hT
      cases e
      have ht : tyD a ∈ ["NoneType", "bool", "int", "str", "tuple", "list"] := by
        cases a <;> first | exact (h1 rfl).elim | exact (h2 _ rfl).elim | exact (h2' _ _ rfl).elim | simp [tyD]
      refine ⟨fun z => by rw [z] at ht; exact absurd ht (by decide), _, rfl, ?_⟩
      rw [all _ ht _ (mem _ hT), if_neg]
      rintro ⟨z1, z2⟩
      cases a <;> first | exact h3 _ rfl z2 | simp [tyD] at z1
    · cases e
theorem de_isi {W : WX} {B : List Nat} {e : Expr} {ta : ET} {T : String} {x : Str} {p p2 pos : Pos} (ha : PE X e (eE X.K X.mg W B ta)) (hg : Gl X "isinstance") (hm : X.mg "isinstance" = none) (hg2 : Gl X x) (hm2 : X.mg x = none) (hv : bootBuiltins x = some (.type T)) (hn : x ≠ "__name__" := by decide) (hd : (x == ("__debug__" : Str)) = false := by decide)
    (hs : starEach [e, .Name x p2] X.env = (false, eval e X.env) :: starEach [.Name x p2] X.env := by rfl) (hpl : (backTo pos (starEach [.Name x p2] X.env)).any (·.1) = false := by rfl) (hs2 : starEach [.Name x p2] X.env = (false, eval (.Name x p2) X.env) :: starEach [] X.env := by rfl) :
    PE X (.Call (.Name "isinstance" p) [e, .Name x p2] [] pos) (eE X.K X.mg W B (dUn (isiD T) ta)) :=
  PE.imp (pe_callB call_isi hg hm PyProof.Rows.boot_isinstance (pa_cons ha (pa_cons (pe_bltn hg2 hm2 hv (v := .ty T) rfl hn hd) pa_nil hs2) hs) (by decide) (by decide) hs hpl) fun σ H Q ⟨a0, S, g, h⟩ => by
    have h : At (RpE X.K X.mg) X.K X.mg W (B ++ []) (dUn (isiD T) ta) a0 S g σ H Q := by rw [List.append_nil]; exact h
    refine .mk ((h.bind (Rp1 := RpE X.K X.mg) bkE).imp fun x H1 ⟨a, g1, k1, d1, r1, h2⟩ => ?_)
    obtain ⟨z, e, q⟩ := At.lift (o := fun _ => isiD T a) h2
    obtain ⟨h1, b, rfl, hk⟩ := isi_kit e
    exact ⟨x, .ty T, _, _, b, rfl, .ty T, r1.ty h1, kit_ty hk, q _ _ (.refl _ _) d1 (.bl b)⟩
end

/-! ### tests -/
section
variable {X : Cx} {W : WX} {B Ba Bb Bc : List Nat} {e a b c : Expr} {ta tb tc : ET} {sa sb : BT} {pos : Pos} {rest : List Expr}
/-- a bool as a test -/
def tOf (t : ET) : BT := fun S g => (t S g).bind fun d g1 => match d with
  | .bl b => .ok b g1
  | _ => .bad
theorem tOf_ap {t : ET} : ∀ σ H Q, eT X.K X.mg W B (tOf t) σ H Q → tB (eE X.K X.mg W B t) σ H Q := fun σ H Q ⟨a0, S, g, h⟩ => by
  have h : At RpT' X.K X.mg W (B ++ []) (tOf t) a0 S g σ H Q := by rw [List.append_nil]; exact h
  refine .mk ((h.bind (Rp1 := RpE X.K X.mg) bkT (k := fun d _ g1 => match d with | .bl b => .ok b g1 | _ => .bad)).imp fun x H1 ⟨a, g1, k1, d1, r1, h2⟩ => ?_)
  have p := h2.po
  cases r1 with
  | bl b => exact ⟨b, rfl, p b H1 (.refl _ _) d1 rfl⟩
  | _ => exact p.elim
theorem dt_val (h : PE X e (eE X.K X.mg W B ta)) (he : ∀ whole, isTrue e X.env whole = (do let v ← whole; standAt e.pos; holding [v] (truthy v)) := by intro _; rfl) : PT X e (eT X.K X.mg W B (tOf ta)) := PT.imp (pt_val h he) tOf_ap
/-- a comparison as a test -/
theorem dt_cmp {op : CmpOp} {r : R2} {f : D → D → Option D} (ho : OpR X (compareOp op) r) (ad : AdG (RpE X.K X.mg) X.K X.mg r f) (ha : PE X a (eE X.K X.mg W Ba ta)) (hb : PE X b (eE X.K X.mg W Bb tb)) (hm : behindInMarks op b = false) : PT X (.Compare a [op] [b] pos) (eT X.K X.mg W (Ba ++ Bb) (tOf (dBin f ta tb))) :=
  PT.imp (pt_cmpR ho ha hb hm) fun σ H Q h => ad.ap bkE σ H _ (tOf_ap σ H Q h)
/-- truth of any value -/
def truD : D → Option Bool
  | .non => some false
  | .bl b => some b
  | .int i => some (i != 0)
  | .str y => if y.length ≤ sizeLine then some ((y.length : Int) != 0) else none
  | .lst ds => some (!ds.isEmpty)
  | .tup ds => some (!ds.isEmpty)
  | _ => none
theorem truD_ok {K : PySem.W.Frag} {mg : Str → Option Value} {ad : DA} {H : Hp} {x : V} {d : D} {k : Bool} (r : Rep K mg ad H x d) (e : truD d = some k) : TruV K x H k := by
  have em : ∀ {vs : List V} {ds : List D}, RepAll K mg ad H vs ds → (!ds.isEmpty) = !vs.isEmpty := fun h => by cases h <;> rfl
  cases r with
  | non => cases e; rfl
  | bl _ => cases e; rfl
  | int _ => cases e; rfl
  | str y =>
    simp only [truD] at e
    split at e
    · cases e; exact ⟨by assumption, rfl⟩
    · cases e
  | tup s ra => cases e; exact .inr (.inl ⟨_, s.t, em ra⟩)
  | lst s ra => cases e; exact .inl ⟨_, s.l, em ra⟩
  | draw => cases e
  | fn _ => cases e
  | dct _ _ => cases e
def tTru (t : ET) : BT := fun S g => (t S g).bind fun d g1 => lift (truD d) g1
theorem dt_tru (h : PE X e (eE X.K X.mg W B ta)) (he : ∀ whole, isTrue e X.env whole = (do let v ← whole; standAt e.pos; holding [v] (truthy v)) := by intro _; rfl) : PT X e (eT X.K X.mg W B (tTru ta)) :=
  PT.imp (pt_truth h he) fun σ H Q ⟨a0, S, g, h⟩ => by
    have h : At RpT' X.K X.mg W (B ++ []) (tTru ta) a0 S g σ H Q := by rw [List.append_nil]; exact h
    refine .mk ((h.bind (Rp1 := RpE X.K X.mg) bkT (k := fun d _ g1 => lift (truD d) g1)).imp fun x H1 ⟨a, g1, k1, d1, r1, h2⟩ => ?_)
    have p := h2.po
    cases e : truD a with
    | none => simp only [e, lift_none] at p; exact p.elim
    | some k => simp only [e, lift_some] at p; exact ⟨k, truD_ok r1 e, p k H1 (.refl _ _) d1 rfl⟩
def tNotD (s : BT) : BT := fun S g => (s S g).bind fun b g1 => .ok (!b) g1
theorem dt_not (h : PT X a (eT X.K X.mg W B sa)) : PT X (.UnaryOp .Not a pos) (eT X.K X.mg W B (tNotD sa)) := PT.imp (pt_not h) fun σ H Q ⟨a0, S, g, h⟩ => by
  have h : At RpT' X.K X.mg W (B ++ []) (tNotD sa) a0 S g σ H Q := by rw [List.append_nil]; exact h
  refine .mk ((h.bind (Rp1 := RpT') bkT (k := fun b _ g1 => .ok (!b) g1)).imp fun x H1 ⟨a, g1, k1, d1, r1, h2⟩ => ?_)
  cases r1
  exact h2.po _ _ (.refl _ _) d1 rfl
def tAndD (s t : BT) : BT := fun S g => (s S g).bind fun b g1 => if b = true then t S g1 else .ok false g1
def tOrD (s t : BT) : BT := fun S g => (s S g).bind fun b g1 => if b = true then .ok true g1 else t S g1
theorem At.ok {γ α : Type} {Rp : RpT γ α} {K : PySem.W.Frag} {mg : Str → Option Value} {B : List Nat} {t : DSt → G → R α} {ad : DA} {S : DSt} {g : G} {σ : St} {H : Hp} {Q : γ → Hp → Prop} (h : At Rp K mg W B t ad S g σ H Q) {a : α} {v : γ} (e : t S g = .ok a g) (r : Rp ad H H v a) : Q v H := by
  have p := h.po
  rw [e] at p
  exact p v H (.refl _ _) h.dk r
theorem tAndD_ap : ∀ σ H Q, eT X.K X.mg W (Ba ++ Bb) (tAndD sa sb) σ H Q → tAnd (eT X.K X.mg W Ba sa) (eT X.K X.mg W Bb sb) σ H Q := fun σ H Q ⟨a0, S, g, h⟩ => by
  refine .mk ((h.bind (Rp1 := RpT') bkT (k := fun b S g1 => if b = true then sb S g1 else .ok false g1)).imp fun x H1 ⟨a, g1, k1, d1, r1, h2⟩ => ?_)
  cases r1
  cases x with
  | true => rw [if_pos rfl]; exact .mk h2
  | false => rw [if_neg Bool.false_ne_true]; exact h2.ok rfl rfl
theorem tOrD_ap : ∀ σ H Q, eT X.K X.mg W (Ba ++ Bb) (tOrD sa sb) σ H Q → tOr (eT X.K X.mg W Ba sa) (eT X.K X.mg W Bb sb) σ H Q := fun σ H Q ⟨a0, S, g, h⟩ => by
  refine .mk ((h.bind (Rp1 := RpT') bkT (k := fun b S g1 => if b = true then .ok true g1 else sb S g1)).imp fun x H1 ⟨a, g1, k1, d1, r1, h2⟩ => ?_)
  cases r1
  cases x with
  | true => rw [if_pos rfl]; exact h2.ok rfl rfl
  | false => rw [if_neg Bool.false_ne_true]; exact .mk h2
theorem dw_and1 (h : PT X a (eT X.K X.mg W B sa)) : PW X (.BoolOp .And [a] pos) (eT X.K X.mg W B sa) := pw_and1 h
theorem dw_or1 (h : PT X a (eT X.K X.mg W B sa)) : PW X (.BoolOp .Or [a] pos) (eT X.K X.mg W B sa) := pw_or1 h
theorem dw_and (ha : PT X a (eT X.K X.mg W Ba sa)) (hb : PW X (.BoolOp .And (b :: rest) pos) (eT X.K X.mg W Bb sb)) : PW X (.BoolOp .And (a :: b :: rest) pos) (eT X.K X.mg W (Ba ++ Bb) (tAndD sa sb)) := PW.imp (pw_and ha hb) tAndD_ap
theorem dw_or (ha : PT X a (eT X.K X.mg W Ba sa)) (hb : PW X (.BoolOp .Or (b :: rest) pos) (eT X.K X.mg W Bb sb)) : PW X (.BoolOp .Or (a :: b :: rest) pos) (eT X.K X.mg W (Ba ++ Bb) (tOrD sa sb)) := PW.imp (pw_or ha hb) tOrD_ap
/-! as values: the first ones by their truth -/
def eAnd (t u : ET) : ET := fun S g => (t S g).bind fun d g1 => match truD d with
  | some true => u S g1
  | some false => .ok d g1
  | none => .bad
def eOr (t u : ET) : ET := fun S g => (t S g).bind fun d g1 => match truD d with
  | some true => .ok d g1
  | some false => u S g1
  | none => .bad
def eNot (t : ET) : ET := fun S g => (t S g).bind fun d g1 => lift ((truD d).map fun b => .bl (!b)) g1
theorem de_one {op : BoolOp} (h : PE X a (eE X.K X.mg W B ta)) : PE X (.BoolOp op [a] pos) (eE X.K X.mg W B ta) := pe_one h
theorem de_and (ha : PE X a (eE X.K X.mg W Ba ta)) (hb : PE X (.BoolOp .And (b :: rest) pos) (eE X.K X.mg W Bb tb)) : PE X (.BoolOp .And (a :: b :: rest) pos) (eE X.K X.mg W (Ba ++ Bb) (eAnd ta tb)) := PE.imp (pe_andT ha hb) fun σ H Q ⟨a0, S, g, h⟩ => by
  refine .mk ((h.bind (Rp1 := RpE X.K X.mg) bkE (k := fun d S g1 => match truD d with | some true => tb S g1 | some false => .ok d g1 | none => .bad)).imp fun x H1 ⟨a, g1, k1, d1, r1, h2⟩ => ?_)
  cases e : truD a with
  | none => have p := h2.po; simp only [e] at p; exact p.elim
  | some k =>
    refine ⟨k, truD_ok r1 e, ?_⟩
    cases k with
    | true => rw [if_pos rfl]; simp only [e] at h2; exact .mk h2
    | false => rw [if_neg Bool.false_ne_true]; simp only [e] at h2; exact h2.ok rfl r1
theorem de_or (ha : PE X a (eE X.K X.mg W Ba ta)) (hb : PE X (.BoolOp .Or (b :: rest) pos) (eE X.K X.mg W Bb tb)) : PE X (.BoolOp .Or (a :: b :: rest) pos) (eE X.K X.mg W (Ba ++ Bb) (eOr ta tb)) := PE.imp (pe_orT ha hb) fun σ H Q ⟨a0, S, g, h⟩ => by
  refine .mk ((h.bind (Rp1 := RpE X.K X.mg) bkE (k := fun d S g1 => match truD d with | some true => .ok d g1 | some false => tb S g1 | none => .bad)).imp fun x H1 ⟨a, g1, k1, d1, r1, h2⟩ => ?_)
  cases e : truD a with
  | none => have p := h2.po; simp only [e] at p; exact p.elim
  | some k =>
    refine ⟨k, truD_ok r1 e, ?_⟩
    cases k with
    | true => rw [if_pos rfl]; simp only [e] at h2; exact h2.ok rfl r1
    | false => rw [if_neg Bool.false_ne_true]; simp only [e] at h2; exact .mk h2
theorem de_not (h : PE X a (eE X.K X.mg W B ta)) : PE X (.UnaryOp .Not a pos) (eE X.K X.mg W B (eNot ta)) := PE.imp (pe_notT h) fun σ H Q ⟨a0, S, g, h⟩ => by
  have h : At (RpE X.K X.mg) X.K X.mg W (B ++ []) (eNot ta) a0 S g σ H Q := by rw [List.append_nil]; exact h
  refine .mk ((h.bind (Rp1 := RpE X.K X.mg) bkE (k := fun d _ g1 => lift ((truD d).map fun b => .bl (!b)) g1)).imp fun x H1 ⟨a, g1, k1, d1, r1, h2⟩ => ?_)
  cases e : truD a with
  | none => have p := h2.po; simp only [e] at p; exact p.elim
  | some k =>
    have p := h2.po
    simp only [e] at p
    exact ⟨k, truD_ok r1 e, p _ _ (.refl _ _) d1 (.bl _)⟩
/-- x if t else y -/
def eIf {α : Type} (s : BT) (t u : DSt → G → R α) : DSt → G → R α := fun S g => (s S g).bind fun b g1 => if b = true then t S g1 else u S g1
theorem At.sub {γ α : Type} {Rp : RpT γ α} {K : PySem.W.Frag} {mg : Str → Option Value} {B C : List Nat} {t : DSt → G → R α} {ad : DA} {S : DSt} {g : G} {σ : St} {H : Hp} {Q : γ → Hp → Prop} (h : At Rp K mg W B t ad S g σ H Q) (i : ∀ x ∈ C, x ∈ B) : At Rp K mg W C t ad S g σ H Q := ⟨⟨h.sr.1, fun x hx => h.sr.2 x (i x hx)⟩, h.dk, h.po⟩
theorem dr_if {α : Type} {Rp : RpT V α} {t u : DSt → G → R α} (bk : Bk Rp) (hc : PT X c (eT X.K X.mg W Bc sa)) (ha : PE X a (rd Rp X.K X.mg W Ba t)) (hb : PE X b (rd Rp X.K X.mg W Bb u)) : PE X (.IfExp c a b pos) (rd Rp X.K X.mg W (Bc ++ (Ba ++ Bb)) (eIf sa t u)) := PE.imp (pe_ifExp hc ha hb) fun σ H Q ⟨a0, S, g, h⟩ => by
  refine .mk ((h.bind (Rp1 := RpT') bk (k := fun b S g1 => if b = true then t S g1 else u S g1)).imp fun x H1 ⟨a, g1, k1, d1, r1, h2⟩ => ?_)
  cases r1
  cases x with
  | true => rw [if_pos rfl]; exact .mk ((show At Rp X.K X.mg W (Ba ++ Bb) t a0 S g1 σ H1 Q from h2).sub fun x hx => List.mem_append_left _ hx)
  | false => rw [if_neg Bool.false_ne_true]; exact .mk ((show At Rp X.K X.mg W (Ba ++ Bb) u a0 S g1 σ H1 Q from h2).sub fun x hx => List.mem_append_right _ hx)
/-- as a list that may be new -/
theorem dx_of (h : PE X e (eE X.K X.mg W B ta)) : PE X e (eX X.K X.mg W B (fun S g => (ta S g).map Fv.v)) := PE.imp h fun σ H Q ⟨a0, S, g, h⟩ => by
  refine ⟨a0, S, g, h.sr, h.dk, ?_⟩
  have p := h.po
  cases r : ta S g with
  | bad => simp only [r, R.map] at p; exact p
  | er x g' => simp only [r, R.map] at p; exact p
  | ok f g' => simp only [r, R.map] at p; exact p
/-- two comparisons in a row -/
def eChain (f f' : D → D → Option D) (ta tb tc : ET) : ET := fun S g => (ta S g).bind fun a g1 => (tb S g1).bind fun b g2 => match f a b with
  | some (.bl true) => (tc S g2).bind fun c g3 => lift (f' b c) g3
  | some (.bl false) => .ok (.bl false) g2
  | _ => .bad
theorem chain_ap {r r' : R2} {f f' : D → D → Option D} (ad1 : AdG (RpE X.K X.mg) X.K X.mg r f) (ad2 : AdG (RpE X.K X.mg) X.K X.mg r' f') : ∀ σ H Q, eE X.K X.mg W (Ba ++ (Bb ++ Bc)) (eChain f f' ta tb tc) σ H Q → tChain r r' (eE X.K X.mg W Ba ta) (eE X.K X.mg W Bb tb) (eE X.K X.mg W Bc tc) σ H Q := fun σ H Q ⟨a0, S, g, h⟩ => by
  refine .mk ((h.bind (Rp1 := RpE X.K X.mg) bkE (k := fun a S g1 => (tb S g1).bind fun b g2 => match f a b with | some (.bl true) => (tc S g2).bind fun c g3 => lift (f' b c) g3 | some (.bl false) => .ok (.bl false) g2 | _ => .bad)).imp fun x H1 ⟨a, g1, k1, d1, r1, h2⟩ => ?_)
  refine .mk ((h2.bind (Rp1 := RpE X.K X.mg) bkE (k := fun b S g2 => match f a b with | some (.bl true) => (tc S g2).bind fun c g3 => lift (f' b c) g3 | some (.bl false) => .ok (.bl false) g2 | _ => .bad)).imp fun y H2 ⟨b, g2, k2, d2, r2, h3⟩ => ?_)
  have p := h3.po
  cases e : f a b with
  | none => simp only [e] at p; exact p.elim
  | some z =>
    cases z with
    | bl k =>
      refine ad1 a0 H2 g2 x y a b _ d2 (r1.keep k2 d1) r2 e _ fun v H3 k3 d3 r3 => ?_
      cases r3
      refine ⟨k, rfl, ?_⟩
      cases k with
      | true =>
        rw [if_pos rfl]
        simp only [e] at h3
        have h4 : At (RpE X.K X.mg) X.K X.mg W (Bc ++ []) (fun S g => (tc S g).bind fun c g3 => (fun c (_ : DSt) g => DI.lift (f' b c) g) c S g3) a0 S g2 σ H3 Q := by
          rw [List.append_nil]
          exact ⟨h3.sr.keep k3 d2, d3, h3.po.back bkE k3 d3⟩
        refine .mk ((h4.bind (Rp1 := RpE X.K X.mg) bkE).imp fun w H4 ⟨c, g4, k4, d4, r4, h5⟩ => ?_)
        obtain ⟨z, e2, q⟩ := At.lift (o := fun _ => f' b c) h5
        exact ad2 a0 H4 g4 y w b c z d4 ((r2.keep k3 d2).keep k4 d3) r4 e2 Q q
      | false =>
        rw [if_neg Bool.false_ne_true]
        simp only [e] at h3
        exact h3.po _ _ k3 d3 (.bl _)
    | _ => simp only [e] at p; exact p.elim
theorem de_chain {op op' : CmpOp} {r r' : R2} {f f' : D → D → Option D} (ho : OpR X (compareOp op) r) (ho' : OpR X (compareOp op') r') (ad1 : AdG (RpE X.K X.mg) X.K X.mg r f) (ad2 : AdG (RpE X.K X.mg) X.K X.mg r' f')
    (ha : PE X a (eE X.K X.mg W Ba ta)) (hb : PE X b (eE X.K X.mg W Bb tb)) (hc : PE X c (eE X.K X.mg W Bc tc)) (hm : lastMarks [op, op'] [b, c] = false := by with_unfolding_all rfl) : PE X (.Compare a [op, op'] [b, c] pos) (eE X.K X.mg W (Ba ++ (Bb ++ Bc)) (eChain f f' ta tb tc)) := PE.imp (pe_chain ho ho' ha hb hc hm) (chain_ap ad1 ad2)
theorem dt_chain {op op' : CmpOp} {r r' : R2} {f f' : D → D → Option D} (ho : OpR X (compareOp op) r) (ho' : OpR X (compareOp op') r') (ad1 : AdG (RpE X.K X.mg) X.K X.mg r f) (ad2 : AdG (RpE X.K X.mg) X.K X.mg r' f')
    (ha : PE X a (eE X.K X.mg W Ba ta)) (hb : PE X b (eE X.K X.mg W Bb tb)) (hc : PE X c (eE X.K X.mg W Bc tc)) (hm : lastMarks [op, op'] [b, c] = false := by with_unfolding_all rfl) : PT X (.Compare a [op, op'] [b, c] pos) (eT X.K X.mg W (Ba ++ (Bb ++ Bc)) (tOf (eChain f f' ta tb tc))) := PT.imp (pt_chain ho ho' ha hb hc hm) fun σ H Q h => chain_ap ad1 ad2 σ H _ (tOf_ap σ H Q h)
end

/-! statements: slots that hold data, or a list of the def's own -/

inductive SV where
  | val (d : D) | own (ds : List D) | mat (rows : List (List D))
def SV.d : SV → D
  | .val d => d
  | .own ds => .lst ds
  | .mat rows => .lst (rows.map D.lst)
abbrev SS := List (Option SV)
def view (S : SS) : DSt := S.map (Option.map SV.d)
def frz1 : Option SV → Option SV
  | some (.own ds) => some (.val (.lst ds))
  | some (.mat rows) => some (.val (.lst (rows.map D.lst)))
  | x => x
def frzFrom (B : List Nat) : Nat → SS → SS
  | _, [] => []
  | n, x :: r => (if B.contains n then frz1 x else x) :: frzFrom B (n + 1) r
def frzB (B : List Nat) (S : SS) : SS := frzFrom B 0 S
def post (f : Fv) (B : List Nat) (S : SS) : SS := if f.nol then S else frzB B S
def Fv.sv : Fv → SV
  | .v d => .val d
  | .f ds => .own ds
theorem frzFrom_get (B : List Nat) : ∀ (n : Nat) (S : SS) (i : Nat), (frzFrom B n S)[i]? = S[i]?.map fun x => if B.contains (n + i) then frz1 x else x
  | _, [], i => by simp [frzFrom]
  | n, x :: r, 0 => by simp [frzFrom]
  | n, x :: r, i + 1 => by
    simp only [frzFrom, List.getElem?_cons_succ]
    rw [frzFrom_get B (n + 1) r i, show n + 1 + i = n + (i + 1) by omega]
theorem frzB_get (B : List Nat) (S : SS) (i : Nat) : (frzB B S)[i]? = S[i]?.map fun x => if B.contains i then frz1 x else x := by
  unfold frzB; rw [frzFrom_get]; simp
theorem frzFrom_len (B : List Nat) : ∀ (n : Nat) (S : SS), (frzFrom B n S).length = S.length
  | _, [] => rfl
  | n, _ :: r => by simp [frzFrom, frzFrom_len B (n + 1) r]
theorem view_get (S : SS) (i : Nat) : (view S)[i]? = S[i]?.map (Option.map SV.d) := by simp [view]
theorem frz1_d (x : Option SV) : (frz1 x).map SV.d = x.map SV.d := by
  cases x with
  | none => rfl
  | some v => cases v <;> rfl

/-- tuples and frozen lists stay -/
structure Perm (H H' : Hp) : Prop where
  tup : ∀ a xs, H a = some (.tup xs) → H' a = some (.tup xs)
  frz : ∀ a o u, H a = some (.frz o u) → H' a = some (.frz o u)
theorem Perm.refl (H : Hp) : Perm H H := ⟨fun _ _ h => h, fun _ _ _ h => h⟩
theorem Perm.trans {H H1 H2 : Hp} (a : Perm H H1) (b : Perm H1 H2) : Perm H H2 := ⟨fun c xs h => b.tup c xs (a.tup c xs h), fun c o u h => b.frz c o u (a.frz c o u h)⟩
theorem Keep.perm {ad : DA} {H H' : Hp} {g : G} (k : Keep ad H H') (dk : DrawOk ad H g) : Perm H H' := ⟨fun a xs h => k a _ h (ne_of h dk.1 (by intro z; cases z)), fun a o u h => k a _ h (ne_of h dk.1 (by intro z; cases z))⟩
theorem Perm.upd {H : Hp} {p : Addr} {o : HO} (h : H p = none) : Perm H (upd H p o) := ⟨fun b x e => by rw [upd_ne (ne_of_none e h)]; exact e, fun b x u e => by rw [upd_ne (ne_of_none e h)]; exact e⟩
theorem Perm.sqT {K : PySem.W.Frag} {H H' : Hp} (p : Perm H H') {a : Addr} {xs : List V} (h : SqT K H a xs) : SqT K H' a xs := by
  rcases h with (h | ⟨o, h⟩) | h
  · exact .inl (.inl (p.tup _ _ h))
  · exact .inl (.inr ⟨o, p.frz _ _ _ h⟩)
  · exact .inr h
theorem Perm.sqN {K : PySem.W.Frag} {H H' : Hp} (p : Perm H H') {a : Addr} {xs : List V} (h : SqN K H a xs) : SqN K H' a xs := h.to fun _ _ _ e => p.frz _ _ _ e
theorem Perm.sqP {K : PySem.W.Frag} {H H' : Hp} (p : Perm H H') {a : Addr} {xs : List V} (h : SqP K H a xs) : SqP K H' a xs := by
  obtain ⟨o, h⟩ := h
  exact ⟨o, p.frz _ _ _ h⟩
theorem Perm.dcP {H H' : Hp} (p : Perm H H') {a : Addr} {ks : List D} {xs : List V} (h : DcP H a ks xs) : DcP H' a ks xs := h.to fun _ _ _ e => p.frz _ _ _ e
theorem Rep.perm {K : PySem.W.Frag} {mg : Str → Option Value} {ad : DA} {H H' : Hp} {v : V} {d : D} (r : Rep K mg ad H v d) (p : Perm H H') : Rep K mg ad H' v d := Rep.map (fun _ _ => p.sqN) (fun _ _ => p.sqP) (fun _ _ _ => p.dcP) d v r
theorem RepAll.perm {K : PySem.W.Frag} {mg : Str → Option Value} {ad : DA} {H H' : Hp} {v : List V} {d : List D} (r : RepAll K mg ad H v d) (p : Perm H H') : RepAll K mg ad H' v d := RepAll.map (fun _ _ => p.sqN) (fun _ _ => p.sqP) (fun _ _ _ => p.dcP) d v r

/-- the lines of a matrix: lists of one's own, of data without lists -/
def Rows (K : PySem.W.Frag) (mg : Str → Option Value) (ad : DA) (H : Hp) : List Addr → List (List D) → Prop
  | [], [] => True
  | r :: rs, x :: xs => (∃ vs, H r = some (.lst vs) ∧ RepAll K mg ad H vs x) ∧ nolAll x = true ∧ Rows K mg ad H rs xs
  | _, _ => False
theorem Rows.to {K : PySem.W.Frag} {mg : Str → Option Value} {ad : DA} {H H' : Hp} : ∀ {rs : List Addr} {xs : List (List D)}, Rows K mg ad H rs xs → (∀ r ∈ rs, ∀ vs, H r = some (.lst vs) → H' r = some (.lst vs)) → (∀ vs ds, RepAll K mg ad H vs ds → RepAll K mg ad H' vs ds) → Rows K mg ad H' rs xs
  | [], [], _, _, _ => trivial
  | r :: rs, x :: xs, ⟨⟨vs, h1, h2⟩, h3, h4⟩, hl, hr => ⟨⟨vs, hl r List.mem_cons_self vs h1, hr _ _ h2⟩, h3, Rows.to h4 (fun r' m => hl r' (List.mem_cons_of_mem _ m)) hr⟩
  | [], _ :: _, h, _, _ => h.elim
  | _ :: _, [], h, _, _ => h.elim
theorem Rows.toN {K : PySem.W.Frag} {mg : Str → Option Value} {ad : DA} {H H' : Hp} : ∀ {rs : List Addr} {xs : List (List D)}, Rows K mg ad H rs xs → (∀ r ∈ rs, ∀ vs, H r = some (.lst vs) → H' r = some (.lst vs)) → (∀ a ys, SqN K H a ys → SqN K H' a ys) → Rows K mg ad H' rs xs
  | [], [], _, _, _ => trivial
  | r :: rs, x :: xs, ⟨⟨vs, h1, h2⟩, h3, h4⟩, hl, hr => ⟨⟨vs, hl r List.mem_cons_self vs h1, RepAll.mapN hr _ _ h3 h2⟩, h3, Rows.toN h4 (fun r' m => hl r' (List.mem_cons_of_mem _ m)) hr⟩
  | [], _ :: _, h, _, _ => h.elim
  | _ :: _, [], h, _, _ => h.elim
theorem Rows.frz {K : PySem.W.Frag} {mg : Str → Option Value} {ad : DA} {H H' : Hp} : ∀ {rs : List Addr} {xs : List (List D)}, Rows K mg ad H rs xs → (∀ r ∈ rs, ∀ vs, H r = some (.lst vs) → SqP K H' r vs) → (∀ vs ds, RepAll K mg ad H vs ds → RepAll K mg ad H' vs ds) → RepAll K mg ad H' (rs.map V.ref) (xs.map D.lst)
  | [], [], _, _, _ => .nil
  | r :: rs, x :: xs, ⟨⟨vs, h1, h2⟩, h3, h4⟩, hl, hr => .cons (.lst (hl r List.mem_cons_self vs h1) (hr _ _ h2)) (Rows.frz h4 (fun r' m => hl r' (List.mem_cons_of_mem _ m)) hr)
  | [], _ :: _, h, _, _ => h.elim
  | _ :: _, [], h, _, _ => h.elim
/-- how a slot lies that owns the lists l -/
def Lies (K : PySem.W.Frag) (mg : Str → Option Value) (ad : DA) (H : Hp) (v : V) (l : List Addr) : SV → Prop
  | .val d => Rep K mg ad H v d
  | .own ds => ∃ a vs, v = .ref a ∧ l = [a] ∧ H a = some (.lst vs) ∧ RepAll K mg ad H vs ds
  | .mat rows => ∃ a rs, v = .ref a ∧ l = a :: rs ∧ H a = some (.lst (rs.map V.ref)) ∧ Rows K mg ad H rs rows
/-- .. at another heap -/
theorem Lies.to {K : PySem.W.Frag} {mg : Str → Option Value} {ad : DA} {H H' : Hp} {v : V} {l : List Addr} {x : SV} (h : Lies K mg ad H v l x) (hl : ∀ r ∈ l, ∀ vs, H r = some (.lst vs) → H' r = some (.lst vs)) (h1 : ∀ v d, Rep K mg ad H v d → Rep K mg ad H' v d) (hr : ∀ vs ds, RepAll K mg ad H vs ds → RepAll K mg ad H' vs ds) : Lies K mg ad H' v l x := by
  cases x with
  | val d => exact h1 _ _ h
  | own ds =>
    obtain ⟨a, vs, rfl, rfl, e, r⟩ := h
    exact ⟨a, vs, rfl, rfl, hl a List.mem_cons_self _ e, hr _ _ r⟩
  | mat rows =>
    obtain ⟨a, rs, rfl, rfl, e, r⟩ := h
    exact ⟨a, rs, rfl, rfl, hl a List.mem_cons_self _ e, r.to (fun r' m => hl r' (List.mem_cons_of_mem _ m)) hr⟩
/-- ow: which lists each slot owns -/
structure SRo (ow : Nat → List Addr) (K : PySem.W.Frag) (mg : Str → Option Value) (H0 : Hp) (ad : DA) (H : Hp) (σ : St) (S : SS) : Prop where
  keep : Keep ad H0 H
  lies : ∀ (i : Nat) x, S[i]? = some (some x) → ∃ v, σ[i]? = some (some v) ∧ Lies K mg ad H v (ow i) x
  live : ∀ i a, a ∈ ow i → (∃ vs, H a = some (.lst vs)) ∧ H0 a = none ∧ a ≠ ad.ad
  dis : ∀ i j a, a ∈ ow i → a ∈ ow j → i = j
  nd : ∀ i, (ow i).Nodup
  len : σ.length = S.length
structure SRS (K : PySem.W.Frag) (mg : Str → Option Value) (H0 : Hp) (ad : DA) (H : Hp) (σ : St) (S : SS) : Prop where
  ex : ∃ ow, SRo ow K mg H0 ad H σ S

section
variable {K : PySem.W.Frag} {mg : Str → Option Value} {H0 : Hp} {ad : DA} {H H' : Hp} {σ : St} {S : SS} {g : G} {ow : Nat → List Addr}
theorem SRo.s (s : SRo ow K mg H0 ad H σ S) : SRS K mg H0 ad H σ S := ⟨ow, s⟩
theorem SRS.keep (s : SRS K mg H0 ad H σ S) : Keep ad H0 H := let ⟨_, s⟩ := s.ex; s.keep
theorem SRS.len (s : SRS K mg H0 ad H σ S) : σ.length = S.length := let ⟨_, s⟩ := s.ex; s.len
theorem SRo.val (s : SRo ow K mg H0 ad H σ S) (i : Nat) (d : D) (e : S[i]? = some (some (SV.val d))) : ∃ v, σ[i]? = some (some v) ∧ Rep K mg ad H v d := s.lies i _ e
theorem SRS.val (s : SRS K mg H0 ad H σ S) (i : Nat) (d : D) (e : S[i]? = some (some (SV.val d))) : ∃ v, σ[i]? = some (some v) ∧ Rep K mg ad H v d := let ⟨_, s⟩ := s.ex; s.val i d e
theorem SRo.own (s : SRo ow K mg H0 ad H σ S) (i : Nat) (ds : List D) (e : S[i]? = some (some (SV.own ds))) : ∃ a vs, σ[i]? = some (some (.ref a)) ∧ H a = some (.lst vs) ∧ RepAll K mg ad H vs ds ∧ H0 a = none ∧ a ≠ ad.ad ∧ ow i = [a] := by
  obtain ⟨v, e1, a, vs, rfl, el, e2, r⟩ := s.lies i _ e
  obtain ⟨_, l2, l3⟩ := s.live i a (by rw [el]; exact List.mem_cons_self)
  exact ⟨a, vs, e1, e2, r, l2, l3, el⟩
theorem SRS.own (s : SRS K mg H0 ad H σ S) (i : Nat) (ds : List D) (e : S[i]? = some (some (SV.own ds))) : ∃ a vs, σ[i]? = some (some (.ref a)) ∧ H a = some (.lst vs) ∧ RepAll K mg ad H vs ds ∧ H0 a = none ∧ a ≠ ad.ad := by
  obtain ⟨_, s⟩ := s.ex
  obtain ⟨a, vs, h1, h2, h3, h4, h5, _⟩ := s.own i ds e
  exact ⟨a, vs, h1, h2, h3, h4, h5⟩
theorem SRo.keeps (s : SRo ow K mg H0 ad H σ S) (k : Keep ad H H') (dk : DrawOk ad H g) : SRo ow K mg H0 ad H' σ S :=
  ⟨s.keep.trans k, fun i x e => let ⟨v, h1, h2⟩ := s.lies i x e; ⟨v, h1, h2.to (fun r m vs q => k r _ q (s.live i r m).2.2) (fun _ _ q => q.keep k dk) fun _ _ q => q.keep k dk⟩, fun i a m => let ⟨⟨vs, h1⟩, h2, h3⟩ := s.live i a m; ⟨⟨vs, k a _ h1 h3⟩, h2, h3⟩, s.dis, s.nd, s.len⟩
theorem SRS.keeps (s : SRS K mg H0 ad H σ S) (k : Keep ad H H') (dk : DrawOk ad H g) : SRS K mg H0 ad H' σ S := let ⟨_, s⟩ := s.ex; (s.keeps k dk).s
theorem SRo.sr (s : SRo ow K mg H0 ad H σ S) {B : List Nat} (h : ∀ i ∈ B, ∀ x, S[i]? = some (some x) → ∃ d, x = SV.val d) : SR K mg ad H B σ (view S) := ⟨by rw [s.len]; simp [view], fun i hi d e => by
  rw [view_get] at e
  cases q : S[i]? with
  | none => rw [q] at e; cases e
  | some x =>
    rw [q] at e
    cases x with
    | none => cases e
    | some v =>
      obtain ⟨d', rfl⟩ := h i hi v q
      cases e
      exact s.val i _ q⟩
/-- a slot set -/
def owSet (ow : Nat → List Addr) (i : Nat) (l : List Addr) : Nat → List Addr := fun j => if i = j then l else ow j
theorem SRo.put (s : SRo ow K mg H0 ad H σ S) {i : Nat} {v : V} {x : SV} {l : List Addr} (hx : Lies K mg ad H v l x) (hl : ∀ a ∈ l, (∃ vs, H a = some (.lst vs)) ∧ H0 a = none ∧ a ≠ ad.ad ∧ ∀ j, i ≠ j → a ∉ ow j) (hd : l.Nodup) : SRo (owSet ow i l) K mg H0 ad H (σ.set i (some v)) (S.set i (some x)) := by
  refine ⟨s.keep, fun j y e => ?_, fun j a m => ?_, fun j k a m1 m2 => ?_, fun j => ?_, by simp [s.len]⟩
  · by_cases hj : i = j
    · subst hj
      by_cases hlt : i < S.length
      · rw [List.getElem?_set_self hlt] at e
        cases e
        exact ⟨v, List.getElem?_set_self (by rw [s.len]; exact hlt), by unfold owSet; rw [if_pos rfl]; exact hx⟩
      · rw [List.getElem?_eq_none (by simpa using hlt)] at e; cases e
    · rw [List.getElem?_set_ne hj] at e ⊢
      unfold owSet
      rw [if_neg hj]
      exact s.lies j y e
  · unfold owSet at m
    by_cases hj : i = j
    · rw [if_pos hj] at m
      exact ⟨(hl a m).1, (hl a m).2.1, (hl a m).2.2.1⟩
    · rw [if_neg hj] at m
      exact s.live j a m
  · unfold owSet at m1 m2
    by_cases h1 : i = j
    · rw [if_pos h1] at m1
      by_cases h2 : i = k
      · exact h1.symm.trans h2
      · rw [if_neg h2] at m2
        exact absurd m2 ((hl a m1).2.2.2 k h2)
    · rw [if_neg h1] at m1
      by_cases h2 : i = k
      · rw [if_pos h2] at m2
        exact absurd m1 ((hl a m2).2.2.2 j h1)
      · rw [if_neg h2] at m2
        exact s.dis j k a m1 m2
  · unfold owSet
    by_cases hj : i = j
    · rw [if_pos hj]; exact hd
    · rw [if_neg hj]; exact s.nd j
/-- a slot set to data -/
theorem SRo.setVal (s : SRo ow K mg H0 ad H σ S) {i : Nat} {v : V} {d : D} (r : Rep K mg ad H v d) : SRo (owSet ow i []) K mg H0 ad H (σ.set i (some v)) (S.set i (some (.val d))) := s.put (x := .val d) r (fun a m => nomatch m) .nil
theorem SRS.setVal (s : SRS K mg H0 ad H σ S) {i : Nat} {v : V} {d : D} (r : Rep K mg ad H v d) : SRS K mg H0 ad H (σ.set i (some v)) (S.set i (some (.val d))) := let ⟨_, s⟩ := s.ex; (s.setVal r).s
end

/-- how a value lies that a statement gets: data, or a list just made -/
def FSo (ow : Nat → List Addr) (K : PySem.W.Frag) (mg : Str → Option Value) (H0 : Hp) (ad : DA) (H' : Hp) (v : V) : Fv → Prop
  | .v d => Rep K mg ad H' v d
  | .f ds => ∃ a vs, v = .ref a ∧ H' a = some (.lst vs) ∧ RepAll K mg ad H' vs ds ∧ H0 a = none ∧ a ≠ ad.ad ∧ ∀ (j : Nat), a ∉ ow j
def FS (K : PySem.W.Frag) (mg : Str → Option Value) (H0 : Hp) (ad : DA) (H' : Hp) (σ : St) (S' : SS) (v : V) (f : Fv) : Prop := ∃ ow, SRo ow K mg H0 ad H' σ S' ∧ FSo ow K mg H0 ad H' v f
theorem FS.rep {K : PySem.W.Frag} {mg : Str → Option Value} {H0 : Hp} {ad : DA} {H' : Hp} {σ : St} {S' : SS} {v : V} {d : D} (h : FS K mg H0 ad H' σ S' v (.v d)) : Rep K mg ad H' v d := h.choose_spec.2
/-- .. newly made, seen from a heap that the slots stand over -/
theorem FSo.mk {K : PySem.W.Frag} {mg : Str → Option Value} {H0 : Hp} {ad : DA} {H H' : Hp} {σ : St} {S : SS} {g : G} {ow : Nat → List Addr} {v : V} {f : Fv} (s : SRo ow K mg H0 ad H σ S) (dk : DrawOk ad H g) (h : FRep K mg ad H H' v f) : FSo ow K mg H0 ad H' v f := by
  cases f with
  | v d => exact h
  | f ds =>
    obtain ⟨a, vs, rfl, na, ea, ra⟩ := h
    refine ⟨a, vs, rfl, ea, ra, s.keep.free (dk.ne na) na, dk.ne na, fun j m => ?_⟩
    obtain ⟨⟨ws, e⟩, _⟩ := s.live j a m
    rw [na] at e; cases e
def pstB (K : PySem.W.Frag) (mg : Str → Option Value) (H0 : Hp) (ad : DA) (H : Hp) (σ : St) (S : SS) (B : List Nat) (Q : VK) (W : XK) : R Fv → Prop
  | .ok f g' => ∀ v H', Perm H H' → SRS K mg H0 ad H' σ (post f B S) → DrawOk ad H' g' → FS K mg H0 ad H' σ (post f B S) v f → Q v H'
  | .er x g' => ∀ c dd H', Perm H H' → SRS K mg H0 ad H' σ (frzB B S) → DrawOk ad H' g' → ExRep K mg ad H' c dd x → W c dd H'
  | .bad => False
/-- an expression within a statement: the lists of one's own are lent -/
def rdB (K : PySem.W.Frag) (mg : Str → Option Value) (H0 : Hp) (W : WX) (B : List Nat) (t : XT) : TE := fun σ H Q => ∃ ad S g, SRS K mg H0 ad H σ S ∧ DrawOk ad H g ∧ pstB K mg H0 ad H σ S B Q (fun c d H' => W c d σ H') (t (view S) g)

def owB (B : List Nat) (ow : Nat → List Addr) : Nat → List Addr := fun i => if B.contains i then [] else ow i
/-- the lists of the slots B are lent, and come back -/
theorem lend {X : Cx} {pins : List (Addr × Obj)} {s : Shared} {σ : St} {H : Hp} {ad : DA} {S : SS} {g : G} {ow : Nat → List Addr} (B : List Nat) (I : Inv X pins σ H s) (sr : SRo ow X.K X.mg X.H_0 ad H σ S) (dk : DrawOk ad H g) :
    ∃ H1, Inv X pins σ H1 s ∧ SRo (owB B ow) X.K X.mg X.H_0 ad H1 σ (frzB B S) ∧ SR X.K X.mg ad H1 B σ (view S) ∧ DrawOk ad H1 g ∧ Perm H H1 ∧ (∀ a, H1 a = none → H a = none) ∧
      ∀ H2 s2 g' σ2, Inv X pins σ2 H2 s2 → Keep ad H1 H2 → DrawOk ad H2 g' → ∃ H3, Inv X pins σ2 H3 s2 ∧ SRo ow X.K X.mg X.H_0 ad H3 σ S ∧ DrawOk ad H3 g' ∧ Keep ad H H3 ∧ (∀ a xs, SqN X.K H2 a xs → SqN X.K H3 a xs) ∧ (∀ a, H2 a = none → H3 a = none) ∧ (∀ a, H1 a = none → H3 a = H2 a) := by
  -- the lent lists
  let L : Addr → Prop := fun a => ∃ i, B.contains i = true ∧ a ∈ ow i
  have hL : ∀ a, L a → ∃ vs, H a = some (.lst vs) ∧ X.H_0 a = none ∧ a ≠ ad.ad := fun a ⟨i, _, m⟩ => by
    obtain ⟨⟨vs, h2⟩, h4, h5⟩ := sr.live i a m
    exact ⟨vs, h2, h4, h5⟩
  have I1 := freeze I L
  generalize hH1 : fzSet L s.heap H = H1 at I1
  have adL : ¬ L ad.ad := fun z => (hL ad.ad z).choose_spec.2.2 rfl
  -- what is not a list stays
  have oth : ∀ a x, H a = some x → (∀ xs, x ≠ .lst xs) → H1 a = some x := fun a x e n => by rw [← hH1]; exact fz_other e n
  have non : ∀ a, ¬ L a → H1 a = H a := fun a n => by rw [← hH1]; exact fz_no n
  have lent : ∀ a, L a → ∀ vs, H a = some (.lst vs) → ∃ o, H1 a = some (.frz o (.lst vs)) := fun a hl vs e => by
    obtain ⟨ob, eo⟩ : ∃ ob, s.heap.get? a = some ob := objOk_get (I.hok a _ e)
    exact ⟨ob, by rw [← hH1]; exact fz_yes hl e eo⟩
  have gT : ∀ a xs, SqN X.K H a xs → SqN X.K H1 a xs := fun a xs q => q.to fun c o u q => oth _ _ q (by intro xs z; cases z)
  have gP : ∀ a xs, SqP X.K H a xs → SqP X.K H1 a xs := fun a xs ⟨o, q⟩ => ⟨o, oth _ _ q (by intro xs z; cases z)⟩
  have gD : ∀ a ks xs, DcP H a ks xs → DcP H1 a ks xs := fun a ks xs q => q.to fun c o u q => oth _ _ q (by intro xs z; cases z)
  have gR : ∀ v d, Rep X.K X.mg ad H v d → Rep X.K X.mg ad H1 v d := fun v d => Rep.map gT gP gD d v
  have gRA : ∀ vs ds, RepAll X.K X.mg ad H vs ds → RepAll X.K X.mg ad H1 vs ds := fun v d => RepAll.map gT gP gD d v
  have dk1 : DrawOk ad H1 g := dk.at_ (fun xs e => by rw [non ad.ad adL]; exact e) fun o u e => oth _ _ e (by intro xs z; cases z)
  have notL : ∀ i, ¬ B.contains i = true → ∀ a ∈ ow i, ¬ L a := fun i hb a m ⟨j, hj, m'⟩ => hb (by rw [sr.dis i j a m m']; exact hj)
  have s1 : SRo (owB B ow) X.K X.mg X.H_0 ad H1 σ (frzB B S) := by
    refine ⟨fun a o e n => ?_, fun i x e => ?_, fun i a m => ?_, fun i j a m1 m2 => ?_, fun i => ?_, by rw [sr.len]; exact (frzFrom_len B 0 S).symm⟩
    · rw [non a fun z => by obtain ⟨_, _, z, _⟩ := hL a z; rw [e] at z; cases z]
      exact sr.keep a o e n
    · rw [frzB_get] at e
      unfold owB
      cases q : S[i]? with
      | none => rw [q] at e; cases e
      | some y =>
        rw [q] at e
        simp only [Option.map_some, Option.some.injEq] at e
        by_cases hb : B.contains i = true
        · rw [if_pos hb] at e ⊢
          cases y with
          | none => cases e
          | some y =>
            obtain ⟨v, h1, h2⟩ := sr.lies i _ q
            refine ⟨v, h1, ?_⟩
            cases y with
            | val d' => cases e; exact gR _ _ h2
            | own ds =>
              cases e
              obtain ⟨a, vs, rfl, el, h2, h3⟩ := h2
              obtain ⟨o, h6⟩ := lent a ⟨i, hb, by rw [el]; exact List.mem_cons_self⟩ vs h2
              exact .lst ⟨o, h6⟩ (gRA _ _ h3)
            | mat rows =>
              cases e
              obtain ⟨a, rs, rfl, el, h2, h3⟩ := h2
              obtain ⟨o, h6⟩ := lent a ⟨i, hb, by rw [el]; exact List.mem_cons_self⟩ _ h2
              exact .lst ⟨o, h6⟩ (h3.frz (fun r m vs e => lent r ⟨i, hb, by rw [el]; exact List.mem_cons_of_mem _ m⟩ vs e) gRA)
        · rw [if_neg hb] at e ⊢
          subst e
          obtain ⟨v, h1, h2⟩ := sr.lies i _ q
          exact ⟨v, h1, h2.to (fun r m vs e => by rw [non r (notL i hb r m)]; exact e) gR gRA⟩
    · unfold owB at m
      by_cases hb : B.contains i = true
      · rw [if_pos hb] at m; cases m
      · rw [if_neg hb] at m
        rw [non a (notL i hb a m)]
        exact sr.live i a m
    · unfold owB at m1 m2
      by_cases h1 : B.contains i = true
      · rw [if_pos h1] at m1; cases m1
      · rw [if_neg h1] at m1
        by_cases h2 : B.contains j = true
        · rw [if_pos h2] at m2; cases m2
        · rw [if_neg h2] at m2
          exact sr.dis i j a m1 m2
    · unfold owB
      by_cases hb : B.contains i = true
      · rw [if_pos hb]; exact .nil
      · rw [if_neg hb]; exact sr.nd i
  have vw : view (frzB B S) = view S := by
    apply List.ext_getElem?
    intro i
    rw [view_get, view_get, frzB_get]
    cases S[i]? with
    | none => rfl
    | some x =>
      simp only [Option.map_some]
      split
      · rw [frz1_d]
      · rfl
  have sr1 : SR X.K X.mg ad H1 B σ (view S) := by
    rw [← vw]
    refine s1.sr fun i hi y e => ?_
    rw [frzB_get] at e
    cases q : S[i]? with
    | none => rw [q] at e; cases e
    | some x =>
      rw [q] at e
      simp only [Option.map_some, Option.some.injEq] at e
      rw [if_pos (by simpa using hi)] at e
      cases x with
      | none => cases e
      | some v => cases v <;> cases e <;> exact ⟨_, rfl⟩
  have h1L : ∀ a, H1 a = none → ¬ L a := fun a n hl => by
    obtain ⟨vs, e, _⟩ := hL a hl
    obtain ⟨o, e2⟩ := lent a hl vs e
    rw [n] at e2; cases e2
  refine ⟨H1, I1, s1, sr1, dk1, ⟨fun a xs e => oth _ _ e (by intro xs z; cases z), fun a o u e => oth _ _ e (by intro xs z; cases z)⟩, fun a n => by rw [← non a (h1L a n)]; exact n, fun H2 s2 g' σ2 I2 k2 d2 => ?_⟩
  have I3 := unfreeze I2 L fun a hl => (hL a hl).choose_spec.2.1
  generalize hH3 : ufSet L H2 = H3 at I3
  have oth3 : ∀ a x, H2 a = some x → (∀ o xs, x ≠ .frz o (.lst xs)) → H3 a = some x := fun a x e n => by rw [← hH3]; exact uf_other e n
  have non3 : ∀ a, ¬ L a → H3 a = H2 a := fun a n => by rw [← hH3]; exact uf_no n
  have gT3 : ∀ a xs, SqN X.K H2 a xs → SqN X.K H3 a xs := fun a xs q => q.to fun c o u q => oth3 _ _ q (by intro o xs z; cases z)
  -- from the start: tuples, frozen lists
  have gT0 : ∀ a xs, SqN X.K H a xs → SqN X.K H3 a xs := fun a xs q => gT3 _ _ (k2.sqN dk1 (gT _ _ q))
  have gP0 : ∀ a xs, SqP X.K H a xs → SqP X.K H3 a xs := fun a xs ⟨o, q⟩ => by
    have nl : ¬ L a := fun hl => by obtain ⟨vs, e, _⟩ := hL a hl; rw [q] at e; cases e
    obtain ⟨o', q'⟩ := k2.sqP dk1 (gP a xs ⟨o, q⟩)
    exact ⟨o', by rw [non3 a nl]; exact q'⟩
  have d3 : DrawOk ad H3 g' := d2.at_ (fun xs e => by rw [non3 _ adL]; exact e) fun o u e => by
    rw [non3 _ fun hl => ?_]
    · exact e
    · obtain ⟨vs, e', _⟩ := hL _ hl
      obtain ⟨oc, e2⟩ := dk.2
      rw [e2] at e'; cases e'
  have back : ∀ a vs, L a → H a = some (.lst vs) → H3 a = some (.lst vs) := fun a vs hl e => by
    obtain ⟨o, e2⟩ := lent a hl vs e
    rw [← hH3]
    exact uf_yes hl (k2 a _ e2 fun z => (hL a hl).choose_spec.2.2 z)
  have k3 : Keep ad H H3 := fun a o e n => by
    by_cases hl : L a
    · obtain ⟨vs, e', _⟩ := hL a hl
      rw [e] at e'; cases e'
      exact back a vs hl e
    · rw [non3 a hl]
      exact k2 a o (by rw [non a hl]; exact e) n
  have s3 : SRo ow X.K X.mg X.H_0 ad H3 σ S := sr.keeps k3 dk
  exact ⟨H3, I3, s3, d3, k3, gT3, fun a e => by rw [← hH3]; exact uf_none e, fun a n => non3 a (h1L a n)⟩
theorem post_yes {f : Fv} {B : List Nat} {S : SS} (h : f.nol = true) : post f B S = S := by unfold post; rw [if_pos h]
theorem post_no {f : Fv} {B : List Nat} {S : SS} (h : ¬ f.nol = true) : post f B S = frzB B S := by unfold post; rw [if_neg h]
theorem FRep.back {K : PySem.W.Frag} {mg : Str → Option Value} {ad : DA} {H H1 H2 H3 : Hp} {v : V} {f : Fv} (hn : f.nol = true) (gT3 : ∀ a xs, SqN K H2 a xs → SqN K H3 a xs) (same : ∀ a, H1 a = none → H3 a = H2 a) (hn0 : ∀ a, H1 a = none → H a = none) (fr : FRep K mg ad H1 H2 v f) : FRep K mg ad H H3 v f := by
  cases f with
  | v d => exact Rep.mapN gT3 d v hn fr
  | f ds =>
    obtain ⟨a, vs, rfl, na, ea, ra⟩ := fr
    exact ⟨a, vs, rfl, hn0 a na, by rw [same a na]; exact ea, RepAll.mapN gT3 ds vs hn ra⟩
theorem brw {X : Cx} {W : WX} {B : List Nat} {e : Expr} {t : XT} (h : PE X e (eX X.K X.mg W B t)) : PE X e (rdB X.K X.mg X.H_0 W B t) := by
  refine ⟨fun pins s σ H Q I hq => ?_⟩
  obtain ⟨ad, S, g, ⟨ow, sr⟩, dk, po⟩ := hq
  obtain ⟨H1, I1, s1, sr1, dk1, p1, hn0, back⟩ := lend B I sr dk
  refine thn (h.run pins s σ H1 (fun v H2 => ∃ f g', t (view S) g = .ok f g' ∧ Keep ad H1 H2 ∧ DrawOk ad H2 g' ∧ FRep X.K X.mg ad H1 H2 v f) I1 ⟨ad, view S, g, sr1, dk1, ?_⟩) fun u s2 ⟨v, H2, I2, r, f, g', ef, k2, d2, fr⟩ => ?_
  · cases r : t (view S) g with
    | bad => rw [r] at po; exact po
    | er x g' => rw [r] at po; exact fun c dd H' k' d' q => po c dd H' (p1.trans (k'.perm dk1)) (s1.keeps k' dk1).s d' q
    | ok f g' => exact fun v H2 k2 d2 q => ⟨f, g', rfl, k2, d2, q⟩
  · rw [ef] at po
    by_cases hn : f.nol = true
    · obtain ⟨H3, I3, s3, d3, p3, gT3, nn, same⟩ := back H2 s2 g' σ I2 k2 d2
      refine ⟨v, H3, I3, r, po v H3 (p3.perm dk) (by rw [post_yes hn]; exact s3.s) d3 ?_⟩
      rw [post_yes hn]
      exact ⟨ow, s3, .mk sr dk (fr.back hn gT3 same hn0)⟩
    · refine ⟨v, H2, I2, r, po v H2 (p1.trans (k2.perm dk1)) (by rw [post_no hn]; exact (s1.keeps k2 dk1).s) d2 ?_⟩
      rw [post_no hn]
      exact ⟨_, s1.keeps k2 dk1, .mk s1 dk1 fr⟩
def pstTB (K : PySem.W.Frag) (mg : Str → Option Value) (H0 : Hp) (ad : DA) (H : Hp) (σ : St) (S : SS) (B : List Nat) (Q : Bool → Hp → Prop) (W : XK) : R Bool → Prop
  | .ok b g' => ∀ H', Perm H H' → SRS K mg H0 ad H' σ S → DrawOk ad H' g' → Q b H'
  | .er x g' => ∀ c dd H', Perm H H' → SRS K mg H0 ad H' σ (frzB B S) → DrawOk ad H' g' → ExRep K mg ad H' c dd x → W c dd H'
  | .bad => False
def rdTB (K : PySem.W.Frag) (mg : Str → Option Value) (H0 : Hp) (W : WX) (B : List Nat) (t : BT) : TT := fun σ H Q => ∃ ad S g, SRS K mg H0 ad H σ S ∧ DrawOk ad H g ∧ pstTB K mg H0 ad H σ S B Q (fun c d H' => W c d σ H') (t (view S) g)
theorem brwT {X : Cx} {W : WX} {B : List Nat} {e : Expr} {t : BT} (h : PT X e (eT X.K X.mg W B t)) : PT X e (rdTB X.K X.mg X.H_0 W B t) := by
  refine ⟨fun pins s σ H Q I hq => ?_⟩
  obtain ⟨ad, S, g, ⟨ow, sr⟩, dk, po⟩ := hq
  obtain ⟨H1, I1, s1, sr1, dk1, p1, hn0, back⟩ := lend B I sr dk
  refine thn (h.run pins s σ H1 (fun b H2 => ∃ g', t (view S) g = .ok b g' ∧ Keep ad H1 H2 ∧ DrawOk ad H2 g') I1 ⟨ad, view S, g, sr1, dk1, ?_⟩) fun b s2 ⟨H2, I2, g', ef, k2, d2⟩ => ?_
  · cases r : t (view S) g with
    | bad => rw [r] at po; exact po
    | er x g' => rw [r] at po; exact fun c dd H' k' d' q => po c dd H' (p1.trans (k'.perm dk1)) (s1.keeps k' dk1).s d' q
    | ok f g' => exact fun v H2 k2 d2 q => ⟨g', by rw [show v = f from q], k2, d2⟩
  · rw [ef] at po
    obtain ⟨H3, I3, s3, d3, p3, gT3, nn, same⟩ := back H2 s2 g' σ I2 k2 d2
    exact ⟨H3, I3, po H3 (p3.perm dk) s3.s d3⟩

/-! statements -/
inductive RS where
  | nx (S : SS) (g : G) | ret (d : D) (g : G) | bk (S : SS) (g : G) | ct (S : SS) (g : G) | er (x : Exn) (S : SS) (g : G) | bad
abbrev SB := SS → G → RS
def pstS (K : PySem.W.Frag) (mg : Str → Option Value) (H0 : Hp) (W : WX) (ad : DA) (H : Hp) (E : Ends) : RS → Prop
  | .nx S g => ∀ σ' H', Perm H H' → SRS K mg H0 ad H' σ' S → DrawOk ad H' g → E.nx σ' H'
  | .bk S g => ∀ σ' H', Perm H H' → SRS K mg H0 ad H' σ' S → DrawOk ad H' g → E.bk σ' H'
  | .ct S g => ∀ σ' H', Perm H H' → SRS K mg H0 ad H' σ' S → DrawOk ad H' g → E.ct σ' H'
  | .ret d g => ∀ v H', Perm H H' → Keep ad H0 H' → DrawOk ad H' g → Rep K mg ad H' v d → E.rt v H'
  | .er x S g => ∀ c dd σ' H', Perm H H' → SRS K mg H0 ad H' σ' S → DrawOk ad H' g → ExRep K mg ad H' c dd x → W c dd σ' H'
  | .bad => False
structure AtS (K : PySem.W.Frag) (mg : Str → Option Value) (H0 : Hp) (W : WX) (b : SB) (ad : DA) (S : SS) (g : G) (E : Ends) (σ : St) (H : Hp) : Prop where
  sr : SRS K mg H0 ad H σ S
  dk : DrawOk ad H g
  po : pstS K mg H0 W ad H E (b S g)
def rdS (K : PySem.W.Frag) (mg : Str → Option Value) (H0 : Hp) (W : WX) (b : SB) : TS := fun E σ H => ∃ ad S g, AtS K mg H0 W b ad S g E σ H
theorem pstS.perm {K : PySem.W.Frag} {mg : Str → Option Value} {H0 : Hp} {W : WX} {ad : DA} {H H1 : Hp} {E : Ends} {r : RS} (p : pstS K mg H0 W ad H E r) (k : Perm H H1) : pstS K mg H0 W ad H1 E r := by
  cases r with
  | nx S g => exact fun σ' H' k' => p σ' H' (k.trans k')
  | bk S g => exact fun σ' H' k' => p σ' H' (k.trans k')
  | ct S g => exact fun σ' H' k' => p σ' H' (k.trans k')
  | ret d g => exact fun σ' H' k' => p σ' H' (k.trans k')
  | er x S g => exact fun c dd σ' H' k' => p c dd σ' H' (k.trans k')
  | bad => exact p

def sSkip : SB := fun S g => .nx S g
def sSeq (a b : SB) : SB := fun S g => match a S g with
  | .nx S1 g1 => b S1 g1
  | r => r
def sSet (i : Nat) (B : List Nat) (t : XT) : SB := fun S g => match t (view S) g with
  | .ok f g' => .nx ((post f B S).set i (some f.sv)) g'
  | .er x g' => .er x (frzB B S) g'
  | .bad => .bad
def sRet (B : List Nat) (t : ET) : SB := fun S g => match t (view S) g with
  | .ok d g' => .ret d g'
  | .er x g' => .er x (frzB B S) g'
  | .bad => .bad
def sRetN : SB := fun S g => .ret .non g
def sExpr (B : List Nat) (t : ET) : SB := fun S g => match t (view S) g with
  | .ok d g' => .nx (post (.v d) B S) g'
  | .er x g' => .er x (frzB B S) g'
  | .bad => .bad
def sIf (B : List Nat) (c : BT) (a b : SB) : SB := fun S g => match c (view S) g with
  | .ok true g' => a S g'
  | .ok false g' => b S g'
  | .er x g' => .er x (frzB B S) g'
  | .bad => .bad
section
variable {X : Cx} {W : WX} {B : List Nat} {e : Expr} {t : XT} {u : ET} {st : Stmt} {rest : List Stmt} {a b : SB} {pos : Pos}
abbrev SD (X : Cx) (W : WX) (st : Stmt) (b : SB) : Prop := PS X st (rdS X.K X.mg X.H_0 W b)
abbrev SDs (X : Cx) (W : WX) (st : List Stmt) (b : SB) : Prop := PSs X st (rdS X.K X.mg X.H_0 W b)
theorem ds_nil : SDs X W [] sSkip := PSs.imp pss_nil fun D σ H ⟨ad, S, g, h⟩ => h.po σ H (.refl _) h.sr h.dk
theorem ds_cons (h1 : SD X W st a) (h2 : SDs X W rest b) : SDs X W (st :: rest) (sSeq a b) := PSs.imp (pss_cons h1 h2) fun D σ H ⟨ad, S, g, h⟩ => by
  refine ⟨ad, S, g, h.sr, h.dk, ?_⟩
  have p := h.po
  unfold sSeq at p
  cases r : a S g with
  | nx S1 g1 => rw [r] at p; exact fun σ' H' k sr dk => ⟨ad, S1, g1, sr, dk, p.perm k⟩
  | bk S1 g1 => rw [r] at p; exact p
  | ct S1 g1 => rw [r] at p; exact p
  | ret d g1 => rw [r] at p; exact p
  | er x S1 g1 => rw [r] at p; exact p
  | bad => rw [r] at p; exact p
theorem ds_one (h1 : SD X W st a) : SDs X W [st] a := PSs.imp (pss_one h1) fun D σ H h => h
theorem ds_pass : SD X W (.Pass pos) sSkip := PS.imp ps_pass fun D σ H ⟨ad, S, g, h⟩ => h.po σ H (.refl _) h.sr h.dk
theorem ds_break : SD X W (.Break pos) (fun S g => .bk S g) := PS.imp ps_break fun D σ H ⟨ad, S, g, h⟩ => h.po σ H (.refl _) h.sr h.dk
theorem ds_continue : SD X W (.Continue pos) (fun S g => .ct S g) := PS.imp ps_continue fun D σ H ⟨ad, S, g, h⟩ => h.po σ H (.refl _) h.sr h.dk
/-- storing what a statement got -/
theorem SRo.store {ow : Nat → List Addr} {K : PySem.W.Frag} {mg : Str → Option Value} {H0 : Hp} {ad : DA} {H : Hp} {σ : St} {S : SS} {i : Nat} {v : V} {f : Fv} (s : SRo ow K mg H0 ad H σ S) (r : FSo ow K mg H0 ad H v f) : ∃ l, SRo (owSet ow i l) K mg H0 ad H (σ.set i (some v)) (S.set i (some f.sv)) ∧ ∀ a ∈ l, ∃ ds, f = .f ds ∧ v = .ref a := by
  cases f with
  | v d => exact ⟨[], s.setVal r, fun a m => nomatch m⟩
  | f ds =>
    obtain ⟨a, vs, rfl, e, ra, h0, na, nd⟩ := r
    refine ⟨[a], s.put (x := .own ds) ⟨a, vs, rfl, rfl, e, ra⟩ (fun b m => ?_) (by simp), fun b m => ?_⟩
    · obtain rfl := List.mem_singleton.mp m
      exact ⟨⟨vs, e⟩, h0, na, fun j _ => nd j⟩
    · obtain rfl := List.mem_singleton.mp m
      exact ⟨ds, rfl, rfl⟩
theorem SRS.store {K : PySem.W.Frag} {mg : Str → Option Value} {H0 : Hp} {ad : DA} {H : Hp} {σ : St} {S : SS} {i : Nat} {v : V} {f : Fv} (r : FS K mg H0 ad H σ S v f) : SRS K mg H0 ad H (σ.set i (some v)) (S.set i (some f.sv)) := by
  obtain ⟨ow, s, q⟩ := r
  obtain ⟨l, s, _⟩ := s.store (i := i) q
  exact s.s
theorem ds_set {i : Nat} {x : Str} {pos' : Pos} (hN : X.N.Nodup) (hi : X.N[i]? = some x) (hx : Loc X.env.scope x) (he : PE X e (eX X.K X.mg W B t)) (hs : swapsWith e (some (.Name x pos')) pos.line X.env = pure false := by rfl) (hf : X.fn x = true ∨ X.env.scope.names.lookup x = some .local := by first | exact .inl rfl | exact .inr rfl | assumption) :
    SD X W (.Assign [.Name x pos'] e pos) (sSet i B t) := PS.imp (ps_set hN hi hx (brw he) hs hf) fun D σ H ⟨ad, S, g, h⟩ => by
  refine ⟨ad, S, g, h.sr, h.dk, ?_⟩
  have p := h.po
  unfold sSet at p
  cases r : t (view S) g with
  | bad => rw [r] at p; exact p
  | er x g' => rw [r] at p; exact fun c dd H' k sr dk q => p c dd _ H' k sr dk q
  | ok f g' => rw [r] at p; exact fun v H' k sr dk q => p _ H' k (.store q) dk
theorem ds_ret (he : PE X e (eE X.K X.mg W B u)) : SD X W (.Return (some e) pos) (sRet B u) := PS.imp (ps_ret (brw (dx_of he))) fun D σ H ⟨ad, S, g, h⟩ => by
  refine ⟨ad, S, g, h.sr, h.dk, ?_⟩
  have p := h.po
  unfold sRet at p
  show pstB X.K X.mg X.H_0 ad H σ S B _ _ ((u (view S) g).map Fv.v)
  cases r : u (view S) g with
  | bad => rw [r] at p; exact p
  | er x g' => rw [r] at p; exact fun c dd H' k sr dk q => p c dd _ H' k sr dk q
  | ok f g' => rw [r] at p; exact fun v H' k sr dk q => p v H' k sr.keep dk q.rep
theorem ds_retN : SD X W (.Return none pos) sRetN := PS.imp ps_retN fun D σ H ⟨ad, S, g, h⟩ => h.po .non H (.refl _) h.sr.keep h.dk .non
theorem ds_expr (he : PE X e (eE X.K X.mg W B u)) (hs : swapsWith e none pos.line X.env = pure false := by rfl) : SD X W (.Expr e pos) (sExpr B u) := PS.imp (ps_expr (brw (dx_of he)) hs) fun D σ H ⟨ad, S, g, h⟩ => by
  refine ⟨ad, S, g, h.sr, h.dk, ?_⟩
  have p := h.po
  unfold sExpr at p
  show pstB X.K X.mg X.H_0 ad H σ S B _ _ ((u (view S) g).map Fv.v)
  cases r : u (view S) g with
  | bad => rw [r] at p; exact p
  | er x g' => rw [r] at p; exact fun c dd H' k sr dk q => p c dd _ H' k sr dk q
  | ok f g' => rw [r] at p; exact fun v H' k sr dk q => p σ H' k sr dk
theorem ds_if {c : Expr} {s : BT} {xs ys : List Stmt} (hc : PT X c (eT X.K X.mg W B s)) (ha : SDs X W xs a) (hb : SDs X W ys b) : SD X W (.If c xs ys pos) (sIf B s a b) := PS.imp (ps_if (brwT hc) ha hb) fun D σ H ⟨ad, S, g, h⟩ => by
  refine ⟨ad, S, g, h.sr, h.dk, ?_⟩
  have p := h.po
  unfold sIf at p
  cases r : s (view S) g with
  | bad => rw [r] at p; exact p
  | er x g' => rw [r] at p; exact fun c dd H' k sr dk q => p c dd _ H' k sr dk q
  | ok f g' =>
    rw [r] at p
    cases f with
    | true => exact fun H' k sr dk => (iteT (A := rdS X.K X.mg X.H_0 W a D σ H') ⟨ad, S, g', sr, dk, p.perm k⟩)
    | false => exact fun H' k sr dk => (iteF (B := rdS X.K X.mg X.H_0 W b D σ H') ⟨ad, S, g', sr, dk, p.perm k⟩)
end

/-! ### targets -/
inductive Tgt where
  | nm (i : Nat) | tp (is : List Nat)
def setAll {α : Type} (f : D → α) : List Nat → List D → List (Option α) → Option (List (Option α))
  | [], [], S => some S
  | i :: is, d :: ds, S => setAll f is ds (S.set i (some (f d)))
  | _, _, _ => none
/-- the items of what is unpacked -/
def itemsD : D → Option (List D)
  | .tup ds => some ds
  | .lst ds => some ds
  | _ => none
def setT {α : Type} (f : D → α) : Tgt → D → List (Option α) → Option (List (Option α))
  | .nm i, d, S => some (S.set i (some (f d)))
  | .tp is, d, S => (itemsD d).bind fun ds => setAll f is ds S
abbrev setS : Tgt → D → SS → Option SS := setT SV.val
abbrev setD : Tgt → D → DSt → Option DSt := setT id
/-- what a target asks -/
def gNames : List Nat → TGs
  | [] => gNil
  | i :: is => gCons (gName i) (gNames is)
def gT (K : PySem.W.Frag) : Tgt → TG
  | .nm i => gName i
  | .tp is => fun v σ H Q => gTup K is.length (gNames is) v σ H Q ∨ gLst K is.length (gNames is) v σ H Q
structure TgOk (X : Cx) (tg : Expr) (t : Tgt) : Prop where
  pg : PG X tg (gT X.K t)
section
variable {X : Cx} {pos : Pos}
theorem tg_nm {i : Nat} {x : Str} (hN : X.N.Nodup) (hi : X.N[i]? = some x) (hx : Loc X.env.scope x) (hf : X.fn x = true ∨ X.env.scope.names.lookup x = some .local := by first | exact .inl rfl | exact .inr rfl | assumption) : TgOk X (.Name x pos) (.nm i) := ⟨pg_name hN hi hx hf⟩
theorem tgs_nil : PGs X [] (gNames []) := pgs_nil
theorem tgs_cons {i : Nat} {is : List Nat} {x : Str} {es : List Expr} (hN : X.N.Nodup) (hi : X.N[i]? = some x) (hx : Loc X.env.scope x) (h2 : PGs X es (gNames is)) (hs : (assignEach (.Name x pos :: es) X.env).map (·.2) = assign (.Name x pos) X.env :: (assignEach es X.env).map (·.2) := by rfl)
    (hf : X.fn x = true ∨ X.env.scope.names.lookup x = some .local := by first | exact .inl rfl | exact .inr rfl | assumption) : PGs X (.Name x pos :: es) (gNames (i :: is)) := pgs_cons (pg_name hN hi hx hf) h2 hs
theorem tg_tp {es : List Expr} {k : Nat} {is : List Nat} (hc : X.calm = true) (h : PGs X es (gNames is)) (hn : (assignEach es X.env).length = is.length := by rfl) (hst : (assignEach es X.env).findIdx? (·.1) = none := by rfl) : TgOk X (.Tuple es k pos) (.tp is) :=
  ⟨⟨fun pins s σ H v u Q I r hw => hw.elim (fun q => (pg_tup hc h hn hst).run pins s σ H v u Q I r q) fun q => (pg_lst hc h hn hst).run pins s σ H v u Q I r q⟩⟩
end
section
variable {K : PySem.W.Frag} {mg : Str → Option Value} {H0 : Hp} {ad : DA} {H : Hp}
theorem gNames_S : ∀ {is : List Nat} {vs : List V} {ds : List D} {σ : St} {S S' : SS} {Q : St → Hp → Prop}, RepAll K mg ad H vs ds → SRS K mg H0 ad H σ S → setAll SV.val is ds S = some S' → (∀ σ', SRS K mg H0 ad H σ' S' → Q σ' H) → gNames is vs σ H Q
  | [], _, [], _, _, _, _, r, s, e, q => by cases r; cases e; exact ⟨rfl, q _ s⟩
  | i :: is, _, d :: ds, _, _, _, _, r, s, e, q => by
    cases r with
    | cons a b => exact ⟨_, _, rfl, gNames_S b (s.setVal a) e q⟩
  | [], _, _ :: _, _, _, _, _, _, _, e, _ => by cases e
  | _ :: _, _, [], _, _, _, _, _, _, e, _ => by cases e
theorem setAll_len {α : Type} {f : D → α} : ∀ {is : List Nat} {ds : List D} {S S' : List (Option α)}, setAll f is ds S = some S' → ds.length = is.length
  | [], [], _, _, _ => rfl
  | _ :: is, _ :: ds, _, _, e => by rw [List.length_cons, List.length_cons, setAll_len (is := is) (ds := ds) e]
  | [], _ :: _, _, _, e => by cases e
  | _ :: _, [], _, _, e => by cases e
theorem gT_S {t : Tgt} {v : V} {d : D} {σ : St} {S S' : SS} {Q : St → Hp → Prop} (r : Rep K mg ad H v d) (s : SRS K mg H0 ad H σ S) (e : setS t d S = some S') (q : ∀ σ', SRS K mg H0 ad H σ' S' → Q σ' H) : gT K t v σ H Q := by
  cases t with
  | nm i => cases e; exact q _ (s.setVal r)
  | tp is =>
    unfold setS setT at e
    cases r with
    | tup st ra =>
      have e : setAll SV.val is _ S = some S' := e
      exact .inl ⟨_, _, rfl, st.t, by rw [ra.len, setAll_len e], gNames_S ra s e q⟩
    | lst st ra =>
      have e : setAll SV.val is _ S = some S' := e
      exact .inr ⟨_, _, rfl, st.l, by rw [ra.len, setAll_len e], gNames_S ra s e q⟩
    | _ => cases e
theorem SR.set {B : List Nat} {σ : St} {S : DSt} {i : Nat} {v : V} {d : D} (s : SR K mg ad H B σ S) (r : Rep K mg ad H v d) : SR K mg ad H (i :: B) (σ.set i (some v)) (S.set i (some d)) := ⟨by simp [s.1], fun j hj d' e => by
  by_cases hi : i = j
  · subst hi
    by_cases hlt : i < S.length
    · rw [List.getElem?_set_self hlt] at e; cases e
      exact ⟨v, List.getElem?_set_self (by rw [s.1]; exact hlt), r⟩
    · rw [List.getElem?_eq_none (by simpa using hlt)] at e; cases e
  · rw [List.getElem?_set_ne hi] at e ⊢
    rcases List.mem_cons.mp hj with z | z
    · exact absurd z.symm hi
    · exact s.2 j z d' e⟩
theorem gNames_D : ∀ {is : List Nat} {vs : List V} {ds : List D} {B : List Nat} {σ : St} {S S' : DSt} {Q : St → Hp → Prop}, RepAll K mg ad H vs ds → SR K mg ad H B σ S → setAll id is ds S = some S' → (∀ σ' C, (∀ i, i ∈ is ∨ i ∈ B → i ∈ C) → SR K mg ad H C σ' S' → Q σ' H) → gNames is vs σ H Q
  | [], _, [], B, _, _, _, _, r, s, e, q => by cases r; cases e; exact ⟨rfl, q _ B (fun i h => h.elim (fun z => nomatch z) id) s⟩
  | i :: is, _, d :: ds, B, _, _, _, _, r, s, e, q => by
    cases r with
    | cons a b => exact ⟨_, _, rfl, gNames_D b (s.set (i := i) a) e fun σ' C hC => q σ' C fun j h => hC j (by
        rcases h with h | h
        · rcases List.mem_cons.mp h with z | z
          · exact .inr (by rw [z]; exact List.mem_cons_self)
          · exact .inl z
        · exact .inr (List.mem_cons_of_mem _ h))⟩
  | [], _, _ :: _, _, _, _, _, _, _, _, e, _ => by cases e
  | _ :: _, _, [], _, _, _, _, _, _, _, e, _ => by cases e
def Tgt.is : Tgt → List Nat
  | .nm i => [i]
  | .tp is => is
theorem gT_D {t : Tgt} {v : V} {d : D} {B : List Nat} {σ : St} {S S' : DSt} {Q : St → Hp → Prop} (r : Rep K mg ad H v d) (s : SR K mg ad H B σ S) (e : setD t d S = some S') (q : ∀ σ' C, (∀ i, i ∈ t.is ∨ i ∈ B → i ∈ C) → SR K mg ad H C σ' S' → Q σ' H) : gT K t v σ H Q := by
  cases t with
  | nm i => cases e; exact q _ (i :: B) (fun j h => h.elim (fun z => by rw [List.mem_singleton.mp z]; exact List.mem_cons_self) (List.mem_cons_of_mem _)) (s.set r)
  | tp is =>
    unfold setD setT at e
    cases r with
    | tup st ra =>
      have e : setAll id is _ S = some S' := e
      exact .inl ⟨_, _, rfl, st.t, by rw [ra.len, setAll_len e], gNames_D ra s e q⟩
    | lst st ra =>
      have e : setAll id is _ S = some S' := e
      exact .inr ⟨_, _, rfl, st.l, by rw [ra.len, setAll_len e], gNames_D ra s e q⟩
    | _ => cases e
end

/-! ### what is walked -/
/-- the walk J gives these items -/
def ItOk (K : PySem.W.Frag) (mg : Str → Option Value) (ad : DA) (H' : Hp) (J : It) (ds : List D) : Prop :=
  ds.length ≤ sizeLine ∧ ∃ (Gd : Hp → Prop) (Y : Nat → Hp → V → Hp → Prop), Walk J ds.length Gd Y ∧ (∀ H2, Perm H' H2 → Gd H2) ∧
    ∀ i H2 x H3, i < ds.length → Perm H' H2 → Y i H2 x H3 → (H3 = H2 ∨ ∃ T o, H2 T = none ∧ H3 = upd H2 T o) ∧ ∃ d, ds[i]? = some d ∧ Rep K mg ad H3 x d
def pstI (K : PySem.W.Frag) (mg : Str → Option Value) (ad : DA) (H : Hp) (Q : It → Hp → Prop) (W : XK) : R (List D) → Prop
  | .ok ds g' => ∀ J H', Keep ad H H' → DrawOk ad H' g' → ItOk K mg ad H' J ds → Q J H'
  | .er x g' => ∀ c dd H', Keep ad H H' → DrawOk ad H' g' → ExRep K mg ad H' c dd x → W c dd H'
  | .bad => False
def rdI (K : PySem.W.Frag) (mg : Str → Option Value) (W : WX) (B : List Nat) (t : DSt → G → R (List D)) : TI := fun σ H Q => ∃ ad S g, SR K mg ad H B σ S ∧ DrawOk ad H g ∧ pstI K mg ad H Q (fun c d H' => W c d σ H') (t S g)
/-- .. that leans on no heap -/
def pstR (K : PySem.W.Frag) (mg : Str → Option Value) (ad : DA) (H : Hp) (Q : It → Hp → Prop) (W : XK) : R (List D) → Prop
  | .ok ds g' => ∀ J H', Keep ad H H' → DrawOk ad H' g' → (∀ H2, ItOk K mg ad H2 J ds) → Q J H'
  | .er x g' => ∀ c dd H', Keep ad H H' → DrawOk ad H' g' → ExRep K mg ad H' c dd x → W c dd H'
  | .bad => False
def rdR (K : PySem.W.Frag) (mg : Str → Option Value) (W : WX) (B : List Nat) (t : DSt → G → R (List D)) : TI := fun σ H Q => ∃ ad S g, SR K mg ad H B σ S ∧ DrawOk ad H g ∧ pstR K mg ad H Q (fun c d H' => W c d σ H') (t S g)
theorem PI.imp {X : Cx} {tg e : Expr} {t t' : TI} (h : PI X tg e t) (i : ∀ σ H Q, t' σ H Q → t σ H Q) : PI X tg e t' := ⟨fun pins s σ H Q I q => h.run pins s σ H Q I (i σ H Q q)⟩
theorem itOk_list {K : PySem.W.Frag} {mg : Str → Option Value} {ad : DA} {H : Hp} {a : Addr} {xs : List V} {ds : List D} (s : SqP K H a xs) (r : RepAll K mg ad H xs ds) (hz : xs.length ≤ sizeLine) : ItOk K mg ad H (Itl K a) ds := by
  refine ⟨by rw [← r.len]; exact hz, _, _, by rw [← r.len]; exact walk_list, fun H2 p => (p.sqP s).l, fun i H2 x H3 hi p y => ?_⟩
  obtain ⟨rfl, e⟩ := y
  obtain ⟨d, e1, r1⟩ := r.getV e
  exact ⟨.inl rfl, d, e1, r1.perm p⟩
theorem itOk_tup {K : PySem.W.Frag} {mg : Str → Option Value} {ad : DA} {H : Hp} {a : Addr} {xs : List V} {ds : List D} (s : SqT K H a xs) (r : RepAll K mg ad H xs ds) (hz : xs.length ≤ sizeLine) : ItOk K mg ad H (Itt K a) ds := by
  refine ⟨by rw [← r.len]; exact hz, _, _, by rw [← r.len]; exact walk_tup, fun H2 p => p.sqT s, fun i H2 x H3 hi p y => ?_⟩
  obtain ⟨rfl, e⟩ := y
  obtain ⟨d, e1, r1⟩ := r.getV e
  exact ⟨.inl rfl, d, e1, r1.perm p⟩
/-- a list or a tuple -/
def iSeq (K : PySem.W.Frag) (tl : TE) : TI := fun σ H R => tl σ H fun x H1 => ∃ a, x = .ref a ∧ ((∃ xs, SqL K H1 a xs ∧ (xs.length ≤ sizeLine → R (Itl K a) H1)) ∨ (∃ xs, SqT K H1 a xs ∧ (xs.length ≤ sizeLine → R (Itt K a) H1)))
section
variable {X : Cx} {W : WX} {B : List Nat} {tg l : Expr} {u : ET}
theorem pi_seq {tl : TE} (hl : PE X l tl) : PI X tg l (iSeq X.K tl) := by
  refine ⟨fun pins s σ H R I h => ?_⟩
  refine thn (hl.run pins s σ H _ I h) fun v s1 ⟨x, H1, I1, r1, q1⟩ => ?_
  obtain ⟨a, e, q1⟩ := q1
  subst e
  cases r1
  rcases q1 with ⟨xs, hq, q⟩ | ⟨xs, hq, q⟩
  · obtain ⟨its, rv, p, hz⟩ := I1.list hq
    refine wpAny_pyIter_list p.isList ?_
    refine ⟨s1.heap.objs.size, [s1.heap.objs.size], _, _, H1, rfl, I1.kept (t' := s1.toks) fun b o e => Heap.get?_push_of_some _ e, turn_list a _, ⟨_, Heap.get?_push_size _ rfl, rfl, rfl⟩, fun b hb => ?_, q hz⟩
    have e : b = s1.heap.objs.size := by simpa using hb
    subst e
    exact I1.fpOk (Nat.le_refl _) (I1.hok.fresh (Nat.le_refl _))
  · obtain ⟨its, rv, p, hz⟩ := I1.tuple hq
    refine wpAny_pyIter_tuple (show s1.heap.IsTuple a its.toArray from p) ?_
    refine ⟨s1.heap.objs.size, [s1.heap.objs.size], _, _, H1, rfl, I1.kept (t' := s1.toks) fun b o e => Heap.get?_push_of_some _ e, turn_tuple a _, ⟨_, Heap.get?_push_size _ rfl, rfl, rfl⟩, fun b hb => ?_, q hz⟩
    have e : b = s1.heap.objs.size := by simpa using hb
    subst e
    exact I1.fpOk (Nat.le_refl _) (I1.hok.fresh (Nat.le_refl _))
def iItems (t : ET) : DSt → G → R (List D) := fun S g => (t S g).bind fun d g1 => lift (itemsD d) g1
theorem di_seq (h : PE X l (eE X.K X.mg W B u)) : PI X tg l (rdI X.K X.mg W B (iItems u)) := PI.imp (pi_seq h) fun σ H Q ⟨ad, S, g, sr, dk, p⟩ => by
  refine ⟨ad, S, g, sr, dk, ?_⟩
  unfold iItems at p
  cases r : u S g with
  | bad => rw [r] at p; exact p
  | er x g' => rw [r] at p; exact p
  | ok d g' =>
    rw [r] at p
    intro v H' k d' rv
    cases rv with
    | lst s ra => exact ⟨_, rfl, .inl ⟨_, s.l, fun hz => p _ H' k d' (itOk_list s ra hz)⟩⟩
    | tup s ra => exact ⟨_, rfl, .inr ⟨_, s.t, fun hz => p _ H' k d' (itOk_tup s.t ra hz)⟩⟩
    | _ => exact p.elim
def rangeL (lo : Int) (n : Nat) : List D := (List.range n).map fun (i : Nat) => D.int (lo + (i : Int))
theorem itOk_range {K : PySem.W.Frag} {mg : Str → Option Value} {ad : DA} {H : Hp} {lo : Int} {n : Nat} (hz : n ≤ 16777216) : ItOk K mg ad H (Itr lo n) (rangeL lo n) := by
  refine ⟨by simp only [rangeL, List.length_map, List.length_range]; rw [sizeLine_eq]; exact hz, _, _, by simp only [rangeL, List.length_map, List.length_range]; exact walk_range, fun _ _ => trivial, fun i H2 x H3 hi p y => ?_⟩
  obtain ⟨rfl, rfl⟩ := y
  refine ⟨.inl rfl, .int (lo + i), ?_, .int _⟩
  simp only [rangeL, List.length_map, List.length_range] at hi
  simp [rangeL, hi]
/-- range(..): its turns at most sizeLine -/
def rangeD1 : List D → Option (List D)
  | [.int j] => if -(2 ^ 62) ≤ j ∧ j ≤ 16777216 then some (rangeL 0 j.toNat) else none
  | _ => none
def rangeD2 : List D → Option (List D)
  | [.int i, .int j] => if (-(2 ^ 62) ≤ i ∧ i < 2 ^ 62 ∧ -(2 ^ 62) ≤ j ∧ j < 2 ^ 62) ∧ j - i ≤ 16777216 then some (rangeL i (j - i).toNat) else none
  | _ => none
def iRange1 (ts : DSt → G → R (List D)) : DSt → G → R (List D) := fun S g => (ts S g).bind fun ds g1 => lift (rangeD1 ds) g1
def iRange2 (ts : DSt → G → R (List D)) : DSt → G → R (List D) := fun S g => (ts S g).bind fun ds g1 => lift (rangeD2 ds) g1
theorem di_range1 {a : Expr} {ts : DSt → G → R (List D)} {p pos : Pos} (hg : Gl X "range") (hm : X.mg "range" = none) (ha : PA X [a] (eA X.K X.mg W B ts)) (hs : starEach [a] X.env = [(false, eval a X.env)] := by rfl) : PI X tg (.Call (.Name "range" p) [a] [] pos) (rdR X.K X.mg W B (iRange1 ts)) := PI.imp (pi_range1 hg hm ha hs) fun σ H Q ⟨ad, S, g, sr, dk, p⟩ => by
  refine ⟨ad, S, g, sr, dk, ?_⟩
  unfold iRange1 at p
  cases r : ts S g with
  | bad => rw [r] at p; exact p
  | er x g' => rw [r] at p; exact p
  | ok ds g' =>
    rw [r] at p
    intro vs H' k d' rv
    cases e : rangeD1 ds with
    | none => simp only [R.bind, e, lift_none] at p; exact p.elim
    | some is =>
      simp only [R.bind, e, lift_some] at p
      unfold rangeD1 at e
      split at e
      · obtain ⟨x, rfl, rx⟩ := rv.one
        cases rx
        split at e
        · cases e
          exact ⟨_, rfl, by omega, by omega, p _ H' k d' fun _ => itOk_range (by omega)⟩
        · cases e
      · cases e
theorem di_range2 {a b : Expr} {ts : DSt → G → R (List D)} {p pos : Pos} (hg : Gl X "range") (hm : X.mg "range" = none) (ha : PA X [a, b] (eA X.K X.mg W B ts)) (hs : starEach [a, b] X.env = [(false, eval a X.env), (false, eval b X.env)] := by rfl) (hs2 : starEach [b] X.env = [(false, eval b X.env)] := by rfl) : PI X tg (.Call (.Name "range" p) [a, b] [] pos) (rdR X.K X.mg W B (iRange2 ts)) := PI.imp (pi_range2 hg hm ha hs hs2) fun σ H Q ⟨ad, S, g, sr, dk, p⟩ => by
  refine ⟨ad, S, g, sr, dk, ?_⟩
  unfold iRange2 at p
  cases r : ts S g with
  | bad => rw [r] at p; exact p
  | er x g' => rw [r] at p; exact p
  | ok ds g' =>
    rw [r] at p
    intro vs H' k d' rv
    cases e : rangeD2 ds with
    | none => simp only [R.bind, e, lift_none] at p; exact p.elim
    | some is =>
      simp only [R.bind, e, lift_some] at p
      unfold rangeD2 at e
      split at e
      · obtain ⟨x, y, rfl, rx, ry⟩ := rv.two
        cases rx; cases ry
        split at e
        · rename_i h
          cases e
          exact ⟨_, _, rfl, h.1, p _ H' k d' fun _ => itOk_range (by omega)⟩
        · cases e
      · cases e
theorem di_R {u : DSt → G → R (List D)} (h : PI X tg l (rdR X.K X.mg W B u)) : PI X tg l (rdI X.K X.mg W B u) := PI.imp h fun σ H Q ⟨ad, S, g, sr, dk, p⟩ => by
  refine ⟨ad, S, g, sr, dk, ?_⟩
  cases r : u S g with
  | bad => rw [r] at p; exact p
  | er x g' => rw [r] at p; exact p
  | ok ds g' => rw [r] at p; exact fun J H' k d it => p J H' k d (it H')
end

/-! loops, comprehensions, calls -/
def pstIB (K : PySem.W.Frag) (mg : Str → Option Value) (H0 : Hp) (ad : DA) (H : Hp) (σ : St) (S S' : SS) (B : List Nat) (Q : It → Hp → Prop) (W : XK) : R (List D) → Prop
  | .ok ds g' => ∀ J H', Perm H H' → SRS K mg H0 ad H' σ S' → DrawOk ad H' g' → ItOk K mg ad H' J ds → Q J H'
  | .er x g' => ∀ c dd H', Perm H H' → SRS K mg H0 ad H' σ (frzB B S) → DrawOk ad H' g' → ExRep K mg ad H' c dd x → W c dd H'
  | .bad => False
/-- al: what is walked may be a list of one's own, so it stays lent -/
def rdIB (K : PySem.W.Frag) (mg : Str → Option Value) (H0 : Hp) (W : WX) (al : Bool) (B : List Nat) (t : DSt → G → R (List D)) : TI := fun σ H Q => ∃ ad S g, SRS K mg H0 ad H σ S ∧ DrawOk ad H g ∧ pstIB K mg H0 ad H σ S (if al then frzB B S else S) B Q (fun c d H' => W c d σ H') (t (view S) g)
section
variable {X : Cx} {W : WX} {B : List Nat} {tg l : Expr} {t : DSt → G → R (List D)}
theorem brwI (h : PI X tg l (rdI X.K X.mg W B t)) : PI X tg l (rdIB X.K X.mg X.H_0 W true B t) := by
  refine ⟨fun pins s σ H Q I hq => ?_⟩
  obtain ⟨ad, S, g, ⟨ow, sr⟩, dk, po⟩ := hq
  rw [if_pos rfl] at po
  obtain ⟨H1, I1, s1, sr1, dk1, p1, hn0, back⟩ := lend B I sr dk
  refine h.run pins s σ H1 Q I1 ⟨ad, view S, g, sr1, dk1, ?_⟩
  cases r : t (view S) g with
  | bad => rw [r] at po; exact po
  | er x g' => rw [r] at po; exact fun c dd H' k' d' q => po c dd H' (p1.trans (k'.perm dk1)) (s1.keeps k' dk1).s d' q
  | ok ds g' => rw [r] at po; exact fun J H' k d it => po J H' (p1.trans (k.perm dk1)) (s1.keeps k dk1).s d it
theorem brwR (h : PI X tg l (rdR X.K X.mg W B t)) : PI X tg l (rdIB X.K X.mg X.H_0 W false B t) := by
  refine ⟨fun pins s σ H Q I hq => ?_⟩
  obtain ⟨ad, S, g, ⟨ow, sr⟩, dk, po⟩ := hq
  rw [if_neg Bool.false_ne_true] at po
  obtain ⟨H1, I1, s1, sr1, dk1, p1, hn0, back⟩ := lend B I sr dk
  refine thn (h.run pins s σ H1 (fun J H2 => ∃ ds g', t (view S) g = .ok ds g' ∧ Keep ad H1 H2 ∧ DrawOk ad H2 g' ∧ ∀ H3, ItOk X.K X.mg ad H3 J ds) I1 ⟨ad, view S, g, sr1, dk1, ?_⟩) fun u s2 h2 => thn h2 fun itv s3 hh => ?_
  · cases r : t (view S) g with
    | bad => rw [r] at po; exact po
    | er x g' => rw [r] at po; exact fun c dd H' k' d' q => po c dd H' (p1.trans (k'.perm dk1)) (s1.keeps k' dk1).s d' q
    | ok ds g' => exact fun J H' k d it => ⟨ds, g', rfl, k, d, it⟩
  · obtain ⟨it, fp, tn, J, H2, e, I2, T, st, f2, ds, g', ef, k2, d2, io⟩ := hh
    rw [ef] at po
    obtain ⟨H3, I3, s3', d3, p3, gT3, nn, same⟩ := back H2 s3 g' σ I2 k2 d2
    exact ⟨it, fp, tn, J, H3, e, I3, T, st, fun b hb => ⟨nn b (f2 b hb).1, (f2 b hb).2⟩, po J H3 (p3.perm dk) s3'.s d3 (io H3)⟩
end

/-- a for over these items -/
def forL (tg : Tgt) (body : SB) : List D → SB
  | [], S, g => .nx S g
  | d :: ds, S, g => match setS tg d S with
    | none => .bad
    | some S1 => match body S1 g with
      | .nx S2 g2 => forL tg body ds S2 g2
      | .ct S2 g2 => forL tg body ds S2 g2
      | .bk S2 g2 => .nx S2 g2
      | r => r
def sFor (al : Bool) (tg : Tgt) (B : List Nat) (it : DSt → G → R (List D)) (body : SB) : SB := fun S g => match it (view S) g with
  | .ok ds g' => forL tg body ds (if al then frzB B S else S) g'
  | .er x g' => .er x (frzB B S) g'
  | .bad => .bad
def whileL (B : List Nat) (c : BT) (body : SB) : Nat → SB
  | 0, _, _ => .bad
  | n + 1, S, g => match c (view S) g with
    | .ok true g1 => match body S g1 with
      | .nx S2 g2 => whileL B c body n S2 g2
      | .ct S2 g2 => whileL B c body n S2 g2
      | .bk S2 g2 => .nx S2 g2
      | r => r
    | .ok false g1 => .nx S g1
    | .er x g' => .er x (frzB B S) g'
    | .bad => .bad
section
variable {X : Cx} {W : WX} {B : List Nat} {tg l : Expr} {it : DSt → G → R (List D)} {t : Tgt} {body : List Stmt} {b : SB} {pos : Pos} {al : Bool}
theorem for_ok {J : It} {ds : List D} {ad : DA} {H1 : Hp} {σ : St} {S1 : SS} {g1 : G} {D : Ends} (io : ItOk X.K X.mg ad H1 J ds) (sr : SRS X.K X.mg X.H_0 ad H1 σ S1) (dk : DrawOk ad H1 g1) (po : pstS X.K X.mg X.H_0 W ad H1 D (forL t b ds S1 g1)) :
    ∃ Wv : Nat → Nat → St → Hp → Prop, (∃ m, Wv 0 m σ H1) ∧ ∀ i m σ H, Wv i m σ H →
      (J.stop i H ∧ D.nx σ H) ∨ (J.go i H ∧ ∃ N : St → Hp → Prop, (∀ σ' H', N σ' H' → ∃ m', m' < m ∧ Wv (i + 1) m' σ' H') ∧ ∀ x H', J.yld i H x H' → gT X.K t x σ H' fun σ2 H2 => rdS X.K X.mg X.H_0 W b { D with nx := N, ct := N, bk := D.nx } σ2 H2) := by
  obtain ⟨hz, Gd, Y, w, hG, hY⟩ := io
  refine for_it w (tb := rdS X.K X.mg X.H_0 W b) (fun i σ2 H2 => ∃ S2 g2, SRS X.K X.mg X.H_0 ad H2 σ2 S2 ∧ DrawOk ad H2 g2 ∧ Perm H1 H2 ∧ pstS X.K X.mg X.H_0 W ad H2 D (forL t b (ds.drop i) S2 g2))
    ⟨S1, g1, sr, dk, .refl _, by rw [List.drop_zero]; exact po⟩ (fun i σ2 H2 hi ⟨S2, g2, _, _, p, _⟩ => hG H2 p) (fun i x σ2 H2 H3 hi ⟨S2, g2, s2, d2, p2, po2⟩ y => ?_) (fun σ2 H2 ⟨S2, g2, s2, d2, p2, po2⟩ => ?_)
  · obtain ⟨hH, d, ed, rd⟩ := hY i H2 x H3 hi p2 y
    have k3 : Keep ad H2 H3 := by
      rcases hH with rfl | ⟨T, o, hT, rfl⟩
      · exact .refl _ _
      · exact Keep.upd hT
    have d3 : DrawOk ad H3 g2 := by
      rcases hH with rfl | ⟨T, o, hT, rfl⟩
      · exact d2
      · exact d2.upd hT
    have s3 := s2.keeps k3 d2
    have p3 := k3.perm d2
    have edr : ds.drop i = d :: ds.drop (i + 1) := by
      obtain ⟨hl, e⟩ := List.getElem?_eq_some_iff.mp ed
      rw [List.drop_eq_getElem_cons hl, e]
    rw [edr] at po2
    unfold forL at po2
    cases e : setS t d S2 with
    | none => rw [e] at po2; exact po2.elim
    | some S3 =>
      rw [e] at po2
      refine gT_S rd s3 e fun σ3 s4 => ⟨ad, S3, g2, s4, d3, ?_⟩
      simp only at po2
      cases r : b S3 g2 with
      | nx S4 g4 => rw [r] at po2; exact fun σ' H' k s d => ⟨S4, g4, s, d, p2.trans (p3.trans k), po2.perm (p3.trans k)⟩
      | ct S4 g4 => rw [r] at po2; exact fun σ' H' k s d => ⟨S4, g4, s, d, p2.trans (p3.trans k), po2.perm (p3.trans k)⟩
      | bk S4 g4 => rw [r] at po2; exact fun σ' H' k s d => po2 σ' H' (p3.trans k) s d
      | ret v g4 => rw [r] at po2; exact fun v H' k => po2 v H' (p3.trans k)
      | er x S4 g4 => rw [r] at po2; exact fun c dd σ' H' k => po2 c dd σ' H' (p3.trans k)
      | bad => rw [r] at po2; exact po2
  · rw [List.drop_length] at po2
    exact po2 σ2 H2 (.refl _) s2 d2
theorem ds_forB (hp : PassesOwn (model X.prog X.w) X.A X.env X.xe) (hc : X.calm = true) (hi : PI X tg l (rdIB X.K X.mg X.H_0 W al B it)) (hg : TgOk X tg t) (hb : SDs X W body b) (hs : ∀ x, foldedSetIterable l X.env x = pure x := by intro _; rfl) : SD X W (.For tg l body [] pos) (sFor al t B it b) := PS.imp (ps_for hp hc hi hg.pg hb hs) fun D σ H ⟨ad, S, g, h⟩ => by
  refine ⟨ad, S, g, h.sr, h.dk, ?_⟩
  have p := h.po
  unfold sFor at p
  cases r : it (view S) g with
  | bad => rw [r] at p; exact p
  | er x g' => rw [r] at p; exact fun c dd H' k sr dk q => p c dd _ H' k sr dk q
  | ok ds g' => rw [r] at p; exact fun J H' k sr dk io => for_ok io sr dk (p.perm k)
theorem ds_for (hp : PassesOwn (model X.prog X.w) X.A X.env X.xe) (hc : X.calm = true) (hi : PI X tg l (rdI X.K X.mg W B it)) (hg : TgOk X tg t) (hb : SDs X W body b) (hs : ∀ x, foldedSetIterable l X.env x = pure x := by intro _; rfl) : SD X W (.For tg l body [] pos) (sFor true t B it b) := ds_forB hp hc (brwI hi) hg hb hs
theorem ds_forR (hp : PassesOwn (model X.prog X.w) X.A X.env X.xe) (hc : X.calm = true) (hi : PI X tg l (rdR X.K X.mg W B it)) (hg : TgOk X tg t) (hb : SDs X W body b) (hs : ∀ x, foldedSetIterable l X.env x = pure x := by intro _; rfl) : SD X W (.For tg l body [] pos) (sFor false t B it b) := ds_forB hp hc (brwR hi) hg hb hs
theorem ds_while {c : Expr} {s : BT} (n : Nat) (hp : PassesOwn (model X.prog X.w) X.A X.env X.xe) (hc : PT X c (eT X.K X.mg W B s)) (hb : SDs X W body b) : SD X W (.While c body [] pos) (whileL B s b n) := PS.imp (ps_while hp (brwT hc) hb) fun D σ H ⟨ad, S, g, h⟩ => by
  refine ⟨fun m σ2 H2 => ∃ S2 g2, SRS X.K X.mg X.H_0 ad H2 σ2 S2 ∧ DrawOk ad H2 g2 ∧ pstS X.K X.mg X.H_0 W ad H2 D (whileL B s b m S2 g2), ⟨n, S, g, h.sr, h.dk, h.po⟩, fun m σ2 H2 ⟨S2, g2, s2, d2, p2⟩ => ?_⟩
  cases m with
  | zero => exact p2.elim
  | succ m =>
    unfold whileL at p2
    refine ⟨ad, S2, g2, s2, d2, ?_⟩
    cases r : s (view S2) g2 with
    | bad => rw [r] at p2; exact p2
    | er x g' => rw [r] at p2; exact fun c dd H' k sr dk q => p2 c dd _ H' k sr dk q
    | ok v g3 =>
      rw [r] at p2
      cases v with
      | false => exact fun H' k sr dk => iteF (A := ∃ N : St → Hp → Prop, _ ∧ _) (p2 σ2 H' k sr dk)
      | true =>
        refine fun H' k sr dk => iteT (B := D.nx σ2 H') ⟨fun σ' H'' => ∃ S2 g2, SRS X.K X.mg X.H_0 ad H'' σ' S2 ∧ DrawOk ad H'' g2 ∧ pstS X.K X.mg X.H_0 W ad H'' D (whileL B s b m S2 g2), fun σ' H'' q => ⟨m, Nat.lt_succ_self m, q⟩, ad, S2, g3, sr, dk, ?_⟩
        simp only at p2
        cases r2 : b S2 g3 with
        | nx S4 g4 => rw [r2] at p2; exact fun σ' H'' k2 s d => ⟨S4, g4, s, d, p2.perm (k.trans k2)⟩
        | ct S4 g4 => rw [r2] at p2; exact fun σ' H'' k2 s d => ⟨S4, g4, s, d, p2.perm (k.trans k2)⟩
        | bk S4 g4 => rw [r2] at p2; exact fun σ' H'' k2 s d => p2 σ' H'' (k.trans k2) s d
        | ret v g4 => rw [r2] at p2; exact fun v H'' k2 => p2 v H'' (k.trans k2)
        | er x S4 g4 => rw [r2] at p2; exact fun c dd σ' H'' k2 => p2 c dd σ' H'' (k.trans k2)
        | bad => rw [r2] at p2; exact p2
end

/-! ### comprehensions -/
def wipeD {α : Type} (S : List (Option α)) : List Nat → List (Option α)
  | [] => S
  | v :: vs => (wipeD S vs).set v none
theorem wipe_get (σ : St) : ∀ (vs : List Nat) (i : Nat), (wipe σ vs)[i]? = if i ∈ vs then σ[i]?.map (fun _ => none) else σ[i]?
  | [], i => by simp [wipe]
  | v :: vs, i => by
    unfold wipe
    by_cases hi : v = i
    · subst hi
      by_cases hl : v < (wipe σ vs).length
      · rw [List.getElem?_set_self hl, if_pos List.mem_cons_self]
        rw [wipe_length] at hl
        rw [List.getElem?_eq_getElem hl]
        rfl
      · have hl2 : σ.length ≤ v := by rw [wipe_length] at hl; omega
        rw [List.getElem?_eq_none (by simpa using hl), if_pos List.mem_cons_self, List.getElem?_eq_none hl2]
        rfl
    · rw [List.getElem?_set_ne hi, wipe_get σ vs i]
      by_cases hm : i ∈ vs
      · rw [if_pos hm, if_pos (List.mem_cons_of_mem _ hm)]
      · rw [if_neg hm, if_neg (by simp only [List.mem_cons, not_or]; exact ⟨fun e => hi e.symm, hm⟩)]
theorem wipeD_get {α : Type} (S : List (Option α)) : ∀ (vs : List Nat) (i : Nat), (wipeD S vs)[i]? = if i ∈ vs then S[i]?.map (fun _ => none) else S[i]?
  | [], i => by simp [wipeD]
  | v :: vs, i => by
    have wl : ∀ vs : List Nat, (wipeD S vs).length = S.length := fun vs => by
      induction vs with
      | nil => rfl
      | cons v vs ih => unfold wipeD; rw [List.length_set, ih]
    unfold wipeD
    by_cases hi : v = i
    · subst hi
      by_cases hl : v < (wipeD S vs).length
      · rw [List.getElem?_set_self hl, if_pos List.mem_cons_self]
        rw [wl] at hl
        rw [List.getElem?_eq_getElem hl]
        rfl
      · have hl2 : S.length ≤ v := by rw [wl] at hl; omega
        rw [List.getElem?_eq_none (by simpa using hl), if_pos List.mem_cons_self, List.getElem?_eq_none hl2]
        rfl
    · rw [List.getElem?_set_ne hi, wipeD_get S vs i]
      by_cases hm : i ∈ vs
      · rw [if_pos hm, if_pos (List.mem_cons_of_mem _ hm)]
      · rw [if_neg hm, if_neg (by simp only [List.mem_cons, not_or]; exact ⟨fun e => hi e.symm, hm⟩)]
theorem wipeD_len {α : Type} (S : List (Option α)) : ∀ vs : List Nat, (wipeD S vs).length = S.length
  | [] => rfl
  | v :: vs => by unfold wipeD; rw [List.length_set, wipeD_len S vs]
def W0 : WX := fun _ _ _ _ => False
/-- [e for tg in items if c]: what is raised within is not carried -/
def compL (own : List Nat) (tg : Tgt) (c : BT) (e : ET) (S : DSt) : List D → G → R (List D)
  | [], g => .ok [] g
  | d :: ds, g => match setD tg d (wipeD S own) with
    | none => .bad
    | some S1 => match c S1 g with
      | .ok true g1 => match e S1 g1 with
        | .ok y g2 => (compL own tg c e S ds g2).map (y :: ·)
        | _ => .bad
      | .ok false g1 => compL own tg c e S ds g1
      | _ => .bad
def xComp (own : List Nat) (tg : Tgt) (it : DSt → G → R (List D)) (c : BT) (e : ET) : XT := fun S g => (it S g).bind fun ds g1 => (compL own tg c e S ds g1).map Fv.f
def tTrue : BT := fun _ g => .ok true g
theorem gNames_keep : ∀ {is : List Nat} {vs : List V} {σ : St} {H : Hp} {Q Q' : St → Hp → Prop}, gNames is vs σ H Q → (∀ σ', (∀ j, j ∉ is → σ'[j]? = σ[j]?) → σ'.length = σ.length → Q σ' H → Q' σ' H) → gNames is vs σ H Q'
  | [], _, _, _, _, _, ⟨e, q⟩, h => ⟨e, h _ (fun _ _ => rfl) rfl q⟩
  | i :: is, _, σ, _, _, _, ⟨v, r, e, q⟩, h => ⟨v, r, e, gNames_keep (is := is) q fun σ' k l q => h σ' (fun j hj => by
      simp only [List.mem_cons, not_or] at hj
      rw [k j hj.2, List.getElem?_set_ne (Ne.symm hj.1)]) (by rw [l]; simp) q⟩
theorem gT_keep {K : PySem.W.Frag} {t : Tgt} {v : V} {σ : St} {H : Hp} {Q Q' : St → Hp → Prop} (q : gT K t v σ H Q) (h : ∀ σ', (∀ j, j ∉ t.is → σ'[j]? = σ[j]?) → σ'.length = σ.length → Q σ' H → Q' σ' H) : gT K t v σ H Q' := by
  cases t with
  | nm i => exact h _ (fun j hj => by rw [List.getElem?_set_ne (by simp [Tgt.is] at hj; exact Ne.symm hj)]) (by simp) q
  | tp is =>
    rcases q with ⟨a, xs, e1, e2, e3, q⟩ | ⟨a, xs, e1, e2, e3, q⟩
    · exact .inl ⟨a, xs, e1, e2, e3, gNames_keep q h⟩
    · exact .inr ⟨a, xs, e1, e2, e3, gNames_keep q h⟩
section
variable {K : PySem.W.Frag} {mg : Str → Option Value} {W : WX} {B Bi Bc Be : List Nat} {own : List Nat} {t : Tgt} {it : DSt → G → R (List D)} {c : BT} {e : ET}
theorem comp_ap (hown : ∀ i ∈ t.is, i ∈ own) (hB : ∀ i ∈ Bc ++ Be, i ∈ own ∨ i ∈ B) : ∀ σ H Q, eX K mg W (Bi ++ B) (xComp own t it c e) σ H Q →
    tLc (rdI K mg W Bi it) (gT K t) (eT K mg W0 Bc c) (eE K mg W0 Be e) own σ H Q := fun σ H Q ⟨ad, S, g, h⟩ => by
  refine ⟨ad, S, g, h.sr.left, h.dk, ?_⟩
  have p := h.po
  unfold xComp at p
  cases r : it S g with
  | bad => simp only [r, R.bind] at p; exact p
  | er x g' => simp only [r, R.bind] at p; exact p
  | ok ds g1 =>
    simp only [r, R.bind] at p
    intro J H1 k1 d1 io Dd hDd
    obtain ⟨hz, Gd, Y, w, hG, hY⟩ := io
    cases rc : compL own t c e S ds g1 with
    | bad => simp only [rc, R.map] at p; exact p.elim
    | er x g' =>
      -- a comprehension's loop gives no error
      exfalso
      have no : ∀ (ds : List D) (g : G) x g', compL own t c e S ds g ≠ .er x g' := by
        intro ds
        induction ds with
        | nil => intro g x g' z; cases z
        | cons d ds ih =>
          intro g x g' z
          unfold compL at z
          split at z
          · cases z
          · split at z
            · split at z
              · rename_i g2 _
                cases q : compL own t c e S ds g2 with
                | ok a b => rw [q] at z; cases z
                | er a b => exact ih _ _ _ q
                | bad => rw [q] at z; cases z
              · cases z
            · exact ih _ _ _ z
            · cases z
      exact no _ _ _ _ rc
    | ok ys gz =>
      simp only [rc, R.map] at p
      refine lc_it w (tt := eT K mg W0 Bc c) (te := eE K mg W0 Be e) (fun i H2 => ∃ g2 acc ya yr, H2 Dd = some (.lst acc) ∧ RepAll K mg ad H2 acc ya ∧ acc.length ≤ i ∧ DrawOk ad H2 g2 ∧ Keep ad H1 H2 ∧ compL own t c e S (ds.drop i) g2 = .ok yr gz ∧ ya ++ yr = ys)
        ⟨g1, [], [], ys, upd_same, .nil, Nat.le_refl _, d1.upd hDd, Keep.upd hDd, by rw [List.drop_zero]; exact rc, rfl⟩ (fun i H2 hi ⟨g2, acc, ya, yr, _, _, _, _, k2, _⟩ => hG H2 (k2.perm d1)) (fun i x H2 H3 hi ⟨g2, acc, ya, yr, eD, ra, la, d2, k2, ec, ey⟩ y => ?_) (fun H2 ⟨g2, acc, ya, yr, eD, ra, la, d2, k2, ec, ey⟩ => ?_)
      · obtain ⟨hH, d, ed, rdd⟩ := hY i H2 x H3 hi (k2.perm d1) y
        have k3 : Keep ad H2 H3 := by
          rcases hH with rfl | ⟨T, o, hT, rfl⟩
          · exact .refl _ _
          · exact Keep.upd hT
        have d3 : DrawOk ad H3 g2 := by
          rcases hH with rfl | ⟨T, o, hT, rfl⟩
          · exact d2
          · exact d2.upd hT
        have nD : Dd ≠ ad.ad := d1.ne hDd
        have edr : ds.drop i = d :: ds.drop (i + 1) := by
          obtain ⟨hl, e⟩ := List.getElem?_eq_some_iff.mp ed
          rw [List.drop_eq_getElem_cons hl, e]
        rw [edr] at ec
        unfold compL at ec
        cases es : setD t d (wipeD S own) with
        | none => rw [es] at ec; cases ec
        | some S1 =>
          rw [es] at ec
          simp only at ec
          -- the slots of the block
          have srW : SR K mg ad H3 (B ++ own) (wipe σ own) (wipeD S own) := ⟨by rw [wipe_length, wipeD_len]; exact h.sr.1, fun j hj d' e' => by
            rw [wipeD_get] at e'
            by_cases hm : j ∈ own
            · rw [if_pos hm] at e'
              cases q : S[j]? with
              | none => rw [q] at e'; cases e'
              | some z => rw [q] at e'; cases e'
            · rw [if_neg hm] at e'
              have hjB : j ∈ B := (List.mem_append.mp hj).elim id fun z => absurd z hm
              obtain ⟨v, e1, r1⟩ := h.sr.right.2 j hjB d' e'
              exact ⟨v, by rw [wipe_get, if_neg hm]; exact e1, (r1.keep (k1.trans k2) h.dk).keep k3 d2⟩⟩
          refine gT_keep (gT_D rdd srW es (Q := fun σ' H' => H' = H3 ∧ ∃ C, (∀ i, i ∈ t.is ∨ i ∈ B ++ own → i ∈ C) ∧ SR K mg ad H3 C σ' S1) fun σ' C hC s => ⟨rfl, C, hC, s⟩) fun σ2 hk hl2 ⟨_, C, hC, s2⟩ => ⟨?_, ?_⟩
          · apply List.ext_getElem?
            intro j
            rw [wipe_get, wipe_get]
            by_cases hm : j ∈ own
            · rw [if_pos hm, if_pos hm]
              have e1 : σ2.length = σ.length := by rw [hl2, wipe_length]
              by_cases hj : j < σ.length
              · rw [List.getElem?_eq_getElem hj, List.getElem?_eq_getElem (by rw [e1]; exact hj)]
                rfl
              · rw [List.getElem?_eq_none (by omega), List.getElem?_eq_none (by omega)]
            · rw [if_neg hm, if_neg hm, hk j fun z => hm (hown j z), wipe_get, if_neg hm]
          · have hs : ∀ C', (∀ i ∈ C', i ∈ Bc ++ Be) → SR K mg ad H3 C' σ2 S1 := fun C' hC' => ⟨s2.1, fun j hj => s2.2 j (hC j (.inr (by
              rcases hB j (hC' j hj) with z | z
              · exact List.mem_append_right _ z
              · exact List.mem_append_left _ z)))⟩
            refine ⟨ad, S1, g2, hs Bc (fun i hi => List.mem_append_left _ hi), d3, ?_⟩
            cases rcc : c S1 g2 with
            | bad => rw [rcc] at ec; cases ec
            | er x g' => rw [rcc] at ec; cases ec
            | ok bv g3 =>
              rw [rcc] at ec
              intro bv' H4 k4 d4 ebv
              subst ebv
              have kD : H4 Dd = some (.lst acc) := k4 _ _ (k3 _ _ eD nD) nD
              cases bv' with
              | false =>
                refine iteF (A := eE K mg W0 Be e σ2 H4 _) ⟨g3, acc, ya, yr, kD, (ra.keep k3 d2).keep k4 d3, Nat.le_succ_of_le la, d4, (k2.trans k3).trans k4, ec, ey⟩
              | true =>
                refine iteT (B := ∃ g2 acc ya yr, _) ⟨ad, S1, g3, (hs Be fun i hi => List.mem_append_right _ hi).keep k4 d3, d4, ?_⟩
                simp only at ec
                cases re : e S1 g3 with
                | bad => rw [re] at ec; cases ec
                | er x g' => rw [re] at ec; cases ec
                | ok yv g5 =>
                  rw [re] at ec
                  intro v H5 k5 d5 rv
                  have kD5 : H5 Dd = some (.lst acc) := k5 _ _ kD nD
                  refine ⟨acc, kD5, by omega, ?_⟩
                  cases rr : compL own t c e S (ds.drop (i + 1)) g5 with
                  | bad => simp only [rr, R.map] at ec; cases ec
                  | er x g' => simp only [rr, R.map] at ec; cases ec
                  | ok yr' gz' =>
                    simp only [rr, R.map, R.ok.injEq] at ec
                    obtain ⟨ec1, ec2⟩ := ec
                    -- the list grows
                    have up : ∀ {b o}, H5 b = some o → (∀ xs, o ≠ .lst xs) → upd H5 Dd (.lst (acc ++ [v])) b = some o := fun {b o} e' n => by
                      rw [upd_ne (fun z => by rw [z, kD5] at e'; cases e'; exact n _ rfl)]; exact e'
                    have pm : Perm H5 (upd H5 Dd (.lst (acc ++ [v]))) := ⟨fun a xs e' => up e' (by intro xs z; cases z), fun a o u e' => up e' (by intro xs z; cases z)⟩
                    refine ⟨g5, acc ++ [v], ya ++ [yv], yr', upd_same, (((((ra.keep k3 d2).keep k4 d3).keep k5 d4).perm pm).app (.cons (rv.perm pm) .nil)), by rw [List.length_append]; show acc.length + 1 ≤ i + 1; omega, d5.at_ (fun xs e' => by rw [upd_ne (Ne.symm nD)]; exact e') (fun o u e' => pm.frz _ _ _ e'), fun b o e' n => ?_, by rw [ec2] at rr; exact rr, by rw [← ey, ← ec1, List.append_assoc]; rfl⟩
                    have bD : b ≠ Dd := fun z => by rw [z, hDd] at e'; cases e'
                    rw [upd_ne bD]
                    exact k5 _ _ (k4 _ _ (k3 _ _ (k2 _ _ e' n) n) n) n
      · rw [List.drop_length] at ec
        cases ec
        rw [List.append_nil] at ey
        subst ey
        exact p _ H2 (k1.trans k2) d2 ⟨Dd, acc, rfl, k1.free (d1.ne hDd) hDd, eD, ra⟩
end

/-! defs, own lists changed, errors -/
/-! ### comprehensions as expressions, and stored -/
section
variable {X : Cx} {W : WX} {B Bi Bc Be : List Nat} {t : Tgt} {it : DSt → G → R (List D)} {c : BT} {e : ET} {elt tg iter : Expr} {ifs : List Expr} {scope : Scope} {own : List (Str × Nat)} {pos spos py : Pos}
theorem PTs.imp {X : Cx} {e : List Expr} {t t' : TT} (h : PTs X e t) (i : ∀ σ H Q, t' σ H Q → t σ H Q) : PTs X e t' := ⟨fun pins s σ H Q I q => h.run pins s σ H Q I (i σ H Q q)⟩
theorem dts_nil : PTs X [] (eT X.K X.mg W [] tTrue) := PTs.imp pts_nil fun σ H Q ⟨ad, S, g, h⟩ => h.po true H (.refl _ _) h.dk rfl
theorem dts_one {a : Expr} (h : PT X a (eT X.K X.mg W B c)) : PTs X [a] (eT X.K X.mg W B c) := pts_one h
abbrev Cx.bk (X : Cx) (scope : Scope) (s : Shared) (H : Hp) (C : Addr) (cl : List (Str × Addr)) (fp : List Addr) : Cx := X.blk s H scope (compEnvC scope cl C X.env) fp
theorem dx_comp (hc : X.calm = true) (hN : X.N.Nodup) (ok : BlkOk X.N X.env.scope scope own) (hown : ∀ i ∈ t.is, i ∈ own.map (·.2)) (hB : ∀ i ∈ Bc ++ Be, i ∈ own.map (·.2) ∨ i ∈ B)
    (hi : PI X tg iter (rdI X.K X.mg W Bi it)) (hg : ∀ s H C cl fp, TgOk (Cx.bk X scope s H C cl fp) tg t) (ht : ∀ s H C cl fp, PTs (Cx.bk X scope s H C cl fp) ifs (eT X.K X.mg W0 Bc c)) (he : ∀ s H C cl fp, PE (Cx.bk X scope s H C cl fp) elt (eE X.K X.mg W0 Be e))
    (hs : ∀ x, foldedSetIterable iter X.env x = pure x := by intro _; rfl) : PE X (.ListComp elt [⟨tg, iter, ifs, 0⟩] scope pos) (eX X.K X.mg W (Bi ++ B) (xComp (own.map (·.2)) t it c e)) :=
  PE.imp (pe_lc hc hN hi ok (fun s H C cl fp => (hg s H C cl fp).pg) ht he hs) (comp_ap hown hB)
/-- a statement whose part lends -/
theorem ds_lendSet {st : Stmt} {i : Nat} {te : TE} {u : XT} (h : PS X st (tAsg te (gName i))) (ap : ∀ σ H Q, eX X.K X.mg W B u σ H Q → te σ H Q) : SD X W st (sSet i B u) := by
  refine ⟨fun pins s σ H D I ⟨ad, S, g, hh⟩ => ?_⟩
  obtain ⟨⟨ow, sr⟩, dk, po⟩ := hh
  obtain ⟨H1, I1, s1, sr1, dk1, p1, hn0, back⟩ := lend B I sr dk
  unfold sSet at po
  refine thn (h.run pins s σ H1 { nx := fun σ2 H2 => ∃ v f g', u (view S) g = .ok f g' ∧ σ2 = σ.set i (some v) ∧ Keep ad H1 H2 ∧ DrawOk ad H2 g' ∧ FRep X.K X.mg ad H1 H2 v f, rt := fun _ _ => False } I1 (ap σ H1 _ ⟨ad, view S, g, sr1, dk1, ?_⟩)) fun f s' q => ?_
  · cases r : u (view S) g with
    | bad => rw [r] at po; exact po
    | er x g' => rw [r] at po; exact fun c dd H' k' d' q => po c dd σ H' (p1.trans (k'.perm dk1)) (s1.keeps k' dk1).s d' q
    | ok f g' => exact fun v H2 k2 d2 q => ⟨v, f, g', rfl, rfl, k2, d2, q⟩
  · cases f with
    | brk => obtain ⟨_, _, _, z⟩ := q; exact z.elim
    | cont => obtain ⟨_, _, _, z⟩ := q; exact z.elim
    | ret u => obtain ⟨_, _, _, _, _, z⟩ := q; exact z.elim
    | next =>
      obtain ⟨σ2, H2, I2, v, f, g', ef, rfl, k2, d2, fr⟩ := q
      rw [ef] at po
      by_cases hn : f.nol = true
      · obtain ⟨H3, I3, s3, d3, p3, gT3, nn, same⟩ := back H2 s' g' _ I2 k2 d2
        refine ⟨_, H3, I3, po _ H3 (p3.perm dk) ?_ d3⟩
        rw [post_yes hn]
        exact .store ⟨ow, s3, .mk sr dk (fr.back hn gT3 same hn0)⟩
      · refine ⟨_, H2, I2, po _ H2 (p1.trans (k2.perm dk1)) ?_ d2⟩
        rw [post_no hn]
        exact .store ⟨_, s1.keeps k2 dk1, .mk s1 dk1 fr⟩
theorem ds_setLc {i : Nat} {y : Str} (hc : X.calm = true) (hN : X.N.Nodup) (hy : X.N[i]? = some y) (hyl : X.env.scope.names.lookup y = some .local) (hsw : swapsWith (.ListComp elt [⟨tg, iter, ifs, 0⟩] scope pos) (some (.Name y py)) spos.line X.env = pure true)
    (ok : BlkOk X.N X.env.scope scope own) (hown : ∀ i ∈ t.is, i ∈ own.map (·.2)) (hB : ∀ i ∈ Bc ++ Be, i ∈ own.map (·.2) ∨ i ∈ B)
    (hi : PI X tg iter (rdI X.K X.mg W Bi it)) (hg : ∀ s H C cl fp, TgOk (Cx.bk X scope s H C cl fp) tg t) (ht : ∀ s H C cl fp, PTs (Cx.bk X scope s H C cl fp) ifs (eT X.K X.mg W0 Bc c)) (he : ∀ s H C cl fp, PE (Cx.bk X scope s H C cl fp) elt (eE X.K X.mg W0 Be e))
    (hs : ∀ x, foldedSetIterable iter X.env x = pure x := by intro _; rfl) : SD X W (.Assign [.Name y py] (.ListComp elt [⟨tg, iter, ifs, 0⟩] scope pos) spos) (sSet i (Bi ++ B) (xComp (own.map (·.2)) t it c e)) :=
  ds_lendSet (ps_setLc hc hN hy hyl hsw hi ok (fun s H C cl fp => (hg s H C cl fp).pg) ht he hs) (comp_ap hown hB)
end

/-! ### defs -/
abbrev MT := List D → G → R D
def spD (K : PySem.W.Frag) (mg : Str → Option Value) (n : Nat) (m : MT) : Sp := fun vs H Q E => vs.length = n ∧ ∃ ad ds g, RepAll K mg ad H vs ds ∧ DrawOk ad H g ∧ pst (RpE K mg) K mg ad H Q E (m ds g)
structure DefOk (P : Program) (w : World) (K : PySem.W.Frag) (mg : Str → Option Value) (base : Heap) (x : Str) (n : Nat) (m : MT) (k : Nat) : Prop where
  ex : ∃ (f : Addr) (fd : FuncData) (ps : List Str), ps.length = n ∧ FnOk P w K mg base (L2.CX P w) k f fd ps (spD K mg n m) ∧ mg x = some (.ref f) ∧ PySem.W.keepIn K (.ref f) = true ∧ L2.Binds K fd ps []
def eCall (m : MT) (ts : DSt → G → R (List D)) : ET := fun S g => (ts S g).bind fun ds g1 => m ds g1
section
variable {X : Cx} {W : WX} {B : List Nat} {e : Expr} {es : List Expr} {ts : DSt → G → R (List D)} {x : Str} {n k k' : Nat} {m : MT} {p pos : Pos}
theorem de_call (F : DefOk X.prog X.w X.K X.mg X.base x n m k) (hr : Room k' X.A) (hk : k ≤ k') (hg : Gl X x) (tk : Takes X W) (ha : PA X (e :: es) (eA X.K X.mg W B ts)) (hl : (e :: es).length = n ∨ True) (hdb : (x == ("__debug__" : Str)) = false := by decide)
    (he : starEach (e :: es) X.env = (false, eval e X.env) :: starEach es X.env := by rfl) (hpl : (backTo pos (starEach es X.env)).any (·.1) = false := by rfl) : PE X (.Call (.Name x p) (e :: es) [] pos) (eE X.K X.mg W B (eCall (fun ds g => if ds.length = n then m ds g else .bad) ts)) := by
  obtain ⟨f, fd, ps, hn, Fn, hm, hkp, hb⟩ := F.ex
  refine PE.imp (pe_callS Fn (hr.mono hk) hg hm hkp hb (fun σ => passAt tk σ) ha hdb he hpl) fun σ H Q ⟨a0, S, g, h⟩ => ?_
  have h : At (RpE X.K X.mg) X.K X.mg W (B ++ []) (eCall (fun ds g => if ds.length = n then m ds g else .bad) ts) a0 S g σ H Q := by rw [List.append_nil]; exact h
  refine .mk ((h.bind (Rp1 := RpA X.K X.mg) bkE (k := fun ds _ g1 => if ds.length = n then m ds g1 else .bad)).imp fun xs H1 ⟨ds, g1, k1, d1, r1, h2⟩ => ?_)
  have p := h2.po
  by_cases hl : ds.length = n
  · rw [if_pos hl] at p
    exact ⟨by rw [r1.len]; exact hl, a0, ds, g1, r1, d1, p⟩
  · rw [if_neg hl] at p
    exact p.elim
/-- a def of no arguments -/
theorem de_call0 (F : DefOk X.prog X.w X.K X.mg X.base x 0 m k) (hr : Room k' X.A) (hk : k ≤ k') (hg : Gl X x) (hx : Passes (L2.CX X.prog X.w) X (fun _ _ _ => False)) (hdb : (x == ("__debug__" : Str)) = false := by decide) : PE X (.Call (.Name x p) [] [] pos) (eE X.K X.mg W [] (fun _ g => match m [] g with | .ok d g' => .ok d g' | _ => .bad)) := by
  obtain ⟨f, fd, ps, hn, Fn, hm, hkp, hb⟩ := F.ex
  refine PE.imp (pe_call0 (E := fun _ _ _ => False) Fn (hr.mono hk) hg hm hkp hb .nil hx hdb) fun σ H Q ⟨a0, S, g, h⟩ => ?_
  refine (show spD X.K X.mg 0 m [] H Q (fun _ _ _ => False) from ⟨rfl, a0, [], g, .nil, h.dk, ?_⟩)
  have p := h.po
  cases r : m [] g with
  | bad => simp only [r] at p; exact p
  | er x g' => simp only [r] at p; exact p.elim
  | ok d g' => simp only [r] at p; exact p
theorem pass00 {X : Cx} : Passes (L2.CX X.prog X.w) X (fun _ _ _ => False) := fun _ _ _ _ _ _ _ h => by
  obtain ⟨_, _, _, _, _, _, _, _, _, _, _, _, z⟩ := h
  exact z.elim
end
/-- what a body is worth at its arguments -/
def startD (n : Nat) (ds : List D) : SS := ds.map (fun d => some (.val d)) ++ List.replicate (n - ds.length) none
def runD (N n : Nat) (b : SB) : MT := fun ds g => if ds.length = n then match b (startD N ds) g with
  | .ret d g' => .ok d g'
  | .nx _ g' => .ok .non g'
  | .er x _ g' => .er x g'
  | _ => .bad else .bad
theorem start_ok {K : PySem.W.Frag} {mg : Str → Option Value} {ad : DA} {H : Hp} {N : List Str} {vs : List V} {ds : List D} (r : RepAll K mg ad H vs ds) : SRS K mg H ad H (L2.start N vs) (startD N.length ds) := by
  have hl := r.len
  refine ⟨fun _ => [], .refl _ _, fun i x e => ?_, fun i a m => (nomatch m), fun i j a m => (nomatch m), fun _ => .nil, by simp [L2.start, startD, hl]⟩
  unfold startD at e
  by_cases hi : i < ds.length
  · rw [List.getElem?_append_left (by simpa using hi), List.getElem?_map] at e
    cases q : ds[i]? with
    | none => rw [q] at e; cases e
    | some d' =>
      rw [q] at e
      cases e
      obtain ⟨v, h1, h2⟩ := r.get q
      exact ⟨v, by unfold L2.start; rw [List.getElem?_append_left (by simpa [hl] using hi), List.getElem?_map, h1]; rfl, h2⟩
  · rw [List.getElem?_append_right (by simpa using hi), List.getElem?_replicate] at e
    split at e <;> cases e

section
variable {P : Program} {w : World} {K : PySem.W.Frag} {mg : Str → Option Value} {base : Heap}
theorem okD {x qual : Str} {st : Stmt} {f : Addr} {fd : FuncData} {N ps : List Str} {k : Nat} {b : SB} (F : Fun K x qual st f fd) (S : FnScope N ps (defScope st)) (hm : mg x = some (.ref f)) (hb : L2.Binds K fd ps [])
    (body : ∀ (cdv : Value) (A : Around) (outer : List Env) (s : Shared) (H : Hp) (E : XK), Room k (A.deeper (envOfC qual (defScope st) s.heap.objs.size f cdv)) →
      SDs (cxOf (L2.CX P w) P w K mg base N qual (defScope st) f cdv A outer s H E) (fun cls d _ H => E cls d H) (defBody st) b) : DefOk P w K mg base x ps.length (runD N.length ps.length b) (k + 1) := by
  refine ⟨f, fd, ps, rfl, F.okX S (fun vs H Q E h => h.1) (fun cdv A outer s H vs Q E hr h => ⟨_, body cdv A outer s H E hr, ?_⟩), hm, F.kp, hb⟩
  obtain ⟨hl, ad, ds, g, ra, dk, po⟩ := h
  refine ⟨ad, startD N.length ds, g, start_ok ra, dk, ?_⟩
  unfold runD at po
  rw [if_pos (by rw [← ra.len]; exact hl)] at po
  show pstS K mg H _ ad H _ (b (startD N.length ds) g)
  cases r : b (startD N.length ds) g with
  | nx S1 g1 => rw [r] at po; exact fun σ' H' _ sr dk => po .non H' sr.keep dk .non
  | ret d g1 => rw [r] at po; exact fun v H' _ k dk rv => po v H' k dk rv
  | er y S1 g1 => rw [r] at po; exact fun c dd σ' H' _ sr dk ex => po c dd H' sr.keep dk ex
  | bk S1 g1 => rw [r] at po; exact po.elim
  | ct S1 g1 => rw [r] at po; exact po.elim
  | bad => rw [r] at po; exact po.elim
end

/-! ### a list of one's own changed -/
section
variable {K : PySem.W.Frag} {mg : Str → Option Value} {H0 : Hp} {ad : DA} {H : Hp} {σ : St} {S : SS}
theorem perm_lst {a : Addr} {vs ws : List V} (e : H a = some (.lst vs)) : Perm H (upd H a (.lst ws)) := ⟨fun b xs q => by rw [upd_ne (ne_of q e (by intro z; cases z))]; exact q, fun b o u q => by rw [upd_ne (ne_of q e (by intro z; cases z))]; exact q⟩
/-- one of the lists that a slot owns, changed -/
theorem SRo.mutL {ow : Nat → List Addr} (s : SRo ow K mg H0 ad H σ S) {i : Nat} {x : SV} {a : Addr} {v : V} {ws : List V} (hi : i < S.length) (m : a ∈ ow i) (ev : σ[i]? = some (some v)) (hx : Lies K mg ad (upd H a (.lst ws)) v (ow i) x) :
    SRo ow K mg H0 ad (upd H a (.lst ws)) σ (S.set i (some x)) := by
  obtain ⟨⟨vs, e⟩, h4, h5⟩ := s.live i a m
  have pm : Perm H (upd H a (.lst ws)) := perm_lst e
  refine ⟨fun b o q n => ?_, fun j y q => ?_, fun j b mb => ?_, s.dis, s.nd, by simp [s.len]⟩
  · rw [upd_ne (fun z => by rw [z, h4] at q; cases q)]
    exact s.keep b o q n
  · by_cases hj : i = j
    · subst hj
      rw [List.getElem?_set_self hi] at q; cases q
      exact ⟨v, ev, hx⟩
    · rw [List.getElem?_set_ne hj] at q
      obtain ⟨w, e1, r1⟩ := s.lies j y q
      exact ⟨w, e1, r1.to (fun r mr us q => by rw [upd_ne (fun z => hj (s.dis i j a m (by rw [← z]; exact mr)))]; exact q) (fun _ _ q => q.perm pm) fun _ _ q => q.perm pm⟩
  · obtain ⟨⟨us, q⟩, l2, l3⟩ := s.live j b mb
    refine ⟨?_, l2, l3⟩
    by_cases hb : b = a
    · subst hb; exact ⟨ws, upd_same⟩
    · exact ⟨us, by rw [upd_ne hb]; exact q⟩
theorem SRS.mut (s : SRS K mg H0 ad H σ S) {i : Nat} {ds es : List D} {a : Addr} {vs ws : List V} (e : S[i]? = some (some (SV.own ds))) (ea : σ[i]? = some (some (.ref a))) (ev : H a = some (.lst vs)) (r : RepAll K mg ad H ws es) :
    SRS K mg H0 ad (upd H a (.lst ws)) σ (S.set i (some (.own es))) := by
  obtain ⟨ow, s⟩ := s
  obtain ⟨a', vs', h1, h2, _, h4, h5, h6⟩ := s.own i ds e
  rw [ea] at h1; cases h1
  refine (s.mutL (x := .own es) (List.getElem?_eq_some_iff.mp e).1 (by rw [h6]; exact List.mem_cons_self) ea ⟨a, ws, rfl, h6, upd_same, r.perm (perm_lst ev)⟩).s
theorem DrawOk.mut {g : G} {a : Addr} {vs ws : List V} (d : DrawOk ad H g) (e : H a = some (.lst vs)) (n : a ≠ ad.ad) : DrawOk ad (L2.upd H a (.lst ws)) g := d.at_ (fun xs q => by rw [upd_ne (Ne.symm n)]; exact q) fun o u q => (perm_lst e).frz _ _ _ q
end
/-- the own list at i, changed by f with what t gives -/
def isOwn : Option (Option SV) → Bool
  | some (some (.own _)) => true
  | _ => false
def sMut (i : Nat) (B : List Nat) (t : ET) (f : List D → D → Option (List D)) : SB := fun S g => if isOwn S[i]? then match t (view S) g with
  | .ok d g' => match (post (.v d) B S)[i]? with
    | some (some (.own ds)) => match f ds d with
      | some es => .nx ((post (.v d) B S).set i (some (.own es))) g'
      | none => .bad
    | _ => .bad
  | .er x g' => .er x (frzB B S) g'
  | .bad => .bad else .bad
def appD (ds : List D) (d : D) : Option (List D) := if ds.length < sizeLine then some (ds ++ [d]) else none
def extD (ds : List D) (d : D) : Option (List D) := match d with
  | .lst es => if ds.length + es.length ≤ sizeLine then some (ds ++ es) else none
  | _ => none
section
variable {X : Cx} {W : WX} {B : List Nat} {e : Expr} {u : ET} {pos : Pos}
/-- xs.extend(ys), ys a list that stays -/
def rExtP (K : PySem.W.Frag) : V → List V → Hp → VK → Prop := fun x vs H Q => ∃ l b xs zs, x = .ref l ∧ vs = [.ref b] ∧ H l = some (.lst xs) ∧ SqP K H b zs ∧ xs.length + zs.length ≤ sizeLine ∧ Q .non (upd H l (.lst (xs ++ zs)))
theorem mt_extP : MtR X "list.extend" (rExtP X.K) := by
  intro pins s σ H x vs v us Q I rx rv h
  obtain ⟨l, b, xs, zs, rfl, rfl, hH, hB, hz, q⟩ := h
  cases rx
  obtain ⟨u, rfl, ru⟩ := rv.one
  cases ru
  obtain ⟨z, its, n, r, hl, e⟩ := I.lstM hH
  obtain ⟨z2, its2, n2, r2, hl2, e2⟩ := lstP I hB
  have hsz : its.toArray.size + its2.toArray.size ≤ sizeLine := by rw [List.size_toArray, List.size_toArray]; omega
  have hlong : ¬ (!its.toArray.isEmpty && Builtin.List.listTooLong (its.toArray.size + its2.toArray.size)) = true := by
    rw [notLongL hsz, Bool.and_false]
    exact Bool.false_ne_true
  refine call_meets F.slot_list_extend ⟨_, e, rfl⟩ F.entry_list_extend (F.args_list_extend_2 _ _)
    (AutoSeq1.list_extend_list_list_0 l its.toArray n b its2.toArray n2 hlong (by rw [List.size_toArray]; omega) (by omega)) ⟨e, e2, ?_⟩
  refine ⟨.non, _, I.lset (its' := its ++ its2) hH e (by simp) (r.append r2) ?_, rfl, q⟩
  rw [List.length_append]
  omega
/-- a method that changes the own list at i by one argument -/
theorem ds_mut {i : Nat} {x : Str} {px apos cpos : Pos} {name : Str} {id : String} {r : V → List V → Hp → VK → Prop} {f : List D → D → Option (List D)} (slot : Slot "list" name id) (hty : typeOf (.builtin id) = pure (.type "method_descriptor")) (hm : MtR X id r)
    (ad : ∀ (ad : DA) (H : Hp) (l : Addr) (vs : List V) (ds es : List D) (y : V) (d : D), H l = some (.lst vs) → RepAll X.K X.mg ad H vs ds → Rep X.K X.mg ad H y d → f ds d = some es → ∃ ws, RepAll X.K X.mg ad H ws es ∧ ∀ Q : VK, Q .non (upd H l (.lst ws)) → r (.ref l) [y] H Q)
    (hN : X.N[i]? = some x) (hv : Vis X.env.scope x) (he : PE X e (eE X.K X.mg W B u)) (hd : (x == ("__debug__" : Str)) = false := by decide) (hcd : (x == ("__classdict__" : Str)) = false := by decide)
    (hbase : attributeBase (.Name x px) name X.env (eval (.Name x px) X.env) = eval (.Name x px) X.env := by rfl)
    (hfew : ((backTo cpos (starEach [e] X.env)).all (fun x => !x.1) && (backToKw cpos (keywordEach [] X.env)).all (fun x => x.1.isSome)
      && decide ([e].length + ([] : List Keyword).length + (if ([] : List Keyword).isEmpty then 0 else 1) < 30)) = true := by rfl)
    (hline : (apos.endLine == cpos.line) = true := by rfl) (hs : starEach [e] X.env = (false, eval e X.env) :: starEach [] X.env := by rfl) (hplain : (backTo cpos (starEach [] X.env)).any (·.1) = false := by rfl) (hsw : swapsWith (.Call (.Attribute (.Name x px) name apos) [e] [] cpos) none pos.line X.env = pure false := by rfl) :
    SD X W (.Expr (.Call (.Attribute (.Name x px) name apos) [e] [] cpos) pos) (sMut i B u f) := PS.imp (ps_expr (pe_bm PySem.F.plainAttrs_list slot hty hm (pe_var hN hv hd hcd) (pa_cons (brw (dx_of he)) pa_nil hs) hbase hfew hline hs hplain) hsw) fun D σ H ⟨a0, S, g, h⟩ => by
  have p := h.po
  unfold sMut at p
  cases ho : isOwn S[i]? with
  | false => rw [ho, if_neg Bool.false_ne_true] at p; exact p.elim
  | true =>
  rw [ho, if_pos rfl] at p
  obtain ⟨ds0, e0⟩ : ∃ ds, S[i]? = some (some (SV.own ds)) := by
    unfold isOwn at ho
    split at ho
    · exact ⟨_, by assumption⟩
    · cases ho
  obtain ⟨a, vs0, ea, eH, _⟩ := h.sr.own i ds0 e0
  refine ⟨.ref a, ea, .inl ⟨rfl, _, .of eH⟩, a0, S, g, h.sr, h.dk, ?_⟩
  show pstB X.K X.mg X.H_0 a0 H σ S B _ _ ((u (view S) g).map Fv.v)
  cases r0 : u (view S) g with
  | bad => rw [r0] at p; exact p.elim
  | er y g' => rw [r0] at p; exact fun c dd H' k sr dk q => p c dd _ H' k sr dk q
  | ok d g' =>
    rw [r0] at p
    simp only at p
    split at p
    · rename_i ds eds
      split at p
      · rename_i es ef
        intro v H1 k1 sr1 dk1 fr
        obtain ⟨a', vs, f1, f2, f3, f4, f5⟩ := sr1.own i ds eds
        rw [ea] at f1; cases f1
        obtain ⟨ws, rw', q⟩ := ad a0 H1 a vs ds es v d f2 f3 fr.rep ef
        exact q _ (p σ _ (k1.trans (perm_lst f2)) (sr1.mut eds ea f2 rw') (dk1.mut f2 f5))
      · exact p.elim
    · exact p.elim
theorem ad_app {X : Cx} : ∀ (ad : DA) (H : Hp) (l : Addr) (vs : List V) (ds es : List D) (y : V) (d : D), H l = some (.lst vs) → RepAll X.K X.mg ad H vs ds → Rep X.K X.mg ad H y d → appD ds d = some es → ∃ ws, RepAll X.K X.mg ad H ws es ∧ ∀ Q : VK, Q .non (upd H l (.lst ws)) → rAppend (.ref l) [y] H Q := fun ad H l vs ds es y d e r ry f => by
  unfold appD at f
  split at f
  · rename_i hl
    cases f
    exact ⟨vs ++ [y], r.app (.cons ry .nil), fun Q q => ⟨l, vs, y, rfl, rfl, e, by rw [r.len]; exact hl, q⟩⟩
  · cases f
theorem ad_ext {X : Cx} : ∀ (ad : DA) (H : Hp) (l : Addr) (vs : List V) (ds es : List D) (y : V) (d : D), H l = some (.lst vs) → RepAll X.K X.mg ad H vs ds → Rep X.K X.mg ad H y d → extD ds d = some es → ∃ ws, RepAll X.K X.mg ad H ws es ∧ ∀ Q : VK, Q .non (upd H l (.lst ws)) → rExtP X.K (.ref l) [y] H Q := fun ad H l vs ds es y d e r ry f => by
  unfold extD at f
  split at f
  · split at f
    · rename_i hl
      cases f
      cases ry with
      | lst s ra => exact ⟨vs ++ _, r.app ra, fun Q q => ⟨l, _, vs, _, rfl, rfl, e, s, by rw [r.len, ra.len]; exact hl, q⟩⟩
    · cases f
  · cases f
end

/-! more statements -/
/-! ### several values, some of them lists just made -/
inductive RepAX (K : PySem.W.Frag) (mg : Str → Option Value) (ad : DA) (H H' : Hp) : List V → List Fv → Prop
  | nil : RepAX K mg ad H H' [] []
  | cons {v : V} {vs : List V} {f : Fv} {fs : List Fv} : FRep K mg ad H H' v f → RepAX K mg ad H H' vs fs → (∀ ds, f = .f ds → ∀ (j : Nat) es, fs[j]? = some (.f es) → vs[j]? ≠ some v) → RepAX K mg ad H H' (v :: vs) (f :: fs)
abbrev RpAX (K : PySem.W.Frag) (mg : Str → Option Value) : RpT (List V) (List Fv) := fun ad H H' v f => RepAX K mg ad H H' v f
theorem RepAX.len {K : PySem.W.Frag} {mg : Str → Option Value} {ad : DA} {H H' : Hp} : ∀ {vs : List V} {fs : List Fv}, RepAX K mg ad H H' vs fs → vs.length = fs.length
  | _, _, .nil => rfl
  | _, _, .cons _ r _ => by rw [List.length_cons, List.length_cons, RepAX.len r]
theorem RepAX.imp {K : PySem.W.Frag} {mg : Str → Option Value} {ad : DA} {H H' J J' : Hp} (i : ∀ v f, FRep K mg ad H H' v f → FRep K mg ad J J' v f) : ∀ {vs : List V} {fs : List Fv}, RepAX K mg ad H H' vs fs → RepAX K mg ad J J' vs fs
  | _, _, .nil => .nil
  | _, _, .cons a r n => .cons (i _ _ a) (RepAX.imp i r) n
theorem RepAX.get {K : PySem.W.Frag} {mg : Str → Option Value} {ad : DA} {H H' : Hp} : ∀ {vs : List V} {fs : List Fv} {j : Nat} {f : Fv}, RepAX K mg ad H H' vs fs → fs[j]? = some f → ∃ v, vs[j]? = some v ∧ FRep K mg ad H H' v f
  | _, _, _, _, .nil, e => by simp at e
  | _, _, 0, _, .cons a _ _, e => by simp at e; subst e; exact ⟨_, rfl, a⟩
  | _, _, j + 1, f, .cons _ r _, e => by
    obtain ⟨v, h1, h2⟩ := RepAX.get (j := j) (f := f) r (by simpa using e)
    exact ⟨v, by simpa using h1, h2⟩
theorem bkAX {K : PySem.W.Frag} {mg : Str → Option Value} : Bk (RpAX K mg) := fun ad H H1 H' g v a k dk h => RepAX.imp (fun v f => bkX ad H H1 H' g v f k dk) h
theorem FRep.keep {K : PySem.W.Frag} {mg : Str → Option Value} {ad : DA} {H H1 H2 : Hp} {g g1 : G} {v : V} {f : Fv} (h : FRep K mg ad H H1 v f) (k : Keep ad H1 H2) (dk0 : DrawOk ad H g) (dk : DrawOk ad H1 g1) : FRep K mg ad H H2 v f := by
  cases f with
  | v d => exact Rep.keep h k dk
  | f ds =>
    obtain ⟨a, vs, e, n, ea, ra⟩ := h
    exact ⟨a, vs, e, n, k a _ ea (dk0.ne n), ra.keep k dk⟩
def axNil : DSt → G → R (List Fv) := fun _ g => .ok [] g
def axCons (t : XT) (ts : DSt → G → R (List Fv)) : DSt → G → R (List Fv) := fun S g => (t S g).bind fun a g1 => (ts S g1).bind fun b g2 => .ok (a :: b) g2
abbrev eAX (K : PySem.W.Frag) (mg : Str → Option Value) (W : WX) (B : List Nat) (t : DSt → G → R (List Fv)) : TA := rd (RpAX K mg) K mg W B t
section
variable {X : Cx} {W : WX} {Ba Bb B : List Nat} {e : Expr} {es : List Expr} {ta : XT} {ts : DSt → G → R (List Fv)}
theorem dax_nil : PA X [] (eAX X.K X.mg W [] axNil) := PA.imp pa_nil fun σ H Q ⟨a0, S, g, h⟩ => h.po [] H (.refl _ _) h.dk .nil
theorem dax_cons (ha : PE X e (eX X.K X.mg W Ba ta)) (hr : PA X es (eAX X.K X.mg W Bb ts)) (hs : starEach (e :: es) X.env = (false, eval e X.env) :: starEach es X.env := by rfl) : PA X (e :: es) (eAX X.K X.mg W (Ba ++ Bb) (axCons ta ts)) :=
  PA.imp (pa_cons ha hr hs) fun σ H Q ⟨a0, S, g, h⟩ => by
    refine ⟨a0, S, g, h.sr.left, h.dk, ?_⟩
    have p := h.po
    unfold axCons at p
    cases r0 : ta S g with
    | bad => simp only [r0, R.bind] at p; exact p
    | er y g' => simp only [r0, R.bind] at p; exact p
    | ok f g1 =>
      simp only [r0, R.bind] at p
      intro x H1 k1 d1 r1
      refine ⟨a0, S, g1, h.sr.right.keep k1 h.dk, d1, ?_⟩
      cases r : ts S g1 with
      | bad => simp only [r] at p; exact p
      | er y g' => simp only [r] at p; exact fun c dd H' k' d' q => p c dd H' (k1.trans k') d' q
      | ok fs g2 =>
        simp only [r] at p
        intro y H2 k2 d2 r2
        refine p (x :: y) H2 (k1.trans k2) d2 (.cons (r1.keep k2 h.dk d1) (r2.imp fun v f q => bkX a0 H H1 H2 g1 v f k1 d1 q) fun ds ef j es ej hv => ?_)
        subst ef
        obtain ⟨p1, vs1, e1, n1, l1, _⟩ := r1
        obtain ⟨v, ev, q⟩ := r2.get ej
        rw [hv] at ev; cases ev
        obtain ⟨p2, vs2, e2, n2, _⟩ := q
        rw [e1] at e2; cases e2
        rw [l1] at n2; cases n2
end
/-- names set, one after another -/
def setVs : List Nat → List V → St → St
  | i :: is, v :: vs, σ => setVs is vs (σ.set i (some v))
  | _, _, σ => σ
def setFs : List Nat → List Fv → SS → SS
  | i :: is, f :: fs, S => setFs is fs (S.set i (some f.sv))
  | _, _, S => S
def nolF (fs : List Fv) : Bool := fs.all Fv.nol
def sSetAll (is : List Nat) (B : List Nat) (t : DSt → G → R (List Fv)) : SB := fun S g => match t (view S) g with
  | .ok fs g' => if fs.length = is.length then .nx (setFs is fs (if nolF fs then S else frzB B S)) g' else .bad
  | .er x g' => .er x (frzB B S) g'
  | .bad => .bad
/-- how the values lie that a statement gets -/
inductive FSA (ow : Nat → List Addr) (K : PySem.W.Frag) (mg : Str → Option Value) (H0 : Hp) (ad : DA) (H' : Hp) : List V → List Fv → Prop
  | nil : FSA ow K mg H0 ad H' [] []
  | cons {v : V} {vs : List V} {f : Fv} {fs : List Fv} : FSo ow K mg H0 ad H' v f → FSA ow K mg H0 ad H' vs fs → (∀ ds, f = .f ds → ∀ (j : Nat) es, fs[j]? = some (.f es) → vs[j]? ≠ some v) → FSA ow K mg H0 ad H' (v :: vs) (f :: fs)
section
variable {K : PySem.W.Frag} {mg : Str → Option Value} {H0 : Hp} {ad : DA} {H : Hp}
theorem SRo.storeAll : ∀ {is : List Nat} {vs : List V} {fs : List Fv} {σ : St} {S : SS} {ow : Nat → List Addr}, SRo ow K mg H0 ad H σ S → FSA ow K mg H0 ad H vs fs → SRS K mg H0 ad H (setVs is vs σ) (setFs is fs S)
  | [], _, _, _, _, _, s, _ => s.s
  | i :: is, _, _, _, _, _, s, .nil => s.s
  | i :: is, v :: vs, f :: fs, σ, S, ow, s, .cons h r n => by
    obtain ⟨l, s2, hl⟩ := s.store (i := i) h
    refine SRo.storeAll (is := is) s2 ?_
    -- the later ones stand over the new slots
    have go : ∀ {vs : List V} {fs : List Fv}, FSA ow K mg H0 ad H vs fs → (∀ ds, f = .f ds → ∀ (j : Nat) es, fs[j]? = some (.f es) → vs[j]? ≠ some v) → FSA (owSet ow i l) K mg H0 ad H vs fs := by
      intro vs fs r
      induction r with
      | nil => exact fun _ => .nil
      | @cons w ws e es q _ n' ih =>
        intro hn
        refine .cons ?_ (ih fun ds ef j es' ej => by simpa using hn ds ef (j + 1) es' (by simpa using ej)) n'
        cases e with
        | v d => exact q
        | f ds =>
          obtain ⟨a, xs, e1, e2, e3, e4, e5, e6⟩ := q
          refine ⟨a, xs, e1, e2, e3, e4, e5, fun j m => ?_⟩
          unfold owSet at m
          by_cases hj : i = j
          · rw [if_pos hj] at m
            obtain ⟨ds2, ef, ev⟩ := hl a m
            exact hn ds2 ef 0 ds (by simp) (by simp [e1, ev])
          · rw [if_neg hj] at m
            exact e6 j m
    exact go r n
theorem FSA.mk {H H' : Hp} {σ : St} {S : SS} {g : G} {ow : Nat → List Addr} (s : SRo ow K mg H0 ad H σ S) (dk : DrawOk ad H g) {vs : List V} {fs : List Fv} (h : RepAX K mg ad H H' vs fs) : FSA ow K mg H0 ad H' vs fs := by
  induction h with
  | nil => exact .nil
  | cons q _ n ih => exact .cons (.mk s dk q) ih n
end
section
variable {X : Cx} {W : WX} {B : List Nat} {st : Stmt} {is : List Nat} {ta : TA} {u : DSt → G → R (List Fv)}
theorem ds_lendAll (h : PS X st (fun D σ H => ta σ H fun vs H1 => vs.length = is.length ∧ ∀ H', (∀ a o, H1 a = some o → H' a = some o) → D.nx (setVs is vs σ) H')) (ap : ∀ σ H Q, eAX X.K X.mg W B u σ H Q → ta σ H Q) : SD X W st (sSetAll is B u) := by
  refine ⟨fun pins s σ H D I ⟨ad, S, g, hh⟩ => ?_⟩
  obtain ⟨⟨ow, sr⟩, dk, po⟩ := hh
  obtain ⟨H1, I1, s1, sr1, dk1, p1, hn0, back⟩ := lend B I sr dk
  unfold sSetAll at po
  refine thn (h.run pins s σ H1 { nx := fun σ2 H2 => ∃ vs fs g', u (view S) g = .ok fs g' ∧ σ2 = setVs is vs σ ∧ Keep ad H1 H2 ∧ DrawOk ad H2 g' ∧ RepAX X.K X.mg ad H1 H2 vs fs ∧ fs.length = is.length, rt := fun _ _ => False } I1 (ap σ H1 _ ⟨ad, view S, g, sr1, dk1, ?_⟩)) fun f s' q => ?_
  · cases r : u (view S) g with
    | bad => rw [r] at po; exact po
    | er x g' => rw [r] at po; exact fun c dd H' k' d' q => po c dd σ H' (p1.trans (k'.perm dk1)) (s1.keeps k' dk1).s d' q
    | ok fs g' =>
      rw [r] at po
      intro vs H2 k2 d2 q
      by_cases hl : fs.length = is.length
      · refine ⟨by rw [q.len]; exact hl, fun H3 hx => ?_⟩
        have k3 : Keep ad H2 H3 := fun a o e _ => hx a o e
        exact ⟨vs, fs, g', rfl, rfl, k2.trans k3, d2.at_ (fun xs e => hx _ _ e) (fun o u e => hx _ _ e), q.imp fun v f z => z.keep k3 dk1 d2, hl⟩
      · simp only at po
        rw [if_neg hl] at po
        exact po.elim
  · cases f with
    | brk => obtain ⟨_, _, _, z⟩ := q; exact z.elim
    | cont => obtain ⟨_, _, _, z⟩ := q; exact z.elim
    | ret u => obtain ⟨_, _, _, _, _, z⟩ := q; exact z.elim
    | next =>
      obtain ⟨σ2, H2, I2, vs, fs, g', ef, rfl, k2, d2, fr, hl⟩ := q
      rw [ef] at po
      simp only at po
      rw [if_pos hl] at po
      by_cases hn : nolF fs = true
      · rw [if_pos hn] at po
        obtain ⟨H3, I3, s3, d3, p3, gT3, nn, same⟩ := back H2 s' g' _ I2 k2 d2
        refine ⟨_, H3, I3, po _ H3 (p3.perm dk) (s3.storeAll ?_) d3⟩
        refine .mk sr dk ?_
        clear po ef hl I2 I3
        induction fr with
        | nil => exact .nil
        | @cons v vs f fs q _ n ih =>
          simp only [nolF, List.all_cons, Bool.and_eq_true] at hn
          exact .cons (q.back hn.1 gT3 same hn0) (ih hn.2) n
      · rw [if_neg hn] at po
        exact ⟨_, H2, I2, po _ H2 (p1.trans (k2.perm dk1)) ((s1.keeps k2 dk1).storeAll (.mk s1 dk1 fr)) d2⟩
theorem ds_par {i j : Nat} {x y : Str} {a b : Expr} {px py pt pos : Pos} {kt k2 pt2} (hc : X.calm = true) (hN : X.N.Nodup) (hi : X.N[i]? = some x) (hj : X.N[j]? = some y) (hij : i ≠ j)
    (hx : X.env.scope.names.lookup x = some .local) (hy : X.env.scope.names.lookup y = some .local) (ha : PA X [a, b] (eAX X.K X.mg W B u))
    (hw : swappedStores [.Tuple [.Name x px, .Name y py] kt pt] (.Tuple [a, b] k2 pt2) X.env = pure (some [x, y]))
    (hs : swapsWithSole [.Tuple [.Name x px, .Name y py] kt pt] (.Tuple [a, b] k2 pt2) pos.line X.env = pure false := by rfl) :
    SD X W (.Assign [.Tuple [.Name x px, .Name y py] kt pt] (.Tuple [a, b] k2 pt2) pos) (sSetAll [i, j] B u) :=
  ds_lendAll (ta := eAX X.K X.mg W B u) (PS.imp (ps_par hc hN hi hj hij hx hy ha hw hs) fun D σ H ⟨ad, S, g, h⟩ => ⟨ad, S, g, h.imp fun vs H1 ⟨hl, q⟩ => match vs, hl, q with | [v, w], _, q => ⟨v, w, rfl, q H1 fun _ _ e => e⟩⟩) fun σ H Q h => h
theorem ds_par3 {i j l : Nat} {x y z : Str} {a b c : Expr} {px py pz pt pos : Pos} {kt k2 pt2} (hc : X.calm = true) (hN : X.N.Nodup) (hi : X.N[i]? = some x) (hj : X.N[j]? = some y) (hl : X.N[l]? = some z) (hij : i ≠ j) (hil : i ≠ l) (hjl : j ≠ l)
    (hx : X.env.scope.names.lookup x = some .local) (hy : X.env.scope.names.lookup y = some .local) (hz : X.env.scope.names.lookup z = some .local) (ha : PA X [a, b, c] (eAX X.K X.mg W B u))
    (hw : swappedStores [.Tuple [.Name x px, .Name y py, .Name z pz] kt pt] (.Tuple [a, b, c] k2 pt2) X.env = pure (some [x, y, z]))
    (hs : swapsWithSole [.Tuple [.Name x px, .Name y py, .Name z pz] kt pt] (.Tuple [a, b, c] k2 pt2) pos.line X.env = pure false := by rfl) :
    SD X W (.Assign [.Tuple [.Name x px, .Name y py, .Name z pz] kt pt] (.Tuple [a, b, c] k2 pt2) pos) (sSetAll [i, j, l] B u) :=
  ds_lendAll (ta := eAX X.K X.mg W B u) (PS.imp (ps_par3 hc hN hi hj hl hij hil hjl hx hy hz ha hw hs) fun D σ H ⟨ad, S, g, h⟩ => ⟨ad, S, g, h.imp fun vs H1 ⟨hl, q⟩ => match vs, hl, q with | [v, w, r], _, q => ⟨v, w, r, rfl, q H1 fun _ _ e => e⟩⟩) fun σ H Q h => h
/-! several names, some of them captured: a tuple is made and taken apart -/
theorem gNames_vs : ∀ {is : List Nat} {vs : List V} {σ : St} {H : Hp} {Q : St → Hp → Prop}, vs.length = is.length → Q (setVs is vs σ) H → gNames is vs σ H Q
  | [], [], _, _, _, _, q => ⟨rfl, q⟩
  | i :: is, v :: vs, _, _, _, h, q => ⟨v, vs, rfl, gNames_vs (by simpa using h) q⟩
  | [], _ :: _, _, _, _, h, _ => by simp at h
  | _ :: _, [], _, _, _, h, _ => by simp at h
theorem ds_parT {es ns : List Expr} {pt pos : Pos} {kt k2 pt2} (hc : X.calm = true) (hz : is.length ≤ sizeLine) (hg : PGs X ns (gNames is)) (ha : PA X es (eAX X.K X.mg W B u))
    (hn : (assignEach ns X.env).length = is.length := by rfl) (hst : (assignEach ns X.env).findIdx? (·.1) = none := by rfl) (hs : swapsWithSole [.Tuple ns kt pt] (.Tuple es k2 pt2) pos.line X.env = pure false := by rfl) (hw : swappedStores [.Tuple ns kt pt] (.Tuple es k2 pt2) X.env = pure none := by rfl)
    (h1 : (assignEach [.Tuple ns kt pt] X.env).map (·.2) = [assign (.Tuple ns kt pt) X.env] := by rfl) :
    SD X W (.Assign [.Tuple ns kt pt] (.Tuple es k2 pt2) pos) (sSetAll is B u) :=
  ds_lendAll (ta := eAX X.K X.mg W B u) (PS.imp (ps_asg (pe_tup ha) (pg_tup hc hg hn hst) hs hw h1) fun D σ H ⟨ad, S, g, h⟩ => ⟨ad, S, g, h.imp fun vs H1 ⟨hl, q⟩ => ⟨by rw [hl]; exact hz, fun p hp => ⟨p, vs, rfl, .of upd_same, hl, gNames_vs hl (q _ fun a o e => by rw [upd_ne (ne_of_none e hp)]; exact e)⟩⟩⟩) fun σ H Q h => h
/-- names = what an expression gives (a tuple, a list) -/
def sUnp (is : List Nat) (B : List Nat) (t : ET) : SB := fun S g => match t (view S) g with
  | .ok d g' => match setS (.tp is) d (post (.v d) B S) with
    | some S' => .nx S' g'
    | none => .bad
  | .er x g' => .er x (frzB B S) g'
  | .bad => .bad
theorem ds_unp {e : Expr} {ns : List Expr} {kt : Nat} {pt pos : Pos} {t : ET} (he : PE X e (eE X.K X.mg W B t)) (hg : TgOk X (.Tuple ns kt pt) (.tp is)) (hs : swapsWithSole [.Tuple ns kt pt] e pos.line X.env = pure false := by rfl) (hw : swappedStores [.Tuple ns kt pt] e X.env = pure none := by rfl)
    (h1 : (assignEach [.Tuple ns kt pt] X.env).map (·.2) = [assign (.Tuple ns kt pt) X.env] := by rfl) : SD X W (.Assign [.Tuple ns kt pt] e pos) (sUnp is B t) := PS.imp (ps_asg (brw (dx_of he)) hg.pg hs hw h1) fun D σ H ⟨ad, S, g, h⟩ => by
  refine ⟨ad, S, g, h.sr, h.dk, ?_⟩
  have p := h.po
  unfold sUnp at p
  show pstB X.K X.mg X.H_0 ad H σ S B _ _ ((t (view S) g).map Fv.v)
  cases r : t (view S) g with
  | bad => rw [r] at p; exact p
  | er x g' => rw [r] at p; exact fun c dd H' k sr dk q => p c dd _ H' k sr dk q
  | ok d g' =>
    rw [r] at p
    intro v H' k sr dk q
    cases e : setS (.tp is) d (post (.v d) B S) with
    | none => simp only [e] at p; exact p.elim
    | some S' =>
      simp only [e] at p
      exact gT_S q.rep sr e fun σ' s' => p σ' H' k s' dk
/-- x += e -/
def sAug (i : Nat) (B : List Nat) (op : D → D → Option D) (t : ET) : SB := fun S g => match S[i]? with
  | some (some (.val a)) => match t (view S) g with
    | .ok d g' => match op a d with
      | some z => .nx ((post (.v d) B S).set i (some (.val z))) g'
      | none => .bad
    | .er x g' => .er x (frzB B S) g'
    | .bad => .bad
  | _ => .bad
/-- raise X('..') of an own class without __init__ -/
structure ExC (K : PySem.W.Frag) (mg : Str → Option Value) (x : Str) (C : Addr) : Prop where
  g : mg x = some (.ref C)
  q : PySem.W.excIn K C [.type "ValueError", .type "Exception", .type "BaseException", .type "object"] "ValueError.__new__" = true
  k : PySem.W.keepIn K (.ref C) = true
  b : PySem.W.subIn K (.ref C) (.type "BaseException") = some true
  t : PySem.W.typeIn K (.ref C) = some (.type "type")
def sRaise (x : Str) : SB := fun S g => .er ⟨x, []⟩ S g
theorem ds_raise {x m : Str} {C : Addr} {j : Nat} {p p2 pos pos2 : Pos} (hc : X.calm = true) (tk : Takes X W) (T : ExC X.K X.mg x C) (hg : Gl X x) (hdb : (x == ("__debug__" : Str)) = false := by decide) : SD X W (.Raise (some (.Call (.Name x p) [.Constant (.str m) j p2] [] pos)) none pos2) (sRaise x) :=
  PS.imp (ps_raise hc tk (pmk_own PySem.F.excBase_ValueError T.q T.g T.k (raises_own T.b T.t) hg hdb)) fun D σ H ⟨ad, S, g, h⟩ => h.po (.ref C) none σ H (.refl _) h.sr h.dk ⟨C, T.g, rfl, fun z => absurd rfl z⟩
/-- try: b except C: bs (which raises nothing) -/
def sTry (sub : Str → Option Bool) (b bs : SB) : SB := fun S g => match b S g with
  | .er x S1 g1 => match sub x.cls with
    | some true => match bs S1 g1 with
      | .er _ _ _ => .bad
      | r => r
    | some false => .er x S1 g1
    | none => .bad
  | r => r
theorem ds_try {x : Str} {c : Value} {sub : Str → Option Bool} {body suite : List Stmt} {b₀ : Stmt} {np pos pos' : Pos} {b bs : SB} (hs : X.stack = X.env :: X.outer) (hf : X.env.frame = some X.env.locals) (hc : Names X x c) (tk : Takes X W)
    (hsub : ∀ y v, sub y = some v → ∀ A, X.mg y = some (.ref A) → PySem.W.exmOne X.K (.ref A) c = some v)
    (hb : ∀ (W' : WX) (pn : List (Addr × Obj)) (xe : Value → Shared → Prop), Takes (X.tr pn xe) W' → PassesOwn (model X.prog X.w) X.A X.env xe → SDs (X.tr pn xe) W' body b)
    (hsu : ∀ (a : Addr) (oe : Obj) (pn : List (Addr × Obj)), SDs (X.suite a ((a, oe) :: pn)) W0 (b₀ :: suite) bs) :
    SD X W (.Try body [.ExceptHandler (some (.Name x np)) none (b₀ :: suite) pos'] [] [] pos) (sTry sub b bs) :=
  PS.imp (ps_try_only (tb := fun W' => rdS X.K X.mg X.H_0 W' b) (ts := fun _ _ _ => rdS X.K X.mg X.H_0 W0 bs) hs hf hc tk (fun W' pn xe t p => hb W' pn xe t p) (fun a oe _ _ pn _ _ => hsu a oe pn)) fun D σ H ⟨ad, S, g, h⟩ => by
    refine ⟨ad, S, g, h.sr, h.dk, ?_⟩
    have p := h.po
    unfold sTry at p
    cases r : b S g with
    | nx S1 g1 => rw [r] at p; exact p
    | bk S1 g1 => rw [r] at p; exact p
    | ct S1 g1 => rw [r] at p; exact p
    | ret d g1 => rw [r] at p; exact p
    | bad => rw [r] at p; exact p
    | er y S1 g1 =>
      rw [r] at p
      intro cls dd σ' H' k sr dk ex
      simp only at p
      obtain ⟨A, hA, rfl, _⟩ := id ex
      cases e : sub y.cls with
      | none => rw [e] at p; exact p.elim
      | some v =>
        refine ⟨v, hsub _ _ e A hA, fun hv a _ => ?_, fun hv => ?_⟩
        · subst hv
          rw [e] at p
          simp only at p
          refine ⟨ad, S1, g1, sr, dk, ?_⟩
          cases r2 : bs S1 g1 with
          | er _ _ _ => rw [r2] at p; exact p.elim
          | nx S2 g2 => rw [r2] at p; exact p.perm k
          | bk S2 g2 => rw [r2] at p; exact p.perm k
          | ct S2 g2 => rw [r2] at p; exact p.perm k
          | ret d g2 => rw [r2] at p; exact p.perm k
          | bad => rw [r2] at p; exact p
        · subst hv
          rw [e] at p
          exact p _ dd σ' H' k sr dk ex
end

/-! sorting, slices, sums -/
section
variable {prog : Program} {w : World} {A : Around} {E : Value → Shared → Prop} {s : Shared}
/-- the items of a list or a tuple -/
theorem collect_sq {l : Addr} {vs : List Value} {Q : List Value → Shared → Prop} {o : Obj} {n : Nat} {T : String} (ho : s.heap.get? l = some o) (hT : T = "list" ∨ T = "tuple") (hc : o.cls = .type T) (hd : o.data = .seq vs.toArray n)
    (h : Q vs { s with heap := (s.heap.push (seqObj "list" #[] 0)).update s.heap.objs.size (Obj.mapSeq (· ++ vs.toArray)) }) (hsz : vs.length ≤ sizeLine) :
    wpAny (model prog w) A (collect (.ref l)) Q E s := by
  unfold collect
  refine wpAny_bind (wpAny_runValue (codeAny_builtin entry_proto_collect' ?_))
  show wpAny _ _ (do again (.builtin "list.__iadd__" ⟨[← newList [], .ref l], []⟩)) _ _ s
  refine wpAny_bind (wpAny_newList (wpAny_pure ⟨Code.quiet_builtin _ (by decide +kernel), codeAny_builtin entry_list_iadd' ?_⟩))
  show wpAny _ _ (Builtin.List.listExtendWith (.ref s.heap.objs.size) (.ref l) (.ref s.heap.objs.size)) _ _ { s with heap := s.heap.push (seqObj "list" #[] 0) }
  unfold Builtin.List.listExtendWith
  have ho' : (s.heap.push (seqObj "list" #[] 0)).get? l = some o := Heap.get?_push_of_some _ ho
  refine wpAny_bind (wpAny_typeOf (T := T) ⟨o, ho', hc⟩ ?_)
  have ht : (Value.type T == Value.type "list") = true ∨ (Value.type T == Value.type "tuple") = true := by
    rcases hT with rfl | rfl
    · exact .inl rfl
    · exact .inr rfl
  rw [if_pos (by
    simp only [Bool.or_eq_true]
    rcases ht with ht | ht
    · exact .inl (.inr ht)
    · exact .inr ht)]
  refine wpAny_bind (listItems_at ho' hd ?_)
  refine wpAny_bind (listItems_at (xs := #[]) (n := 0) (Heap.get?_push_size _ rfl) rfl ?_)
  rw [if_neg (by simp)]
  refine wpAny_bind (listUpdate_at (xs := #[]) (n := 0) (Heap.get?_push_size _ rfl) rfl ?_ (Nat.zero_le _) (by show (#[] ++ vs.toArray).size ≤ sizeLine + 1; simp only [Array.size_append, List.size_toArray, List.length_nil]; omega))
  refine wpAny_pure ?_
  show wpAny (model prog w) A (do
      let o ← load s.heap.objs.size
      match o.data with
      | .seq xs _ => pure xs.toList
      | _ => unsupported "internal:collect") Q E { s with heap := (s.heap.push (seqObj "list" #[] 0)).update s.heap.objs.size (Obj.mapSeq (· ++ vs.toArray)) }
  refine wpAny_bind (wpAny_load (get?_update_seq (Heap.get?_push_size _ rfl) _) ?_)
  show wpAny _ _ (pure ((#[] : Array Value) ++ vs.toArray).toList) Q E _
  rw [show ((#[] : Array Value) ++ vs.toArray).toList = vs by simp]
  exact wpAny_pure h
open PySem.W PySem.Calls in
theorem sorted_sq {l : Addr} {vs : List Value} {κ : PyProof.Rows.KeyKind} {Q : Value → Shared → Prop} {o : Obj} {n : Nat} {T : String} (ho : s.heap.get? l = some o) (hT : T = "list" ∨ T = "tuple") (hc : o.cls = .type T) (hd : o.data = .seq vs.toArray n)
    (S : SortsAt prog w A.in1.in1 { s with heap := sortingHeap (copyHeap s.heap vs) (s.heap.objs.size + 1) vs } κ vs) (hL : vs.length ≤ sizeLine)
    (h : Q (.ref (s.heap.objs.size + 1)) { s with heap := sortedAll s.heap vs (sortVals κ false vs vs).toArray }) : wpAny (model prog w) A (call (.builtin "sorted") [.ref l]) Q E s := by
  refine call_function_entry_kw kind_sorted plain_sorted entry_sorted (args_sorted1 _) ?_
  unfold Builtin.«sorted»
  refine wpAny_bind (m := checkCount "sorted" 1 1 _) (wpAny_pure ?_)
  refine wpAny_bind (collect_sq ho hT hc hd ?_ hL)
  refine wpAny_bind (wpAny_newList ?_ hL)
  have hsz : ((s.heap.push (seqObj "list" #[] 0)).update s.heap.objs.size (Obj.mapSeq (· ++ vs.toArray))).objs.size = s.heap.objs.size + 1 := by
    rw [Heap.size_update, size_push']
  show wpAny _ _ _ _ _ { s with heap := copyHeap s.heap vs }
  rw [hsz]
  refine wpAny_bind (wpAny_holding (wpAny_call_entry_kw slot_list_sort ⟨_, copyHeap_at s.heap vs, rfl⟩ entry_list_sort ?body (args_list_sort _)))
  case body =>
    show wpAny (model prog w) A.in1.in1 (Builtin.«list.sort» ⟨[.ref (s.heap.objs.size + 1)], []⟩) _ _ _
    refine wpAny_mono (list_sort_vals (P := fun f s' => f = .done (.ret .none) ∧ Q (.ref (s.heap.objs.size + 1)) s') (s := { s with heap := copyHeap s.heap vs }) (copyHeap_at s.heap vs) S hL ⟨rfl, h⟩) (fun f s' hf => ?_) fun _ _ e => e
    obtain ⟨rfl, hq⟩ := hf
    exact ⟨_, rfl, wpAny_pure ⟨_, rfl, hq⟩⟩
end
open PySem.W in
/-- sorted(..) of alike data: bs the items with their data -/
def rSortA (K : PySem.W.Frag) : List V → Hp → VK → Prop := fun vs H Q => ∃ (a : Addr) (bs : List (V × PyData)), vs = [.ref a] ∧ (SqL K H a (bs.map (·.1)) ∨ SqT K H a (bs.map (·.1))) ∧ (∀ b ∈ bs, Dp K H b.1 b.2) ∧ AllAlike (bs.map (·.2)) ∧ Sortable (bs.map (·.2)) ∧ (∀ b ∈ bs, b.2.depth ≤ 64) ∧
  ∀ p, H p = none → Q (.ref p) (upd H p (.lst ((bs.mergeSort (dataLe false (·.2))).map (·.1))))
theorem Vals.zip {β : Type} {f : β → V} {R : Value → β → Prop} (hR : ∀ u b, R u b → RelV (f b) u) : ∀ {us : List Value} {bs : List β}, PySem.W.EachIs R us bs → Vals (bs.map f) us
  | _, _, .nil => .nil
  | _, _, .cons h t => .cons (hR _ _ h) (Vals.zip hR t)
theorem each_of {β : Type} {f : β → V} {R : Value → β → Prop} : ∀ {us : List Value} {bs : List β}, Vals (bs.map f) us → (∀ u b, b ∈ bs → RelV (f b) u → R u b) → PySem.W.EachIs R us bs
  | _, [], r, _ => by
    cases r
    exact .nil
  | _, b :: bs, r, h => by
    cases r with
    | cons r1 r2 => exact .cons (h _ b List.mem_cons_self r1) (each_of r2 fun u c hc => h u c (List.mem_cons_of_mem _ hc))
open PySem.W in
theorem cr_sortA {X : Cx} (hu : X.A.units + 70 < cLine) : CallR X (.builtin "sorted") (rSortA X.K) := by
  intro pins s σ H vs us Q I r h
  obtain ⟨a, bs, rfl, hs, hd, hal, hk, hdp, q⟩ := h
  obtain ⟨u, rfl, ru⟩ := vals1 r
  obtain rfl : u = Value.ref a := ru
  obtain ⟨its, rv, T, o, n, hT, ho, hc, hdat, hz⟩ : ∃ its, Vals (bs.map (·.1)) its ∧ ∃ T o n, (T = "list" ∨ T = "tuple") ∧ s.heap.get? a = some o ∧ o.cls = .type T ∧ o.data = .seq its.toArray n ∧ (bs.map (·.1)).length ≤ sizeLine := by
    rcases hs with hs | hs
    · obtain ⟨its, rv, ⟨o, n, h1, h2, _, h3⟩, hz⟩ := I.list hs
      exact ⟨its, rv, "list", o, n, .inl rfl, h1, h2, h3, hz⟩
    · obtain ⟨its, rv, ⟨o, h1, h2, n, h3⟩, hz⟩ := I.tuple hs
      exact ⟨its, rv, "tuple", o, n, .inr rfl, h1, h2, h3, hz⟩
  have hlen : its.length = bs.length := by rw [← rv.length, List.length_map]
  have hz' : bs.length ≤ sizeLine := by simpa using hz
  have e : EachIs (fun v b => RelV b.1 v) its bs := each_of rv fun u b _ h => h
  have er : EachIs (fun v (b : V × PyData) => ∃ as, Reads s.heap v b.2 as) its bs := each_of rv fun u b hb h => Dp.reads I b.2 b.1 u (hd b hb) h
  have er' : EachIs (fun v (b : V × PyData) => ∃ as, Reads (sortingHeap (copyHeap s.heap its) (s.heap.objs.size + 1) its) v b.2 as) its bs := er.mono fun _ _ ⟨as, r⟩ => ⟨as, PyProof.Rows.Reads.keeps (fun _ _ => sorting_copy_old) r⟩
  refine sorted_sq ho hT hc hdat (SortsAt.data (s := { s with heap := sortingHeap (copyHeap s.heap its) (s.heap.objs.size + 1) its }) (each_map (R := fun v d => ∃ as, Reads (sortingHeap (copyHeap s.heap its) (s.heap.objs.size + 1) its) v d as) (fun b : V × PyData => b.2) er') hal hk (bound_map fun b hb => ?_)) (by rw [hlen]; exact hz') ?_
  · have := hdp b hb
    show X.A.units + 2 + b.2.depth < cLine
    omega
  · have out := sortVals_data (enc := fun b : V × PyData => b.2) false e er' hal
    have kp : ∀ b o, s.heap.get? b = some o → (sortedAll s.heap its (sortVals (dataKind (sortingHeap (copyHeap s.heap its) (s.heap.objs.size + 1) its) (bs.map fun b => b.2)) false its its).toArray).get? b = some o := fun b o e => sortedAll_old e
    obtain ⟨k, hk2⟩ := sortedAll_at s.heap its (sortVals (dataKind (sortingHeap (copyHeap s.heap its) (s.heap.objs.size + 1) its) (bs.map fun b => b.2)) false its its).toArray
    refine ⟨.ref (s.heap.objs.size + 1), _, I.laid (t' := s.toks) (o := .lst ((bs.mergeSort (dataLe false (·.2))).map (·.1))) kp (Nat.le_succ _) ⟨?_, _, k, Vals.zip (fun u b h => h) out, hk2⟩, rfl, q _ (I.hok.fresh (Nat.le_succ _))⟩
    rw [List.length_map, List.length_mergeSort]
    exact hz'
/-! ### on data -/
def alikeAll2 (ps : List PyData) : Bool := ps.all fun d => ps.all fun e => PySem.W.alike d e
def sortable2 (ps : List PyData) : Bool := (ps.all fun d => match d with | .tuple (_ :: _) => true | _ => false) || (ps.all fun d => match d with | .none => false | .tuple _ => false | _ => true)
def leD (a b : D) : Bool := !PySem.W.dataLt b.py a.py
def sortL (ds : List D) : Option Fv := if alikeAll2 (pyAll ds) = true ∧ sortable2 (pyAll ds) = true ∧ (pyAll ds).all (fun p => SeqAt.shaped p) = true then some (.f (ds.mergeSort leD)) else none
def sortD : List D → Option Fv
  | [.lst ds] => sortL ds
  | [.tup ds] => sortL ds
  | _ => none
theorem pyAll_map : ∀ ds : List D, pyAll ds = ds.map D.py
  | [] => rfl
  | d :: ds => by simp [pyAll, pyAll_map ds]
theorem ad_sort {K : PySem.W.Frag} {mg : Str → Option Value} : AdC (RpX K mg) K mg (rSortA K) sortD := by
  have main : ∀ ad H g a xs ds c, DrawOk ad H g → (SqL K H a xs ∨ SqT K H a xs) → RepAll K mg ad H xs ds → sortL ds = some c → ∀ Q, (∀ v H', Keep ad H H' → DrawOk ad H' g → RpX K mg ad H H' v c → Q v H') → rSortA K [.ref a] H Q := by
    intro ad H g a xs ds c dk hs ra e Q q
    unfold sortL at e
    split at e
    · rename_i h
      cases e
      obtain ⟨h1, h2, h3⟩ := h
      -- the items with their data
      obtain ⟨zs, ez1, ez2, ez3⟩ : ∃ zs : List (V × D), zs.map (·.1) = xs ∧ zs.map (·.2) = ds ∧ ∀ z ∈ zs, Rep K mg ad H z.1 z.2 := by
        clear h1 h2 h3 q hs
        induction ds generalizing xs with
        | nil => cases ra; exact ⟨[], rfl, rfl, fun z h => nomatch h⟩
        | cons d ds ih =>
          cases ra with
          | cons r rs =>
            obtain ⟨zs, e1, e2, e3⟩ := ih _ rs
            refine ⟨(_, d) :: zs, by rw [List.map_cons, e1], by rw [List.map_cons, e2], fun z hz => ?_⟩
            rcases List.mem_cons.mp hz with rfl | hz
            · exact r
            · exact e3 z hz
      have ep : (zs.map fun z => (z.1, z.2.py)).map (·.2) = pyAll ds := by rw [pyAll_map, ← ez2, List.map_map, List.map_map]; rfl
      have ev : (zs.map fun z => (z.1, z.2.py)).map (·.1) = xs := by rw [← ez1, List.map_map]; rfl
      have sh : ∀ z ∈ zs, SeqAt.shaped z.2.py = true := fun z hz => by
        rw [List.all_eq_true] at h3
        refine h3 _ ?_
        rw [pyAll_map, ← ez2]
        exact List.mem_map.mpr ⟨_, List.mem_map.mpr ⟨z, hz, rfl⟩, rfl⟩
      refine ⟨a, zs.map fun z => (z.1, z.2.py), rfl, by rw [ev]; exact hs, fun b hb => ?_, ?_, ?_, fun b hb => ?_, fun p hp => ?_⟩
      · obtain ⟨z, hz, rfl⟩ := List.mem_map.mp hb
        exact (ez3 z hz).dp _ _ (SeqAt.canLay_of_shaped (sh z hz))
      · rw [ep]
        unfold alikeAll2 at h1
        intro d hd d' hd'
        exact List.all_eq_true.mp (List.all_eq_true.mp h1 d hd) d' hd'
      · rw [ep]
        unfold sortable2 at h2
        rw [Bool.or_eq_true] at h2
        rcases h2 with h2 | h2
        · refine .inl fun d hd => ?_
          have := List.all_eq_true.mp h2 d hd
          split at this
          · exact ⟨_, _, rfl⟩
          · cases this
        · refine .inr fun d hd => ?_
          have := List.all_eq_true.mp h2 d hd
          constructor
          · rintro rfl; cases this
          · rintro xs rfl; cases this
      · obtain ⟨z, hz, rfl⟩ := List.mem_map.mp hb
        exact SeqAt.depth_of_shaped (sh z hz)
      · have em : ((zs.map fun z => (z.1, z.2.py)).mergeSort (PySem.W.dataLe false (fun b : V × PyData => b.2))).map (·.1) = (zs.mergeSort fun a b => leD a.2 b.2).map (·.1) := by
          rw [← List.map_mergeSort (r := fun a b : V × D => leD a.2 b.2) (fun a _ b _ => by rw [PySem.W.dataLe_eq]; rfl), List.map_map]
          rfl
        have e2 : (zs.mergeSort fun a b => leD a.2 b.2).map (·.2) = ds.mergeSort leD := by
          rw [List.map_mergeSort (r := fun a b : V × D => leD a.2 b.2) (s := leD) (fun a _ b _ => rfl), ez2]
        rw [em]
        have rr : RepAll K mg ad H ((zs.mergeSort fun a b => leD a.2 b.2).map (·.1)) (ds.mergeSort leD) := by
          rw [← e2]
          have hm : ∀ z ∈ (zs.mergeSort fun a b => leD a.2 b.2), Rep K mg ad H z.1 z.2 := fun z hz => ez3 z (List.mem_mergeSort.mp hz)
          generalize (zs.mergeSort fun a b => leD a.2 b.2) = us at hm
          induction us with
          | nil => exact .nil
          | cons u us ih => exact .cons (hm u List.mem_cons_self) (ih fun z hz => hm z (List.mem_cons_of_mem _ hz))
        exact q _ _ (Keep.upd hp) (dk.upd hp) ⟨p, _, rfl, hp, upd_same, rr.keep (Keep.upd hp) dk⟩
    · cases e
  intro ad H g xs ds c dk r e Q q
  unfold sortD at e
  split at e
  · obtain ⟨x, rfl, rx⟩ := r.one
    cases rx with
    | lst s ra => exact main ad H g _ _ _ c dk (.inl s.l) ra e Q q
  · obtain ⟨x, rfl, rx⟩ := r.one
    cases rx with
    | tup s ra => exact main ad H g _ _ _ c dk (.inr s.t) ra e Q q
  · cases e

/-! ### slices -/
def cutD (xs : List D) (lo hi : Option Int) : List D := (xs.drop (HT.sIx xs.length 0 lo)).take (HT.sIx xs.length xs.length hi - HT.sIx xs.length 0 lo)
def sliceD (a : D) (lo hi : Option Int) : Option Fv := match a with
  | .str z => if z.length ≤ sizeLine then some (.v (.str (cutS z lo hi))) else none
  | .lst xs => some (.f (cutD xs lo hi))
  | .tup xs => some (.v (.tup (cutD xs lo hi)))
  | _ => none
def rSlN (K : PySem.W.Frag) : V → Option Int → Option Int → Hp → VK → Prop := fun x lo hi H Q => ∃ a xs, x = .ref a ∧ SqT K H a xs ∧
  (HT.sIx xs.length 0 lo = 0 ∧ HT.sIx xs.length xs.length hi = xs.length → Q (.ref a) H) ∧ (¬ (HT.sIx xs.length 0 lo = 0 ∧ HT.sIx xs.length xs.length hi = xs.length) → QN Q (cutV xs lo hi) H)
theorem sl_tupN {X : Cx} : SlR X (rSlN X.K) := by
  intro pins s σ H x v vl vu lo hi sl Q I rx hs pl pu ⟨a, xs, ex, hx, q1, q2⟩
  subst ex
  by_cases hw : HT.sIx xs.length 0 lo = 0 ∧ HT.sIx xs.length xs.length hi = xs.length
  · exact sl_tupA pins s σ H _ v vl vu lo hi sl Q I rx hs pl pu ⟨a, xs, rfl, hx, q1, fun n => (n hw).elim⟩
  · cases rx
    obtain ⟨its, r, ht, hz⟩ := I.tuple hx
    have hlen : its.toArray.size = xs.length := by rw [List.size_toArray]; exact r.length.symm
    refine ⟨"tuple", _, PyProof.Rows.slot_tuple_getitem.lookup, ht.typeIs, HT.getItem_tuple_cut ht hs pl pu (by rw [hlen]; exact hw) ?_ (by rw [hlen]; exact hz)⟩
    rw [hlen]
    exact laidN I ((r.drop (HT.sIx xs.length 0 lo)).take (HT.sIx xs.length xs.length hi - HT.sIx xs.length 0 lo)) (Nat.le_trans (cutV_length xs lo hi) hz) (q2 hw)
def rSlAll (K : PySem.W.Frag) : V → Option Int → Option Int → Hp → VK → Prop := fun x lo hi H Q => rSlL K x lo hi H Q ∨ (rSlS x lo hi H Q ∨ rSlN K x lo hi H Q)
section
variable {X : Cx} {K : PySem.W.Frag} {mg : Str → Option Value}
theorem sl_all : SlR X (rSlAll X.K) := SlR.or sl_list (SlR.or sl_str sl_tupN)
theorem cut_rep {ad : DA} {H : Hp} {vs : List V} {ds : List D} {lo hi : Option Int} (r : RepAll K mg ad H vs ds) : RepAll K mg ad H (cutV vs lo hi) (cutD ds lo hi) := by
  unfold cutV cutD
  rw [r.len]
  exact (r.drop _).take _
theorem ad_slice {ad : DA} {H : Hp} {g : G} {x : V} {a : D} {lo hi : Option Int} {c : Fv} (dk : DrawOk ad H g) (rx : Rep K mg ad H x a) (e : sliceD a lo hi = some c) (Q : VK) (q : ∀ v H', Keep ad H H' → DrawOk ad H' g → FRep K mg ad H H' v c → Q v H') : rSlAll K x lo hi H Q := by
  unfold sliceD at e
  split at e
  · cases rx
    split at e
    · cases e
      exact .inr (.inl ⟨_, rfl, by assumption, q _ _ (.refl _ _) dk (.str _)⟩)
    · cases e
  · cases e
    cases rx with
    | lst s r => exact .inl ⟨_, _, rfl, s.l, fun p hp => q _ _ (Keep.upd hp) (dk.upd hp) ⟨p, _, rfl, hp, upd_same, (cut_rep r).keep (Keep.upd hp) dk⟩⟩
  · cases e
    cases rx with
    | tup s r =>
      refine .inr (.inr ⟨_, _, rfl, s.t, fun hw => ?_, fun hw p o hp ho => q _ _ (Keep.upd hp) (dk.upd hp) (.tup (.new ho) ((cut_rep r).keep (Keep.upd hp) dk))⟩)
      refine q _ _ (.refl _ _) dk (.tup s ?_)
      have z := cut_rep (lo := lo) (hi := hi) r
      have ew : ∀ vs : List V, HT.sIx vs.length 0 lo = 0 ∧ HT.sIx vs.length vs.length hi = vs.length → cutV vs lo hi = vs := fun vs h => by
        unfold cutV
        rw [h.1, h.2]
        simp
      rw [ew _ hw] at z
      exact z
  · cases e
/-- a bound of a slice -/
def oNo : DSt → G → R (Option Int) := fun _ g => .ok none g
def oAt (t : ET) : DSt → G → R (Option Int) := fun S g => (t S g).bind fun d g1 => match d with
  | .int i => .ok (some i) g1
  | _ => .bad
def RpO : RpT (Option Int) (Option Int) := fun _ _ _ o o' => o = o'
theorem bkO : Bk RpO := fun _ _ _ _ _ _ _ _ _ h => h
theorem PO.imp {X : Cx} {e : Option Expr} {t t' : TO} (h : PO X e t) (i : ∀ σ H Q, t' σ H Q → t σ H Q) : PO X e t' := ⟨fun pins s σ H Q I q => h.run pins s σ H Q I (i σ H Q q)⟩
variable {W : WX} {B Bl Bh : List Nat} {e : Expr} {ta : ET}
theorem do_none : PO X none (rd RpO X.K X.mg W [] oNo) := PO.imp po_none fun σ H Q ⟨a0, S, g, h⟩ => h.po none H (.refl _ _) h.dk rfl
theorem do_some (h : PE X e (eE X.K X.mg W B ta)) : PO X (some e) (rd RpO X.K X.mg W B (oAt ta)) := PO.imp (po_some h) fun σ H Q ⟨a0, S, g, h⟩ => by
  have h : At RpO X.K X.mg W (B ++ []) (oAt ta) a0 S g σ H Q := by rw [List.append_nil]; exact h
  refine .mk ((h.bind (Rp1 := RpE X.K X.mg) bkO (k := fun d _ g1 => match d with | .int i => .ok (some i) g1 | _ => .bad)).imp fun x H1 ⟨a, g1, k1, d1, r1, h2⟩ => ?_)
  have p := h2.po
  cases r1 with
  | int i => exact ⟨i, rfl, p _ _ (.refl _ _) d1 rfl⟩
  | _ => exact p.elim
def xSlice (ta : ET) (tl th : DSt → G → R (Option Int)) : XT := fun S g => (ta S g).bind fun a g1 => (tl S g1).bind fun l g2 => (th S g2).bind fun u g3 => lift (sliceD a l u) g3
theorem dx_slice {lo hi : Option Expr} {tl th : DSt → G → R (Option Int)} {p2 pos : Pos} (he : PE X e (eE X.K X.mg W B ta)) (hl : PO X lo (rd RpO X.K X.mg W Bl tl)) (hh : PO X hi (rd RpO X.K X.mg W Bh th)) : PE X (.Subscript e (.Slice lo hi none p2) pos) (eX X.K X.mg W (B ++ (Bl ++ Bh)) (xSlice ta tl th)) :=
  PE.imp (pe_slice sl_all he hl hh) fun σ H Q ⟨a0, S, g, h⟩ => by
    refine .mk ((h.bind (Rp1 := RpE X.K X.mg) bkX (k := fun a S g1 => (tl S g1).bind fun l g2 => (th S g2).bind fun u g3 => lift (sliceD a l u) g3)).imp fun x H1 ⟨a, g1, k1, d1, r1, h2⟩ => ?_)
    refine .mk ((h2.bind (Rp1 := RpO) bkX (k := fun l S g2 => (th S g2).bind fun u g3 => lift (sliceD a l u) g3)).imp fun l H2 ⟨l', g2, k2, d2, r2, h3⟩ => ?_)
    cases r2
    have h3 : At (RpX X.K X.mg) X.K X.mg W (Bh ++ []) (fun S g2 => (th S g2).bind fun u g3 => lift (sliceD a l u) g3) a0 S g2 σ H2 Q := by rw [List.append_nil]; exact h3
    refine .mk ((h3.bind (Rp1 := RpO) bkX (k := fun u _ g3 => lift (sliceD a l u) g3)).imp fun u H3 ⟨u', g3, k3, d3, r3, h4⟩ => ?_)
    cases r3
    obtain ⟨z, e, q⟩ := At.lift (o := fun _ => sliceD a l u) h4
    exact ad_slice d3 ((r1.keep k2 d1).keep k3 d2) e Q q
end

/-! repetition; the law's draws -/
section
variable {X : Cx} {K : PySem.W.Frag} {mg : Str → Option Value}
/-- [..] * n of a list that stays -/
def rRepP (K : PySem.W.Frag) : R2 := fun x y H Q => ∃ l k xs, x = .ref l ∧ y = .int k ∧ SqP K H l xs ∧ (-(2 ^ 63) ≤ k ∧ k < 2 ^ 63) ∧ xs.length * k.toNat ≤ sizeLine ∧ ∀ p, H p = none → Q (.ref p) (upd H p (.lst (List.replicate k.toNat xs).flatten))
theorem rep_new (its : List Value) (m : Nat) : List.foldl (fun a b => a ++ b) #[] (List.replicate (if its.toArray.isEmpty = true then 0 else m) its.toArray) = (List.replicate m its).flatten.toArray := by
  have f1 : List.foldl (fun a b => a ++ b) #[] (List.replicate m its.toArray) = ([] ++ (List.replicate m its).flatten).toArray := foldl_rep its m []
  by_cases h : its = []
  · subst h; simp
  · rw [if_neg (by simpa using h), f1, List.nil_append]
theorem op_repP : OpR X (binaryOp .Mult) (rRepP X.K) := by
  intro pins s σ H x y v u Q I rx ry ⟨l, k, xs, ex, ey, hH, ⟨h1, h2⟩, hz, q⟩
  subst ex ey
  obtain ⟨tk, ek⟩ := ry
  cases rx
  subst ek
  obtain ⟨_, its, n, r, hl, e⟩ := lstP I hH
  have size : its.toArray.size * k.toNat ≤ sizeLine := by simpa [← hl] using hz
  have c1 : ¬ (!Builtin.List.listFitsIndex k) = true := by simp [fitsIndex_both h1 h2]
  have c2 : ¬ its.toArray.size * k.toNat > (2 ^ 63 - 1) / 8 := Nat.not_lt.mpr (Nat.le_trans size (by decide))
  have c3 : ¬ Builtin.List.listTooLong (its.toArray.size * k.toNat) = true := by rw [notLongL size]; decide
  have ty : s.TypeIs (.ref l) "list" := ⟨_, e, rfl⟩
  have inner := call_meets (prog := X.prog) (w := X.w) (A := X.A) (E := X.xe) (s := s) (Q := fun v s' => EP X pins σ Q v s') F.slot_list_mul ty F.entry_list_mul (F.args_list_mul_2 _ (.int k tk)) (AutoListH.list___mul___list_int_3 l its.toArray n k tk c1 c2 c3)
  refine wpAny_binaryOp_repeat_ref (T := "list") (U := "int") (by decide) ⟨_, e, rfl⟩ (fun s' => typeIs_int s' k tk) noFill_list_mul F.fills_int_mul F.slot_int_rmul repeat_list F.slot_int_index.lookup
    (call_meets F.slot_int_rmul (typeIs_int s k tk) F.entry_int_rmul (F.args_int_rmul_2 _ _) (int___rmul___int_list k tk l its.toArray n) ⟨e, rfl, ⟨_, e, rfl⟩, inner ⟨e, ?_⟩⟩)
  rw [rep_new]
  exact ⟨.ref _, _, I.lnew (t' := s.toks) (r.rep k.toNat) (by rw [PyProof.Rows.lm_len_rep_flat, Nat.mul_comm]; exact hz), rfl, q _ I.fresh⟩
def rMulX (K : PySem.W.Frag) : R2 := fun x y H Q => rI CMul (fun i j => .int (i * j)) x y H Q ∨ rRepP K x y H Q
theorem op_mulX : OpR X (binaryOp .Mult) (rMulX X.K) := OpR.or op_mul op_repP
/-- a product, or a list several times -/
def mulX : D → D → Option Fv
  | .int i, .int j => if CMul i j then some (.v (.int (i * j))) else none
  | .lst ds, .int k => if (-(2 ^ 63) ≤ k ∧ k < 2 ^ 63) ∧ ds.length * k.toNat ≤ sizeLine then some (.f (List.replicate k.toNat ds).flatten) else none
  | _, _ => none
theorem RepAll.reps {ad : DA} {H : Hp} {vs : List V} {ds : List D} (r : RepAll K mg ad H vs ds) : ∀ n : Nat, RepAll K mg ad H (List.replicate n vs).flatten (List.replicate n ds).flatten
  | 0 => .nil
  | n + 1 => by rw [List.replicate_succ, List.replicate_succ, List.flatten_cons, List.flatten_cons]; exact r.app (RepAll.reps r n)
theorem ad_mulX : AdG (RpX K mg) K mg (rMulX K) mulX := by
  intro ad H g x y a b c dk rx ry e Q q
  unfold mulX at e
  split at e
  · cases rx; cases ry
    split at e
    · cases e; exact .inl ⟨_, _, rfl, rfl, by assumption, q _ _ (.refl _ _) dk (.int _)⟩
    · cases e
  · cases ry
    cases rx with
    | lst s r =>
      split at e
      · rename_i hl
        cases e
        exact .inr ⟨_, _, _, rfl, rfl, s, hl.1, by rw [r.len]; exact hl.2, fun p hp => q _ _ (Keep.upd hp) (dk.upd hp) ⟨p, _, rfl, hp, upd_same, (r.reps _).keep (Keep.upd hp) dk⟩⟩
      · cases e
  · cases e
end

/-! ### a draw -/
/-- a new number in place, if the present one is used up -/
def fill (g : G) : G := if g.cur = 0 then
    let n := g.at_ + 1
    let c := if n < g.cells.length then (g.cells[n.toNat]?).getD 0 else 0
    if c = 0 then ⟨g.cells, n, (g.seed * 48271 + 11) % 2147483647, (g.seed * 48271 + 11) % 2147483647⟩ else ⟨g.cells, n, c, g.seed⟩
  else g
def okN (m : Int) : Prop := 0 < m ∧ m.natAbs.log2 < 9000
instance (m : Int) : Decidable (okN m) := inferInstanceAs (Decidable (_ ∧ _))
def mTake : MT := fun ds g => match ds with
  | [.draw, .int m] => if okN m ∧ -1 ≤ g.at_ then .ok (.int ((fill g).cur % m)) ⟨(fill g).cells, (fill g).at_, (fill g).cur / m, (fill g).seed⟩ else .bad
  | _ => .bad
/-- the same, as the laws of a draw ask it -/
theorem mTake_ok {g : G} {m : Int} (h : okN m) (hg : -1 ≤ g.at_) : ∃ (n : Int) (g' : G), mTake [.draw, .int m] g = .ok (.int n) g' ∧ 0 ≤ n ∧ n < m ∧ -1 ≤ g'.at_ := by
  refine ⟨_, _, if_pos ⟨h, hg⟩, Int.emod_nonneg _ (by have := h.1; omega), Int.emod_lt_of_pos _ h.1, ?_⟩
  show -1 ≤ (fill g).at_
  unfold fill
  by_cases h1 : g.cur = 0
  · rw [if_pos h1]
    dsimp only
    generalize (if g.at_ + 1 < g.cells.length then (g.cells[(g.at_ + 1).toNat]?).getD 0 else 0) = c
    by_cases h2 : c = 0
    · rw [if_pos h2]; show -1 ≤ g.at_ + 1; omega
    · rw [if_neg h2]; show -1 ≤ g.at_ + 1; omega
  · rw [if_neg h1]; exact hg
section
variable {K : PySem.W.Frag} {mg : Str → Option Value}
theorem iteT' {c : Bool} {A B : Prop} (h : c = true) (a : A) : if c = true then A else B := by rw [if_pos h]; exact a
theorem iteF' {c : Bool} {A B : Prop} (h : c = false) (b : B) : if c = true then A else B := by rw [if_neg (by rw [h]; decide)]; exact b
abbrev dIx (K : PySem.W.Frag) (k : Int) : TE := tOp (rIx K) (tVar 0) (tC (.int k))
abbrev dPut (k : Int) : TG := gSub (tVar 0) (tC (.int k)) rSetL
abbrev rLn (K : PySem.W.Frag) : List V → Hp → VK → Prop := fun xs H Q => ∃ x n, xs = [x] ∧ LenV K x H n ∧ Q (.int n) H
abbrev rIn1 : List V → Hp → VK → Prop := fun xs H Q => (∃ i, xs = [.int i] ∧ Q (.int i) H) ∨ ∃ k, xs = [.bl k] ∧ Q (.int (if k then 1 else 0)) H
abbrev rMd : R2 := rI (fun _ j => 0 < j) fun i j => .int (i % j)
abbrev rPl : R2 := rI0 fun i j => .int (i + j)
abbrev rMl : R2 := rI CMul fun i j => .int (i * j)
def t1 (K : PySem.W.Frag) : TS := tAsg (tOp rPl (dIx K 1) (tC (.int 1))) (dPut 1)
def t2 (K : PySem.W.Frag) : TS := tIfS (tB (tLt (dIx K 1) (tCB (rLn K) (tCons (dIx K 0) tNil)))) (tAsg (tOp (rIx K) (dIx K 0) (dIx K 1)) (dPut 2)) tNext
def t3 (K : PySem.W.Frag) : TS := tIfS (tB (tEqI (dIx K 2) (tC (.int 0)))) (tSeq (tAsg (tOp rMd (tCB rIn1 (tCons (tOp rPl (tOp rMl (dIx K 3) (tC (.int 48271))) (tC (.int 11))) tNil)) (tC (.int 2147483647))) (dPut 3)) (tAsg (dIx K 3) (dPut 2))) tNext
def t4 (K : PySem.W.Frag) : TS := tIfS (tB (tEqI (dIx K 2) (tC (.int 0)))) (tSeq (t1 K) (tSeq (t2 K) (t3 K))) tNext
def takeT (K : PySem.W.Frag) : TS := tSeq (t4 K) (tSeq (tAsg (tOp rMd (tCB rIn1 (tCons (dIx K 2) tNil)) (tVar 1)) (gName 2)) (tSeq (tAsg (tOp (rI CDivW fun i j => .int (i / j)) (dIx K 2) (tVar 1)) (dPut 2)) (tRet (tVar 2))))

variable {ad : DA} {H : Hp} {σ : St} {g : G} {D : Ends}
def Dr (ad : DA) (σ : St) : Prop := σ[0]? = some (some (.ref ad.ad))
theorem dw_ix (hd : DrawOk ad H g) (hs : Dr ad σ) {k : Nat} {v : V} {Q : VK} (e : [V.ref ad.ac, .int g.at_, .int g.cur, .int g.seed][k]? = some v) (q : Q v H) : dIx K (k : Int) σ H Q :=
  ⟨_, hs, .inl ⟨ad.ad, _, _, v, rfl, rfl, .inl (.inl hd.1), atI_nat e, q⟩⟩
theorem dw_put (hd : DrawOk ad H g) (hs : Dr ad σ) {k : Nat} {v : V} {Q : St → Hp → Prop} (hk : k < 4) (q : Q σ (upd H ad.ad (.lst ([V.ref ad.ac, .int g.at_, .int g.cur, .int g.seed].set k v)))) : dPut (k : Int) v σ H Q :=
  ⟨_, hs, ad.ad, _, (k : Int), k, rfl, rfl, hd.1, by unfold ixN; rw [if_pos (by omega), if_pos (by simp only [List.length_cons, List.length_nil]; omega)]; simp, q⟩
theorem dk_put {vs : List V} {g' : G} (hd : DrawOk ad H g) (ec : g'.cells = g.cells) (e : vs = [V.ref ad.ac, .int g'.at_, .int g'.cur, .int g'.seed]) : DrawOk ad (upd H ad.ad (.lst vs)) g' ∧ Keep ad H (upd H ad.ad (.lst vs)) := by
  obtain ⟨h1, oc, h2⟩ := hd
  subst e
  refine ⟨⟨upd_same, oc, ?_⟩, fun a o e n => by rw [upd_ne n]; exact e⟩
  rw [upd_ne (ne_of h2 h1 (by intro z; cases z)), ec]
  exact h2
theorem t1_run (hd : DrawOk ad H g) (hs : Dr ad σ) (q : ∀ H', Keep ad H H' → DrawOk ad H' ⟨g.cells, g.at_ + 1, g.cur, g.seed⟩ → D.nx σ H') : t1 K D σ H :=
  dw_ix (k := 1) hd hs rfl ⟨_, _, rfl, rfl, dw_put (k := 1) hd hs (by omega) (by
    obtain ⟨d', k'⟩ := dk_put (g' := ⟨g.cells, g.at_ + 1, g.cur, g.seed⟩) hd rfl rfl
    exact q _ k' d')⟩
theorem t2_run (hd : DrawOk ad H g) (hs : Dr ad σ) (h0 : 0 ≤ g.at_) (hz : g.cur = 0) (q : ∀ H', Keep ad H H' → DrawOk ad H' ⟨g.cells, g.at_, if g.at_ < g.cells.length then (g.cells[g.at_.toNat]?).getD 0 else 0, g.seed⟩ → D.nx σ H') : t2 K D σ H := by
  obtain ⟨o, hc⟩ := hd.2
  have hl : ((g.cells.map V.int).length : Int) = g.cells.length := by rw [List.length_map]
  refine dw_ix (k := 1) hd hs rfl (dw_ix (k := 0) hd hs rfl ⟨_, _, rfl, .inl ⟨_, .inl (.inr ⟨o, hc⟩), rfl⟩, _, _, rfl, rfl, _, rfl, ?_⟩)
  by_cases h : g.at_ < g.cells.length
  · rw [if_pos h] at q
    refine iteT' (decide_eq_true (by rw [hl]; exact h)) ?_
    obtain ⟨n, hn⟩ : ∃ n : Nat, g.at_ = n := ⟨g.at_.toNat, by omega⟩
    have hlt : n < g.cells.length := by omega
    refine dw_ix (k := 0) hd hs rfl (dw_ix (k := 1) hd hs rfl (.inl ⟨ad.ac, _, g.at_, V.int (g.cells[n]), rfl, rfl, .inl (.inr ⟨o, hc⟩), ?_, ?_⟩))
    · rw [hn]; exact atI_nat (by rw [List.getElem?_map, List.getElem?_eq_getElem hlt]; rfl)
    · refine dw_put (k := 2) hd hs (by omega) ?_
      have e : (g.cells[g.at_.toNat]?).getD 0 = g.cells[n] := by rw [hn, Int.toNat_natCast, List.getElem?_eq_getElem hlt]; rfl
      obtain ⟨d', k'⟩ := dk_put (g' := ⟨g.cells, g.at_, g.cells[n], g.seed⟩) hd rfl rfl
      rw [e] at q
      exact q _ k' d'
  · rw [if_neg h, ← hz] at q
    refine iteF' (decide_eq_false (by rw [hl]; exact h)) (q H (.refl _ _) hd)
theorem mul_small {i j : Int} (h : j.natAbs < 2 ^ 16) : CMul i j := by
  unfold CMul
  right
  have : j.natAbs < 2 ^ 64 := Nat.lt_of_lt_of_le h (by decide)
  omega
theorem t3_run (hd : DrawOk ad H g) (hs : Dr ad σ) (q : ∀ H', Keep ad H H' → DrawOk ad H' (if g.cur = 0 then ⟨g.cells, g.at_, (g.seed * 48271 + 11) % 2147483647, (g.seed * 48271 + 11) % 2147483647⟩ else g) → D.nx σ H') : t3 K D σ H := by
  refine dw_ix (k := 2) hd hs rfl ⟨_, _, rfl, rfl, _, rfl, ?_⟩
  by_cases h : g.cur = 0
  · rw [if_pos h] at q
    refine iteT' (decide_eq_true h) ?_
    refine dw_ix (k := 3) hd hs rfl ⟨_, _, rfl, rfl, mul_small (by decide), _, _, rfl, rfl, .inl ⟨_, rfl, _, _, rfl, rfl, (by decide : (0 : Int) < 2147483647), ?_⟩⟩
    refine dw_put (k := 3) hd hs (by omega) ?_
    obtain ⟨d1, k1⟩ := dk_put (g' := ⟨g.cells, g.at_, g.cur, (g.seed * 48271 + 11) % 2147483647⟩) hd rfl rfl
    refine dw_ix (k := 3) d1 hs rfl (dw_put (k := 2) d1 hs (by omega) ?_)
    obtain ⟨d2, k2⟩ := dk_put (g' := ⟨g.cells, g.at_, (g.seed * 48271 + 11) % 2147483647, (g.seed * 48271 + 11) % 2147483647⟩) d1 rfl rfl
    exact q _ (k1.trans k2) d2
  · rw [if_neg h] at q
    exact iteF' (decide_eq_false h) (q H (.refl _ _) hd)
theorem t4_run (hd : DrawOk ad H g) (hs : Dr ad σ) (h0 : -1 ≤ g.at_) (q : ∀ H', Keep ad H H' → DrawOk ad H' (fill g) → D.nx σ H') : t4 K D σ H := by
  refine dw_ix (k := 2) hd hs rfl ⟨_, _, rfl, rfl, _, rfl, ?_⟩
  unfold fill at q
  by_cases h : g.cur = 0
  · rw [if_pos h] at q
    refine iteT' (decide_eq_true h) ?_
    refine t1_run hd hs fun H1 k1 d1 => t2_run d1 hs (by simp only; omega) h fun H2 k2 d2 => t3_run d2 hs fun H3 k3 d3 => q H3 (k1.trans (k2.trans k3)) ?_
    exact d3
  · rw [if_neg h] at q
    exact iteF' (decide_eq_false h) (q H (.refl _ _) hd)
theorem take_run {vs : List V} {E : XK} (h : spD K mg 2 mTake vs H D.rt E) : takeT K D (start ["draw", "many", "found"] vs) H := by
  obtain ⟨hl, ad, ds, g, r, dk, po⟩ := h
  unfold mTake at po
  split at po
  · rename_i m
    obtain ⟨x, y, rfl, rx, ry⟩ := r.two
    cases rx; cases ry
    split at po
    · rename_i hm
      have s0 : Dr ad [some (.ref ad.ad), some (V.int m), none] := rfl
      refine t4_run dk s0 hm.2 fun H1 k1 d1 => ?_
      refine dw_ix (k := 2) d1 s0 rfl (.inl ⟨_, rfl, ?_⟩)
      refine ⟨.int m, rfl, _, _, rfl, rfl, hm.1.1, ?_⟩
      have s1 : Dr ad [some (.ref ad.ad), some (V.int m), some (.int ((fill g).cur % m))] := rfl
      refine dw_ix (k := 2) d1 s1 rfl ⟨.int m, rfl, _, _, rfl, rfl, hm.1, dw_put (k := 2) d1 s1 (by omega) ?_⟩
      obtain ⟨d2, k2⟩ := dk_put (g' := ⟨(fill g).cells, (fill g).at_, (fill g).cur / m, (fill g).seed⟩) d1 rfl rfl
      exact ⟨_, rfl, po _ _ (k1.trans k2) d2 (.int _)⟩
    · exact po.elim
  · exact po.elim
end

/-! the law's drawing list, made -/
section
variable {K : PySem.W.Frag} {mg : Str → Option Value}
abbrev rAb : List V → Hp → VK → Prop := fun xs H Q => ∃ i, xs = [.int i] ∧ Q (.int (if i < 0 then -i else i)) H
abbrev eAb : TE := tCB rAb (tCons (tCB rIn1 (tCons (tVar 2) tNil)) tNil)
def drawT (K : PySem.W.Frag) : TS := tSeq (tAsg (tC (.int 7)) (gName 1))
  (tSeq (tFor (iSeq K (tVar 0)) (gName 2) (tAsg (tOp rMd (tCB rIn1 (tCons (tOp rPl (tOp rPl (tOp rMl (tVar 1) (tC (.int 48271))) (tOp rMd eAb (tC (.int 65521)))) (tC (.int 1))) tNil)) (tC (.int 2147483647))) (gName 1)))
    (tRet (tLst (tCons (tLc (iSeq K (tVar 0)) (gName 2) tYes eAb [2]) (tCons (tUn (rU fun i => .int (-i)) (tC (.int 1))) (tCons (tC (.int 0)) (tCons (tVar 1) tNil)))))))
/-- a new list of four: the cells' sizes, -1, 0, a number -/
def spDraw (K : PySem.W.Frag) : Sp := fun vs H Q _ => ∃ (a : Addr) (ns : List Int), vs = [.ref a] ∧ SqL K H a (ns.map V.int) ∧ ns.length ≤ 1000 ∧
  ∀ (ac ar : Addr) (cs : List Int) (seed : Int) (H' : Hp), (∀ b o, H b = some o → H' b = some o) → H ac = none → H ar = none → ac ≠ ar → H' ac = some (.lst (cs.map V.int)) → H' ar = some (.lst [.ref ac, .int (-1), .int 0, .int seed]) → Q (.ref ar) H'
theorem sqL_up {H H' : Hp} {a : Addr} {xs : List V} (h : ∀ b o, H b = some o → H' b = some o) (s : SqL K H a xs) : SqL K H' a xs := by
  rcases s with (s | ⟨o, s⟩) | s
  · exact .inl (.inl (h _ _ s))
  · exact .inl (.inr ⟨o, h _ _ s⟩)
  · exact .inr s
theorem ab_run {i : Int} {σ : St} {H : Hp} {Q : VK} (e : σ[2]? = some (some (.int i))) (q : Q (.int (if i < 0 then -i else i)) H) : eAb σ H Q := ⟨_, e, .inl ⟨i, rfl, i, rfl, q⟩⟩
theorem draw_run {vs : List V} {H : Hp} {D : Ends} {E : XK} (h : spDraw K vs H D.rt E) : drawT K D (start ["script", "seed", "cell"] vs) H := by
  obtain ⟨a, ns, rfl, hs, hz, q⟩ := h
  have hl : (ns.map V.int).length = ns.length := List.length_map _
  refine ⟨.ref a, rfl, a, rfl, .inl ⟨_, hs, fun _ => ?_⟩⟩
  refine for_it (walk_list (K := K) (a := a) (xs := ns.map V.int)) (fun _ σ H' => H' = H ∧ ∃ (sd : Int) (y : Option V), σ = [some (.ref a), some (.int sd), y]) ⟨rfl, 7, none, rfl⟩ (fun i σ H' _ ⟨e, _⟩ => by rw [e]; exact hs) (fun i x σ H1 H2 hi ⟨e, sd, y, es⟩ ⟨eh, ex⟩ => ?_) (fun σ H' ⟨e, sd, y, es⟩ => ?_)
  · subst es eh
    have e := e.symm
    subst e
    obtain ⟨n, hn⟩ : ∃ n, x = V.int n := by
      rw [List.getElem?_map] at ex
      cases q2 : ns[i]? with
      | none => rw [q2] at ex; cases ex
      | some n => rw [q2] at ex; cases ex; exact ⟨n, rfl⟩
    subst hn
    refine ⟨_, rfl, _, _, rfl, rfl, mul_small (by decide), ab_run rfl ⟨_, _, rfl, rfl, (by decide : (0 : Int) < 65521), _, _, rfl, rfl, _, _, rfl, rfl, .inl ⟨_, rfl, _, _, rfl, rfl, (by decide : (0 : Int) < 2147483647), rfl, _, _, rfl⟩⟩⟩
  · subst es
    have e := e.symm
    subst e
    refine ⟨.ref a, rfl, a, rfl, .inl ⟨_, hs, fun _ => fun Dd hD => ?_⟩⟩
    refine lc_it (walk_list (K := K) (a := a) (xs := ns.map V.int)) (fun i H2 => (∀ b o, H b = some o → H2 b = some o) ∧ ∃ cs : List Int, cs.length ≤ i ∧ H2 Dd = some (.lst (cs.map V.int))) ⟨fun b o e => by rw [upd_ne (ne_of_none e hD)]; exact e, [], Nat.le_refl _, upd_same⟩ (fun i H2 _ ⟨k, _⟩ => sqL_up k hs) (fun i x H2 H3 hi ⟨k, cs, hc, e⟩ ⟨eh, ex⟩ => ?_) (fun H2 ⟨k, cs, hc, e⟩ => ?_)
    · subst eh
      obtain ⟨n, hn⟩ : ∃ n, x = V.int n := by
        rw [List.getElem?_map] at ex
        cases q2 : ns[i]? with
        | none => rw [q2] at ex; cases ex
        | some n => rw [q2] at ex; cases ex; exact ⟨n, rfl⟩
      subst hn
      refine ⟨rfl, ?_⟩
      unfold tYes
      dsimp only
      rw [if_pos rfl]
      refine ab_run rfl ⟨_, e, ?_, fun b o q2 => ?_, cs ++ [if n < 0 then -n else n], ?_, ?_⟩
      · rw [List.length_map]
        rw [hl] at hi
        exact small1000 (by omega)
      · rw [upd_ne (ne_of_none q2 hD)]; exact k b o q2
      · rw [List.length_append]; show cs.length + 1 ≤ i + 1; omega
      · rw [upd_same, List.map_append]; rfl
    · refine ⟨_, rfl, _, rfl, ?_⟩
      refine ⟨Nat.le_trans (by decide : 4 ≤ 1000) (by rw [sizeLine_eq]; decide), fun p hp => ?_⟩
      have nD : Dd ≠ p := fun z => by rw [z, hp] at e; cases e
      have hp0 : H p = none := by
        cases qq : H p with
        | none => rfl
        | some o => rw [k p o qq] at hp; cases hp
      exact q Dd p cs sd _ (fun b o q2 => by rw [upd_ne (ne_of_none (k b o q2) hp)]; exact k b o q2) hD hp0 nD (by rw [upd_ne nD]; exact e) upd_same
end
/-! ### draw = _law_draw(script) -/
section
variable {X : Cx} {W : WX} {k k' : Nat} {p p2 pos : Pos}
structure DrawFn (P : Program) (w : World) (K : PySem.W.Frag) (mg : Str → Option Value) (base : Heap) (k : Nat) : Prop where
  ex : ∃ (f : Addr) (fd : FuncData), FnOk P w K mg base (L2.CX P w) k f fd ["script"] (spDraw K) ∧ mg "_law_draw" = some (.ref f) ∧ PySem.W.keepIn K (.ref f) = true ∧ L2.Binds K fd ["script"] []
/-- .. as an expression: its list of cells laid by -/
def tDrawn (K : PySem.W.Frag) : TE := fun σ H Q => ∃ (a : Addr) (ns : List Int), σ[0]? = some (some (.ref a)) ∧ SqL K H a (ns.map V.int) ∧ ns.length ≤ 1000 ∧
  ∀ (ad : DA) (g : G) (H' : Hp), H ad.ad = none → Keep ad H H' → DrawOk ad H' g → -1 ≤ g.at_ → Q (.ref ad.ad) H'
theorem pe_drawn (F : DrawFn X.prog X.w X.K X.mg X.base k) (hr : Room k' X.A) (hk : k ≤ k') (hg : Gl X "_law_draw") (tk : Takes X W) (h0 : X.N[0]? = some ("script" : Str)) (hv : Vis X.env.scope "script")
    (he : starEach [.Name "script" p2] X.env = (false, eval (.Name "script" p2) X.env) :: starEach [] X.env := by rfl) (hpl : (backTo pos (starEach [] X.env)).any (·.1) = false := by rfl) : PE X (.Call (.Name "_law_draw" p) [.Name "script" p2] [] pos) (tDrawn X.K) := by
  obtain ⟨f, fd, Fn, hm, hkp, hb⟩ := F.ex
  have base := pe_callS (E := WE W) (p := p) (pos := pos) Fn (hr.mono hk) hg hm hkp hb (fun σ => passAt tk σ) (pa_cons (pe_var (pos := p2) h0 hv) pa_nil he) (by decide) he hpl
  refine ⟨fun pins s σ H Q I ⟨a, ns, e0, hs, hz, q⟩ => ?_⟩
  refine thn (base.run pins s σ H (fun v H1 => ∃ (ac ar : Addr) (cs : List Int) (sd : Int), v = .ref ar ∧ (∀ b o, H b = some o → H1 b = some o) ∧ H ac = none ∧ H ar = none ∧ ac ≠ ar ∧ H1 ac = some (.lst (cs.map V.int)) ∧ H1 ar = some (.lst [.ref ac, .int (-1), .int 0, .int sd])) I ⟨_, e0, a, ns, rfl, hs, hz, fun ac ar cs sd H' h1 h2 h3 h4 h5 h6 => ⟨ac, ar, cs, sd, rfl, h1, h2, h3, h4, h5, h6⟩⟩) fun u s1 ⟨v, H1, I1, r, ac, ar, cs, sd, ev, k1, nc, nr, ne, ec, er⟩ => ?_
  subst ev
  have ca : ∀ {b o}, H1 b = some o → b ≠ ac → fzSet (fun c => c = ac) s1.heap H1 b = some o := fun {b o} e n => by rw [fz_no (S := fun c => c = ac) n]; exact e
  obtain ⟨ob, eo⟩ : ∃ ob, s1.heap.get? ac = some ob := objOk_get (I1.hok ac _ ec)
  refine ⟨.ref ar, fzSet (fun c => c = ac) s1.heap H1, freeze I1 _, r, q ⟨ar, ac⟩ ⟨cs, -1, 0, sd⟩ _ nr (fun b o e n => ?_) ⟨ca er (Ne.symm ne), ob, fz_yes rfl ec eo⟩ (Int.le_refl _)⟩
  exact ca (k1 b o e) fun z => by rw [z, nc] at e; cases e
end
/-- a law's body behind its draws -/
def lawT (K : PySem.W.Frag) (mg : Str → Option Value) (H0 : Hp) (W : WX) (N : Nat) (b : SB) : TS := tSeq (tAsg (tDrawn K) (gName 1)) (rdS K mg H0 W b)
/-- script of at most 63; what is wanted is True -/
def spLaw (K : PySem.W.Frag) : Sp := fun vs H Q _ => ∃ (a : Addr) (ns : List Int), vs = [.ref a] ∧ SqL K H a (ns.map V.int) ∧ ns.length ≤ 63 ∧ ∀ H', Q (.bl true) H'
theorem law_run {K : PySem.W.Frag} {mg : Str → Option Value} {W : WX} {N : List Str} {b : SB} {vs : List V} {H : Hp} {E : XK} {rt : VK} (hN : 2 ≤ N.length)
    (hb : ∀ g : G, -1 ≤ g.at_ → ∃ g', b ((List.replicate N.length none).set 1 (some (.val .draw))) g = .ret (.bl true) g') (h : spLaw K vs H rt E) : lawT K mg H W N.length b { nx := fun _ H' => rt .non H', rt := rt } (start N vs) H := by
  obtain ⟨a, ns, rfl, hs, hz, q⟩ := h
  refine ⟨a, ns, by simp [L2.start], hs, by omega, fun ad g H' n k dk hg => ?_⟩
  obtain ⟨g', e⟩ := hb g hg
  have hlen : (start N [V.ref a]).length = N.length := by simp only [L2.start, List.length_append, List.length_map, List.length_replicate, List.length_cons, List.length_nil]; omega
  have hl : 1 < (start N [V.ref a]).length := by omega
  refine ⟨ad, (List.replicate N.length none).set 1 (some (.val .draw)), g, ⟨?_, dk, ?_⟩⟩
  · have get : ∀ {i : Nat} {x}, ((List.replicate N.length (none : Option SV)).set 1 (some (.val .draw)))[i]? = some (some x) → i = 1 ∧ x = .val .draw := fun {i x} e => by
      by_cases hi : 1 = i
      · subst hi
        rw [List.getElem?_set_self (by simp; omega)] at e
        cases e
        exact ⟨rfl, rfl⟩
      · rw [List.getElem?_set_ne hi, List.getElem?_replicate] at e
        split at e <;> cases e
    refine ⟨fun _ => [], k, fun i d e => ?_, fun i a m => (nomatch m), fun i j a m => (nomatch m), fun _ => .nil, by rw [List.length_set, List.length_set, List.length_replicate, hlen]⟩
    obtain ⟨rfl, e'⟩ := get e
    cases e'
    exact ⟨_, List.getElem?_set_self hl, .draw⟩
  · rw [e]
    intro v H2 _ _ _ r
    cases r
    exact q H2

/-! what the top has written, as facts; defs by them -/
/-- a def of the program: its object, its names -/
structure FnF (K : PySem.W.Frag) (mg : Str → Option Value) (x : Str) (st : Stmt) (ps : List Str) : Prop where
  ex : ∃ (f : Addr) (fd : FuncData), Fun K x x st f fd ∧ mg x = some (.ref f) ∧ L2.Binds K fd ps []
theorem fnF {K : PySem.W.Frag} {mg : Str → Option Value} {h : Heap} {x : Str} {st : Stmt} {ps : List Str} {f : Addr} {oc : Value} {od an : Option Addr} {osl : Array (Option Value)} {kV doc pm cdv ct : Value} (I : K.In h) (G : h.Ns mainGlobals mg) (a : PySem.W.nsIn K mainGlobals x = some (some (.ref f)))
    (l : K.lookup f = some ⟨oc, od, .func (PySem.W.fnOf x x (defArgs st) (defBody st) (defScope st) .none kV doc pm an cdv ct), osl⟩) (c : PySem.W.codeIn K cdv x = true) (k : PySem.W.keepIn K (.ref f) = true)
    (hb : ∀ (kV doc pm : Value) (an : Option Addr) (cdv ct : Value) (us : List Value), us.length = ps.length → bindArgs (PySem.W.fnOf x x (defArgs st) (defBody st) (defScope st) .none kV doc pm an cdv ct) ⟨us, []⟩ = pure (ps.zip us)) : FnF K mg x st ps :=
  ⟨f, _, fun_mk l c k, PySem.W.mg_of I G a, (fun_mk l c k).binds hb⟩
/-- a module's constant -/
structure GlF (K : PySem.W.Frag) (mg : Str → Option Value) (x : Str) (d : D) : Prop where
  ex : ∃ (v : V) (u : Value), mg x = some u ∧ L2.RelV v u ∧ ∀ ad H, Rep K mg ad H v d
/-- as the written part holds it -/
inductive RepK (K : PySem.W.Frag) : Value → D → Prop
  | non : RepK K .none .non
  | bl (b : Bool) : RepK K (.bool b) (.bl b)
  | int (i : Int) (t : Tok) : RepK K (.int i t) (.int i)
  | str (x : Str) (t : Tok) : RepK K (.str x t) (.str x)
  | tup {a : Addr} {its : Array Value} {n : Nat} {sl : Array (Option Value)} {ds : List D} : K.lookup a = some ⟨.type "tuple", none, .seq its n, sl⟩ → its.size ≤ sizeLine → (hl : its.size = ds.length) → (∀ i (h : i < its.size) (h' : i < ds.length), RepK K its[i] ds[i]) → RepK K (.ref a) (.tup ds)
theorem repK_rel {K : PySem.W.Frag} {mg : Str → Option Value} {u : Value} {d : D} (r : RepK K u d) : ∃ v, L2.RelV v u ∧ ∀ ad H, Rep K mg ad H v d := by
  induction r with
  | non => exact ⟨.non, rfl, fun _ _ => .non⟩
  | bl b => exact ⟨.bl b, rfl, fun _ _ => .bl b⟩
  | int i t => exact ⟨.int i, ⟨t, rfl⟩, fun _ _ => .int i⟩
  | str x t => exact ⟨.str x, ⟨t, rfl⟩, fun _ _ => .str x⟩
  | @tup a its n sl ds h hz hl hr ih =>
    have all : ∀ (us : List Value) (es : List D), us.length = es.length → (∀ i (h : i < us.length) (h' : i < es.length), ∃ v, L2.RelV v us[i] ∧ ∀ ad H, Rep K mg ad H v es[i]) → ∃ vs, Vals vs us ∧ ∀ ad H, RepAll K mg ad H vs es := by
      intro us
      induction us with
      | nil => intro es hl _; cases es with
        | nil => exact ⟨[], .nil, fun _ _ => .nil⟩
        | cons _ _ => cases hl
      | cons u us ihu =>
        intro es hl hi
        cases es with
        | nil => cases hl
        | cons e es =>
          obtain ⟨v, h1, h2⟩ := hi 0 (by simp) (by simp)
          obtain ⟨vs, h3, h4⟩ := ihu es (by simpa using hl) fun i h h' => hi (i + 1) (by simpa using h) (by simpa using h')
          exact ⟨v :: vs, .cons h1 h3, fun ad H => .cons (h2 ad H) (h4 ad H)⟩
    obtain ⟨vs, h1, h2⟩ := all its.toList ds (by simpa using hl) fun i h h' => by simpa using ih i (by simpa using h) h'
    exact ⟨.ref a, rfl, fun ad H => .tup (.inr ⟨.inr ⟨_, its, n, h, rfl, rfl, hz, h1⟩, _, h, rfl, rfl⟩) (h2 ad H)⟩
/-- item by item -/
inductive RepKs (K : PySem.W.Frag) : List Value → List D → Prop
  | nil : RepKs K [] []
  | cons {u : Value} {us : List Value} {d : D} {ds : List D} : RepK K u d → RepKs K us ds → RepKs K (u :: us) (d :: ds)
theorem RepKs.len {K : PySem.W.Frag} : ∀ {us : List Value} {ds : List D}, RepKs K us ds → us.length = ds.length
  | _, _, .nil => rfl
  | _, _, .cons _ r => by rw [List.length_cons, List.length_cons, RepKs.len r]
theorem RepKs.get {K : PySem.W.Frag} : ∀ {us : List Value} {ds : List D}, RepKs K us ds → ∀ i (h : i < us.length) (h' : i < ds.length), RepK K us[i] ds[i]
  | _, _, .cons a _, 0, _, _ => a
  | _, _, .cons _ r, i + 1, h, h' => RepKs.get r i (by simpa using h) (by simpa using h')
theorem repK_tup {K : PySem.W.Frag} {a : Addr} {us : List Value} {n : Nat} {sl : Array (Option Value)} {ds : List D} (h : K.lookup a = some ⟨.type "tuple", none, .seq us.toArray n, sl⟩) (hz : ds.length ≤ 1000) (r : RepKs K us ds) : RepK K (.ref a) (.tup ds) :=
  .tup h (Nat.le_of_lt (small1000 (by simpa [r.len] using hz))) (by simpa using r.len) fun i h h' => by simpa using r.get i (by simpa using h) h'
theorem glF {K : PySem.W.Frag} {mg : Str → Option Value} {h : Heap} {x : Str} {u : Value} {d : D} (I : K.In h) (G : h.Ns mainGlobals mg) (a : PySem.W.nsIn K mainGlobals x = some (some u)) (r : RepK K u d) : GlF K mg x d := by
  obtain ⟨v, h1, h2⟩ := repK_rel (mg := mg) r
  exact ⟨v, u, PySem.W.mg_of I G a, h1, h2⟩
/-- an exception's class of one's own -/
structure ExF (K : PySem.W.Frag) (mg : Str → Option Value) (x : Str) : Prop where
  ex : ∃ C, ExC K mg x C
/-- which of them an except clause takes -/
structure SubF (K : PySem.W.Frag) (mg : Str → Option Value) (x : Str) (sub : Str → Option Bool) : Prop where
  ex : ∃ C, mg x = some (.ref C) ∧ ∀ y v, sub y = some v → ∀ A, mg y = some (.ref A) → PySem.W.exmOne K (.ref A) (.ref C) = some v
theorem exm_mk {K : PySem.W.Frag} {S T : Addr} {b : Bool} (e1 : PySem.W.subIn K (.ref T) (.type "BaseException") = some true) (e2 : PySem.W.isClsIn K T = true) (e3 : PySem.W.typeIn K (.ref T) = some (.type "type")) (e4 : PySem.W.subIn K (.ref S) (.ref T) = some b) : PySem.W.exmOne K (.ref S) (.ref T) = some b := by
  have c1 : (PySem.W.subIn K (.ref T) (.type "BaseException") == some true) = true := by rw [e1]; rfl
  have c2 : (PySem.W.clsIn K T).isSome = true := e2
  show (if (PySem.W.subIn K (.ref T) (.type "BaseException") == some true) = true then (if ((PySem.W.clsIn K T).isSome && PySem.W.typeIn K (.ref T) == some (Value.type "type")) = true then PySem.W.subIn K (.ref S) (.ref T) else none) else none) = some b
  rw [if_pos c1, if_pos (by rw [c2, e3]; rfl), e4]
abbrev eF (t : XT) : ET := fun S g => (t S g).map Fv.d
abbrev xV (t : ET) : XT := fun S g => (t S g).map Fv.v
abbrev eCall0 (m : MT) : ET := fun _ g => match m [] g with | .ok d g' => .ok d g' | _ => .bad
abbrev eCalls (n : Nat) (m : MT) (ts : DSt → G → R (List D)) : ET := eCall (fun ds g => if ds.length = n then m ds g else .bad) ts
section
variable {X : Cx} {W : WX} {B : List Nat} {pos : Pos}
theorem de_globF {x : Str} {d : D} (F : GlF X.K X.mg x d) (hg : Gl X x := by rfl) (hd : (x == ("__debug__" : Str)) = false := by decide) : PE X (.Name x pos) (eE X.K X.mg W [] (eC d)) := by
  obtain ⟨v, u, hm, r, rp⟩ := F.ex
  exact de_glob hg hm r rp hd
theorem ds_raiseF {x m : Str} {j : Nat} {p p2 pos2 : Pos} (hc : X.calm = true) (tk : Takes X W) (F : ExF X.K X.mg x) (hg : Gl X x := by rfl) (hdb : (x == ("__debug__" : Str)) = false := by decide) : SD X W (.Raise (some (.Call (.Name x p) [.Constant (.str m) j p2] [] pos)) none pos2) (sRaise x) := by
  obtain ⟨C, T⟩ := F.ex
  exact ds_raise hc tk T hg hdb
theorem ds_tryF {x : Str} {sub : Str → Option Bool} {body suite : List Stmt} {b₀ : Stmt} {np pos' : Pos} {b bs : SB} (hs : X.stack = X.env :: X.outer) (hf : X.env.frame = some X.env.locals) (F : SubF X.K X.mg x sub) (tk : Takes X W)
    (hb : ∀ (W' : WX) (pn : List (Addr × Obj)) (xe : Value → Shared → Prop), Takes (X.tr pn xe) W' → PassesOwn (model X.prog X.w) X.A X.env xe → SDs (X.tr pn xe) W' body b)
    (hsu : ∀ (a : Addr) (oe : Obj) (pn : List (Addr × Obj)), SDs (X.suite a ((a, oe) :: pn)) W0 (b₀ :: suite) bs) (hg : Gl X x := by rfl) (hdb : (x == ("__debug__" : Str)) = false := by decide) :
    SD X W (.Try body [.ExceptHandler (some (.Name x np)) none (b₀ :: suite) pos'] [] [] pos) (sTry sub b bs) := by
  obtain ⟨C, hm, hsub⟩ := F.ex
  exact ds_try hs hf ⟨hg, hdb, .inl hm⟩ tk hsub hb hsu
end
section
variable {P : Program} {w : World} {K : PySem.W.Frag} {mg : Str → Option Value} {base : Heap}
theorem okF {x : Str} {st : Stmt} {N ps : List Str} {k : Nat} {b : SB} (F : FnF K mg x st ps) (S : FnScope N ps (defScope st))
    (body : ∀ (f : Addr) (cdv : Value) (A : Around) (outer : List Env) (s : Shared) (H : Hp) (E : XK), Room k (A.deeper (envOfC x (defScope st) s.heap.objs.size f cdv)) →
      SDs (cxOf (L2.CX P w) P w K mg base N x (defScope st) f cdv A outer s H E) (fun cls d _ H => E cls d H) (defBody st) b) : DefOk P w K mg base x ps.length (runD N.length ps.length b) (k + 1) := by
  obtain ⟨f, fd, Fn, hm, hb⟩ := F.ex
  exact okD Fn S hm hb (body f)
theorem okTake {st : Stmt} (F : FnF K mg "_law_take" st ["draw", "many"]) (S : FnScope ["draw", "many", "found"] ["draw", "many"] (defScope st))
    (body : ∀ (f : Addr) (cdv : Value) (A : Around) (outer : List Env) (s : Shared) (H : Hp) (E : XK), PSs (cxOf (L2.CX P w) P w K mg base ["draw", "many", "found"] "_law_take" (defScope st) f cdv A outer s H E) (defBody st) (takeT K)) : DefOk P w K mg base "_law_take" 2 mTake 1 := by
  obtain ⟨f, fd, Fn, hm, hb⟩ := F.ex
  exact ⟨f, fd, _, rfl, Fn.okX S (fun vs H Q E h => h.1) (fun cdv A outer s H vs Q E hr h => ⟨_, body f cdv A outer s H E, take_run h⟩), hm, Fn.kp, hb⟩
theorem okDraw {st : Stmt} (F : FnF K mg "_law_draw" st ["script"]) (S : FnScope ["script", "seed", "cell"] ["script"] (defScope st))
    (body : ∀ (f : Addr) (cdv : Value) (A : Around) (outer : List Env) (s : Shared) (H : Hp) (E : XK), PSs (cxOf (L2.CX P w) P w K mg base ["script", "seed", "cell"] "_law_draw" (defScope st) f cdv A outer s H E) (defBody st) (drawT K)) : DrawFn P w K mg base 1 := by
  obtain ⟨f, fd, Fn, hm, hb⟩ := F.ex
  exact ⟨f, fd, Fn.okX S (fun vs H Q E h => by obtain ⟨a, ns, rfl, _⟩ := h; rfl) (fun cdv A outer s H vs Q E hr h => ⟨_, body f cdv A outer s H E, draw_run h⟩), hm, Fn.kp, hb⟩
theorem okLaw {st : Stmt} {N : List Str} {k : Nat} {b : SB} {f : Addr} {fd : FuncData} (Fn : Fun K "law" "law" st f fd) (S : FnScope N ["script"] (defScope st)) (hN : 2 ≤ N.length)
    (hb : ∀ g : G, -1 ≤ g.at_ → ∃ g', b ((List.replicate N.length none).set 1 (some (.val .draw))) g = .ret (.bl true) g')
    (body : ∀ (cdv : Value) (A : Around) (outer : List Env) (s : Shared) (H : Hp) (E : XK), Room k (A.deeper (envOfC "law" (defScope st) s.heap.objs.size f cdv)) → PSs (cxOf (L2.CX P w) P w K mg base N "law" (defScope st) f cdv A outer s H E) (defBody st) (lawT K mg H (fun cls d _ H => E cls d H) N.length b)) :
    FnOk P w K mg base (L2.CX P w) (k + 1) f fd ["script"] (spLaw K) :=
  Fn.okX S (fun vs H Q E h => by obtain ⟨a, ns, rfl, _⟩ := h; rfl) (fun cdv A outer s H vs Q E hr h => ⟨_, body cdv A outer s H E hr, law_run hN hb h⟩)
end
theorem hu64 {k : Nat} {A : Around} (hr : Room k A) : A.units + 70 < cLine := by have := hr.un; omega
theorem hu_64 {k : Nat} {A : Around} (hr : Room k A) : A.units + 64 < cLine := by have := hr.un; omega
theorem hu_65 {k : Nat} {A : Around} (hr : Room k A) : A.units + 65 < cLine := by have := hr.un; omega

/-! code that draws nothing; pure comprehensions -/
def UnR {α : Type} (r : G → R α) : Prop := (∃ a, ∀ g, r g = .ok a g) ∨ (∃ x, ∀ g, r g = .er x g) ∨ ∀ g, r g = .bad
abbrev UnT {α : Type} (t : DSt → G → R α) : Prop := ∀ S, UnR (t S)
abbrev UnM (m : MT) : Prop := ∀ ds, UnR (m ds)
def UnRS (r : G → RS) : Prop := (∃ S, ∀ g, r g = .nx S g) ∨ (∃ d, ∀ g, r g = .ret d g) ∨ (∃ S, ∀ g, r g = .bk S g) ∨ (∃ S, ∀ g, r g = .ct S g) ∨ (∃ x S, ∀ g, r g = .er x S g) ∨ ∀ g, r g = .bad
abbrev UnS (b : SB) : Prop := ∀ S, UnRS (b S)
section
variable {α β : Type}
theorem UnR.ok (a : α) : UnR fun g => .ok a g := .inl ⟨a, fun _ => rfl⟩
theorem UnR.bad : UnR fun _ => (.bad : R α) := .inr (.inr fun _ => rfl)
theorem UnR.bind {r : G → R α} {k : α → G → R β} (h : UnR r) (hk : ∀ a, UnR (k a)) : UnR fun g => (r g).bind k := by
  rcases h with ⟨a, h⟩ | ⟨x, h⟩ | h
  · have e : (fun g => (r g).bind k) = k a := funext fun g => by rw [h]; rfl
    rw [e]; exact hk a
  · exact .inr (.inl ⟨x, fun g => by dsimp only; rw [h]; rfl⟩)
  · exact .inr (.inr fun g => by dsimp only; rw [h]; rfl)
theorem UnR.map {r : G → R α} {f : α → β} (h : UnR r) : UnR fun g => (r g).map f := by
  rcases h with ⟨a, h⟩ | ⟨x, h⟩ | h
  · exact .inl ⟨f a, fun g => by dsimp only; rw [h]; rfl⟩
  · exact .inr (.inl ⟨x, fun g => by dsimp only; rw [h]; rfl⟩)
  · exact .inr (.inr fun g => by dsimp only; rw [h]; rfl)
theorem UnR.lift (o : Option α) : UnR (lift o) := by
  cases o with
  | none => exact .inr (.inr fun _ => rfl)
  | some a => exact .inl ⟨a, fun _ => rfl⟩
theorem UnR.ite {c : Prop} [Decidable c] {r s : G → R α} (h1 : UnR r) (h2 : UnR s) : UnR fun g => if c then r g else s g := by
  by_cases h : c
  · simpa only [if_pos h] using h1
  · simpa only [if_neg h] using h2
end
section
variable {α : Type} {t u v : ET} {x y : XT} {s r : BT} {ts : DSt → G → R (List D)} {us : DSt → G → R (List Fv)} {m : MT}
theorem un_var (i : Nat) : UnT (eVar i) := fun S => by
  unfold eVar
  cases S[i]? with
  | none => exact .bad
  | some z => cases z with
    | none => exact .bad
    | some d => exact .ok d
theorem un_c (d : D) : UnT (eC d) := fun _ => .ok d
theorem un_nil : UnT aNil := fun _ => .ok _
theorem un_cons (h1 : UnT t) (h2 : UnT ts) : UnT (aCons t ts) := fun S => (h1 S).bind fun a => (h2 S).bind fun b => .ok _
theorem un_xnil : UnT axNil := fun _ => .ok _
theorem un_xcons (h1 : UnT x) (h2 : UnT us) : UnT (axCons x us) := fun S => (h1 S).bind fun a => (h2 S).bind fun b => .ok _
theorem un_bin {f : D → D → Option α} (h1 : UnT t) (h2 : UnT u) : UnT (dBin f t u) := fun S => (h1 S).bind fun a => (h2 S).bind fun b => .lift _
theorem un_un {f : D → Option α} (h1 : UnT t) : UnT (dUn f t) := fun S => (h1 S).bind fun a => .lift _
theorem un_cb {f : List D → Option α} (h1 : UnT ts) : UnT (dCB f ts) := fun S => (h1 S).bind fun a => .lift _
theorem un_mt {T : String} {f : D → List D → Option α} (h1 : UnT t) (h2 : UnT ts) : UnT (dMt T f t ts) := fun S => (h1 S).bind fun a => UnR.ite ((h2 S).bind fun b => .lift _) .bad
theorem un_tup (h : UnT ts) : UnT (eTup ts) := fun S => (h S).bind fun a => UnR.ite (.ok _) .bad
theorem un_lst (h : UnT ts) : UnT (xLst ts) := fun S => (h S).bind fun a => UnR.ite (.ok _) .bad
theorem un_calls {n : Nat} (hm : UnM m) (h : UnT ts) : UnT (eCalls n m ts) := fun S => (h S).bind fun a => UnR.ite (hm a) .bad
theorem un_call0 (hm : UnM m) : UnT (eCall0 m) := fun S => by
  rcases hm [] with ⟨a, h⟩ | ⟨x, h⟩ | h
  · exact .inl ⟨a, fun g => by show (match m [] g with | .ok d g' => R.ok d g' | _ => .bad) = _; rw [h]⟩
  · exact .inr (.inr fun g => by show (match m [] g with | .ok d g' => R.ok d g' | _ => .bad) = _; rw [h])
  · exact .inr (.inr fun g => by show (match m [] g with | .ok d g' => R.ok d g' | _ => .bad) = _; rw [h])
theorem un_and (h1 : UnT t) (h2 : UnT u) : UnT (eAnd t u) := fun S => (h1 S).bind fun a => by
  cases truD a with
  | none => exact .bad
  | some b => cases b with
    | true => exact h2 S
    | false => exact .ok a
theorem un_or (h1 : UnT t) (h2 : UnT u) : UnT (eOr t u) := fun S => (h1 S).bind fun a => by
  cases truD a with
  | none => exact .bad
  | some b => cases b with
    | true => exact .ok a
    | false => exact h2 S
theorem un_not (h1 : UnT t) : UnT (eNot t) := fun S => (h1 S).bind fun a => .lift _
theorem un_if {p q : DSt → G → R α} (h1 : UnT s) (h2 : UnT p) (h3 : UnT q) : UnT (eIf s p q) := fun S => (h1 S).bind fun a => UnR.ite (h2 S) (h3 S)
theorem un_chain {f f' : D → D → Option D} (h1 : UnT t) (h2 : UnT u) (h3 : UnT v) : UnT (eChain f f' t u v) := fun S => (h1 S).bind fun a => (h2 S).bind fun b => by
  cases f a b with
  | none => exact .bad
  | some z => cases z with
    | bl k => cases k with
      | true => exact (h3 S).bind fun c => .lift _
      | false => exact .ok _
    | _ => exact .bad
theorem un_eF (h : UnT x) : UnT (eF x) := fun S => (h S).map
theorem un_xV (h : UnT t) : UnT (xV t) := fun S => (h S).map
theorem un_tof (h : UnT t) : UnT (tOf t) := fun S => (h S).bind fun a => by
  cases a with
  | bl b => exact .ok b
  | _ => exact .bad
theorem un_tru (h : UnT t) : UnT (tTru t) := fun S => (h S).bind fun a => .lift _
theorem un_tnot (h : UnT s) : UnT (tNotD s) := fun S => (h S).bind fun a => .ok _
theorem un_tand (h : UnT s) (h2 : UnT r) : UnT (tAndD s r) := fun S => (h S).bind fun a => UnR.ite (h2 S) (.ok _)
theorem un_tor (h : UnT s) (h2 : UnT r) : UnT (tOrD s r) := fun S => (h S).bind fun a => UnR.ite (.ok _) (h2 S)
theorem un_tt : UnT tTrue := fun S => .ok _
theorem un_ono : UnT oNo := fun S => .ok _
theorem un_oat (h : UnT t) : UnT (oAt t) := fun S => (h S).bind fun a => by
  cases a with
  | int b => exact .ok _
  | _ => exact .bad
theorem un_slice {p q : DSt → G → R (Option Int)} (h : UnT t) (h2 : UnT p) (h3 : UnT q) : UnT (xSlice t p q) := fun S => (h S).bind fun a => (h2 S).bind fun b => (h3 S).bind fun c => .lift _
theorem un_items (h : UnT t) : UnT (iItems t) := fun S => (h S).bind fun a => .lift _
theorem un_range1 (h : UnT ts) : UnT (iRange1 ts) := fun S => (h S).bind fun a => .lift _
theorem un_range2 (h : UnT ts) : UnT (iRange2 ts) := fun S => (h S).bind fun a => .lift _
theorem un_comp {own : List Nat} {tg : Tgt} (hi : UnT ts) (hc : UnT s) (he : UnT t) : UnT (xComp own tg ts s t) := fun S => (hi S).bind fun ds => by
  have go : ∀ ds, UnR (compL own tg s t S ds) := by
    intro ds
    induction ds with
    | nil => exact .ok _
    | cons d ds ih =>
      show UnR fun g => compL own tg s t S (d :: ds) g
      unfold compL
      cases setD tg d (wipeD S own) with
      | none => exact .bad
      | some S1 =>
        dsimp only
        rcases hc S1 with ⟨a, h⟩ | ⟨x, h⟩ | h
        · cases a with
          | false => simp only [h]; exact ih
          | true =>
            simp only [h]
            rcases he S1 with ⟨b, h2⟩ | ⟨x, h2⟩ | h2
            · simp only [h2]; exact ih.map
            · simp only [h2]; exact .bad
            · simp only [h2]; exact .bad
        · simp only [h]; exact .bad
        · simp only [h]; exact .bad
  exact (go ds).map
end
section
variable {b c : SB} {t : ET} {x : XT} {s : BT} {ts : DSt → G → R (List D)} {us : DSt → G → R (List Fv)} {B : List Nat} {i n : Nat}
theorem UnRS.nx (S : SS) : UnRS fun g => .nx S g := .inl ⟨S, fun _ => rfl⟩
theorem UnRS.ret (d : D) : UnRS fun g => .ret d g := .inr (.inl ⟨d, fun _ => rfl⟩)
theorem UnRS.bk (S : SS) : UnRS fun g => .bk S g := .inr (.inr (.inl ⟨S, fun _ => rfl⟩))
theorem UnRS.ct (S : SS) : UnRS fun g => .ct S g := .inr (.inr (.inr (.inl ⟨S, fun _ => rfl⟩)))
theorem UnRS.er (x : Exn) (S : SS) : UnRS fun g => .er x S g := .inr (.inr (.inr (.inr (.inl ⟨x, S, fun _ => rfl⟩))))
theorem UnRS.bad : UnRS fun _ => .bad := .inr (.inr (.inr (.inr (.inr fun _ => rfl))))
theorem us_skip : UnS sSkip := fun S => .nx S
theorem us_bk : UnS fun S g => .bk S g := fun S => .bk S
theorem us_ct : UnS fun S g => .ct S g := fun S => .ct S
theorem us_seq (h1 : UnS b) (h2 : UnS c) : UnS (sSeq b c) := fun S => by
  unfold sSeq
  rcases h1 S with ⟨S1, h⟩ | ⟨d, h⟩ | ⟨S1, h⟩ | ⟨S1, h⟩ | ⟨x, S1, h⟩ | h
  · simp only [h]; exact h2 S1
  · simp only [h]; exact .ret d
  · simp only [h]; exact .bk S1
  · simp only [h]; exact .ct S1
  · simp only [h]; exact .er x S1
  · simp only [h]; exact .bad
theorem us_set (h : UnT x) : UnS (sSet i B x) := fun S => by
  unfold sSet
  rcases h (view S) with ⟨a, h⟩ | ⟨x, h⟩ | h
  · simp only [h]; exact .nx _
  · simp only [h]; exact .er _ _
  · simp only [h]; exact .bad
theorem us_ret (h : UnT t) : UnS (sRet B t) := fun S => by
  unfold sRet
  rcases h (view S) with ⟨a, h⟩ | ⟨x, h⟩ | h
  · simp only [h]; exact .ret _
  · simp only [h]; exact .er _ _
  · simp only [h]; exact .bad
theorem us_retN : UnS sRetN := fun S => .ret _
theorem us_expr (h : UnT t) : UnS (sExpr B t) := fun S => by
  unfold sExpr
  rcases h (view S) with ⟨a, h⟩ | ⟨x, h⟩ | h
  · simp only [h]; exact .nx _
  · simp only [h]; exact .er _ _
  · simp only [h]; exact .bad
theorem us_if (h : UnT s) (h1 : UnS b) (h2 : UnS c) : UnS (sIf B s b c) := fun S => by
  unfold sIf
  rcases h (view S) with ⟨a, h⟩ | ⟨x, h⟩ | h
  · cases a with
    | true => simp only [h]; exact h1 S
    | false => simp only [h]; exact h2 S
  · simp only [h]; exact .er _ _
  · simp only [h]; exact .bad
theorem us_forL {tg : Tgt} (h : UnS b) : ∀ ds, UnS (forL tg b ds)
  | [] => fun S => .nx S
  | d :: ds => fun S => by
    show UnRS fun g => forL tg b (d :: ds) S g
    unfold forL
    cases setS tg d S with
    | none => exact .bad
    | some S1 =>
      dsimp only
      rcases h S1 with ⟨S1, h⟩ | ⟨d, h⟩ | ⟨S1, h⟩ | ⟨S1, h⟩ | ⟨x, S1, h⟩ | h'
      · simp only [h]; exact us_forL ‹_› ds S1
      · simp only [h]; exact .ret d
      · simp only [h]; exact .nx S1
      · simp only [h]; exact us_forL ‹_› ds S1
      · simp only [h]; exact .er x S1
      · simp only [h']; exact .bad
theorem us_for {al : Bool} {tg : Tgt} (hi : UnT ts) (h : UnS b) : UnS (sFor al tg B ts b) := fun S => by
  unfold sFor
  rcases hi (view S) with ⟨a, hh⟩ | ⟨x, hh⟩ | hh
  · simp only [hh]; exact us_forL h a _
  · simp only [hh]; exact .er _ _
  · simp only [hh]; exact .bad
theorem us_while (hs : UnT s) (h : UnS b) : ∀ n, UnS (whileL B s b n)
  | 0 => fun S => .bad
  | n + 1 => fun S => by
    show UnRS fun g => whileL B s b (n + 1) S g
    unfold whileL
    rcases hs (view S) with ⟨a, hh⟩ | ⟨x, hh⟩ | hh
    · cases a with
      | false => simp only [hh]; exact .nx S
      | true =>
        simp only [hh]
        rcases h S with ⟨S1, h'⟩ | ⟨d, h'⟩ | ⟨S1, h'⟩ | ⟨S1, h'⟩ | ⟨x, S1, h'⟩ | h'
        · simp only [h']; exact us_while hs h n S1
        · simp only [h']; exact .ret d
        · simp only [h']; exact .nx S1
        · simp only [h']; exact us_while hs h n S1
        · simp only [h']; exact .er x S1
        · simp only [h']; exact .bad
    · simp only [hh]; exact .er _ _
    · simp only [hh]; exact .bad
theorem us_mut {f : List D → D → Option (List D)} (h : UnT t) : UnS (sMut i B t f) := fun S => by
  unfold sMut
  by_cases ho : isOwn S[i]? = true
  · simp only [if_pos ho]
    rcases h (view S) with ⟨a, h⟩ | ⟨x, h⟩ | h
    · simp only [h]
      split
      · rename_i ds _
        cases f ds a with
        | none => exact .bad
        | some es => exact .nx _
      · exact .bad
    · simp only [h]; exact .er _ _
    · simp only [h]; exact .bad
  · simp only [if_neg ho]; exact .bad
theorem us_raise {z : Str} : UnS (sRaise z) := fun S => .er _ S
theorem us_try {sub : Str → Option Bool} (h1 : UnS b) (h2 : UnS c) : UnS (sTry sub b c) := fun S => by
  unfold sTry
  rcases h1 S with ⟨S1, h⟩ | ⟨d, h⟩ | ⟨S1, h⟩ | ⟨S1, h⟩ | ⟨x, S1, h⟩ | h
  · simp only [h]; exact .nx S1
  · simp only [h]; exact .ret d
  · simp only [h]; exact .bk S1
  · simp only [h]; exact .ct S1
  · simp only [h]
    cases sub x.cls with
    | none => exact .bad
    | some k =>
      cases k with
      | false => exact .er _ _
      | true =>
        dsimp only
        rcases h2 S1 with ⟨S2, h'⟩ | ⟨d, h'⟩ | ⟨S2, h'⟩ | ⟨S2, h'⟩ | ⟨y, S2, h'⟩ | h'
        · simp only [h']; exact .nx S2
        · simp only [h']; exact .ret d
        · simp only [h']; exact .bk S2
        · simp only [h']; exact .ct S2
        · simp only [h']; exact .bad
        · simp only [h']; exact .bad
  · simp only [h]; exact .bad
theorem us_setall {is : List Nat} (h : UnT us) : UnS (sSetAll is B us) := fun S => by
  unfold sSetAll
  rcases h (view S) with ⟨a, h⟩ | ⟨x, h⟩ | h
  · simp only [h]
    by_cases hl : a.length = is.length
    · simp only [if_pos hl]; exact .nx _
    · simp only [if_neg hl]; exact .bad
  · simp only [h]; exact .er _ _
  · simp only [h]; exact .bad
theorem us_unp {is : List Nat} (h : UnT t) : UnS (sUnp is B t) := fun S => by
  unfold sUnp
  rcases h (view S) with ⟨a, h⟩ | ⟨x, h⟩ | h
  · simp only [h]
    cases setS (.tp is) a (post (.v a) B S) with
    | none => exact .bad
    | some S' => exact .nx _
  · simp only [h]; exact .er _ _
  · simp only [h]; exact .bad
theorem um_run {N : Nat} (h : UnS b) : UnM (runD N n b) := fun ds => by
  show UnR fun g => runD N n b ds g
  unfold runD
  by_cases hl : ds.length = n
  · simp only [if_pos hl]
    rcases h (startD N ds) with ⟨S1, h⟩ | ⟨d, h⟩ | ⟨S1, h⟩ | ⟨S1, h⟩ | ⟨x, S1, h⟩ | h
    · simp only [h]; exact .ok _
    · simp only [h]; exact .ok d
    · simp only [h]; exact .bad
    · simp only [h]; exact .bad
    · simp only [h]; exact .inr (.inl ⟨x, fun _ => rfl⟩)
    · simp only [h]; exact .bad
  · simp only [if_neg hl]; exact .bad
/-- from one state to all -/
theorem UnR.at_ {α : Type} {r : G → R α} (u : UnR r) {g0 : G} {a : α} (h : r g0 = .ok a g0) (g : G) : r g = .ok a g := by
  rcases u with ⟨a', h'⟩ | ⟨x, h'⟩ | h'
  · rw [h'] at h; cases h; exact h' g
  · rw [h'] at h; cases h
  · rw [h'] at h; cases h
end
/-- a comprehension whose parts draw nothing -/
theorem compL_ok {own : List Nat} {tg : Tgt} {c : BT} {e : ET} {S : DSt} {g : G} (p : D → Bool) (f : D → D) : ∀ {ds : List D}, (∀ d ∈ ds, ∃ S1, setD tg d (wipeD S own) = some S1 ∧ c S1 g = .ok (p d) g ∧ (p d = true → e S1 g = .ok (f d) g)) → compL own tg c e S ds g = .ok ((ds.filter p).map f) g
  | [], _ => rfl
  | d :: ds, h => by
    obtain ⟨S1, h1, h2, h3⟩ := h d List.mem_cons_self
    have ih := compL_ok (tg := tg) (c := c) (e := e) (S := S) (own := own) (g := g) p f (ds := ds) fun d hd => h d (List.mem_cons_of_mem _ hd)
    unfold compL
    rw [h1]
    dsimp only
    rw [h2]
    cases hp : p d with
    | false =>
      dsimp only
      rw [List.filter_cons_of_neg (by rw [hp]; decide)]
      exact ih
    | true =>
      dsimp only
      rw [h3 hp, List.filter_cons_of_pos hp, List.map_cons]
      dsimp only
      rw [ih]
      rfl

/-! laws of data -/
mutual
def beqD : D → D → Bool
  | .non, .non => true
  | .bl a, .bl b => a == b
  | .int a, .int b => a == b
  | .str a, .str b => a == b
  | .tup a, .tup b => beqDs a b
  | .lst a, .lst b => beqDs a b
  | .draw, .draw => true
  | .fn a, .fn b => a == b
  | .dct a b, .dct c d => beqDs a c && beqDs b d
  | _, _ => false
def beqDs : List D → List D → Bool
  | [], [] => true
  | a :: as, b :: bs => beqD a b && beqDs as bs
  | _, _ => false
end
mutual
theorem beqD_eq : ∀ a b : D, beqD a b = true → a = b
  | .non, b, h => by cases b <;> simp [beqD] at h ⊢
  | .bl a, b, h => by cases b <;> simp [beqD] at h ⊢ <;> exact h
  | .int a, b, h => by cases b <;> simp [beqD] at h ⊢ <;> exact h
  | .str a, b, h => by cases b <;> simp [beqD] at h ⊢ <;> exact h
  | .draw, b, h => by cases b <;> simp [beqD] at h ⊢
  | .fn a, b, h => by cases b <;> simp [beqD] at h ⊢ <;> exact h
  | .dct a a', b, h => by
    cases b <;> simp [beqD] at h ⊢
    exact ⟨beqDs_eq a _ h.1, beqDs_eq a' _ h.2⟩
  | .tup a, b, h => by
    cases b <;> simp [beqD] at h ⊢
    exact beqDs_eq a _ h
  | .lst a, b, h => by
    cases b <;> simp [beqD] at h ⊢
    exact beqDs_eq a _ h
theorem beqDs_eq : ∀ a b : List D, beqDs a b = true → a = b
  | [], [], _ => rfl
  | [], _ :: _, h => by simp [beqDs] at h
  | _ :: _, [], h => by simp [beqDs] at h
  | a :: as, b :: bs, h => by
    simp only [beqDs, Bool.and_eq_true] at h
    rw [beqD_eq a b h.1, beqDs_eq as bs h.2]
end
def val {α : Type} : R α → Option α
  | .ok a _ => some a
  | _ => none
theorem UnR.all {α : Type} {r : G → R α} (u : UnR r) {g0 : G} {a : α} (h : val (r g0) = some a) (g : G) : r g = .ok a g := by
  rcases u with ⟨a', h'⟩ | ⟨x, h'⟩ | h'
  · rw [h'] at h; cases h; exact h' g
  · rw [h'] at h; cases h
  · rw [h'] at h; cases h
/-- the value is just this data -/
def isD (r : R D) (d : D) : Bool := match r with
  | .ok a _ => beqD a d
  | _ => false
theorem UnR.isD {r : G → R D} (u : UnR r) {g0 : G} {d : D} (h : isD (r g0) d = true) (g : G) : r g = .ok d g := by
  refine u.all (g0 := g0) ?_ g
  unfold DI.isD at h
  split at h
  · rename_i e
    rw [e, beqD_eq _ _ h]; rfl
  · cases h
/-- fit for comparing -/
def Sh (n : Nat) (d : D) : Prop := d.py.canLay0 = true ∧ d.py.depth ≤ n
theorem Sh.ok {n : Nat} {d : D} (h : Sh n d) (hn : n ≤ 64) : SeqAt.shaped d.py = true := by
  unfold SeqAt.shaped
  rw [Bool.and_eq_true]
  exact ⟨h.1, decide_eq_true (Nat.le_trans h.2 hn)⟩
theorem sh_all {n : Nat} : ∀ {ds : List D}, (∀ d ∈ ds, Sh n d) → PyData.canLayAll0 (pyAll ds) = true ∧ PyData.depthAll (pyAll ds) ≤ n
  | [], _ => ⟨rfl, Nat.zero_le _⟩
  | d :: ds, h => by
    have h1 := h d List.mem_cons_self
    have h2 := sh_all fun e he => h e (List.mem_cons_of_mem _ he)
    refine ⟨?_, ?_⟩
    · simp only [pyAll, PyData.canLayAll0, Bool.and_eq_true]; exact ⟨h1.1, h2.1⟩
    · simp only [pyAll, PyData.depthAll]; exact Nat.max_le.mpr ⟨h1.2, h2.2⟩
theorem sh_tup {n : Nat} {ds : List D} (h : ∀ d ∈ ds, Sh n d) : Sh (n + 1) (.tup ds) := by
  obtain ⟨h1, h2⟩ := sh_all h
  exact ⟨h1, Nat.succ_le_succ h2⟩
theorem sh_lst {n : Nat} {ds : List D} (h : ∀ d ∈ ds, Sh n d) : Sh (n + 1) (.lst ds) := by
  obtain ⟨h1, h2⟩ := sh_all h
  exact ⟨h1, Nat.succ_le_succ h2⟩
theorem Sh.mono {n m : Nat} {d : D} (h : Sh n d) (hn : n ≤ m) : Sh m d := ⟨h.1, Nat.le_trans h.2 hn⟩
instance (n : Nat) (d : D) : Decidable (Sh n d) := inferInstanceAs (Decidable (_ ∧ _))
theorem eqv_self {n : Nat} {d : D} (h : Sh n d) : PyData.eqv d.py d.py = true := PySem.SeqAt.eqv_refl _ h.1
theorem ne_self {n : Nat} {d : D} (h : Sh n d) (hn : n ≤ 64) : neD d d = some (.bl false) := by
  unfold neD
  rw [if_pos ⟨h.ok hn, h.ok hn⟩, eqv_self h]
  rfl

/-! loops by plain folds -/
theorem forL_foldM {α σ : Type} {tg : Tgt} {body : SB} (dat : α → D) (stp : σ → α → Option σ) (Rl : σ → SS → Prop) {g : G} (ok : α → Prop)
    (h : ∀ x a a' S, ok x → stp a x = some a' → Rl a S → ∃ S1 S2, setS tg (dat x) S = some S1 ∧ body S1 g = .nx S2 g ∧ Rl a' S2) :
    ∀ (xs : List α) (a a' : σ) (S : SS), (∀ x ∈ xs, ok x) → xs.foldlM stp a = some a' → Rl a S → ∃ S', forL tg body (xs.map dat) S g = .nx S' g ∧ Rl a' S'
  | [], a, a', S, _, e, r => by
    cases e
    exact ⟨S, rfl, r⟩
  | x :: xs, a, a', S, hx, e, r => by
    rw [List.foldlM_cons] at e
    cases e1 : stp a x with
    | none => rw [e1] at e; cases e
    | some a1 =>
      rw [e1] at e
      obtain ⟨S1, S2, h1, h2, h3⟩ := h x a a1 S (hx x List.mem_cons_self) e1 r
      obtain ⟨S', h4, h5⟩ := forL_foldM dat stp Rl ok h xs a1 a' S2 (fun y hy => hx y (List.mem_cons_of_mem _ hy)) e h3
      refine ⟨S', ?_, h5⟩
      rw [List.map_cons]
      unfold forL
      rw [h1]
      dsimp only
      rw [h2]
      exact h4
/-- a loop that gives back the first that fits -/
theorem forL_find {α : Type} {tg : Tgt} {body : SB} (dat : α → D) (p : α → Bool) (f : α → D) (Rl : SS → Prop) {g : G} (ok : α → Prop)
    (h : ∀ x S, ok x → Rl S → ∃ S1, setS tg (dat x) S = some S1 ∧ ((p x = true ∧ body S1 g = .ret (f x) g) ∨ (p x = false ∧ ∃ S2, body S1 g = .nx S2 g ∧ Rl S2))) :
    ∀ (xs : List α) (S : SS), (∀ x ∈ xs, ok x) → Rl S → (∃ x, xs.find? p = some x ∧ forL tg body (xs.map dat) S g = .ret (f x) g) ∨ (xs.find? p = none ∧ ∃ S', forL tg body (xs.map dat) S g = .nx S' g ∧ Rl S')
  | [], S, _, r => .inr ⟨rfl, S, rfl, r⟩
  | x :: xs, S, hx, r => by
    obtain ⟨S1, h1, h2⟩ := h x S (hx x List.mem_cons_self) r
    rw [List.map_cons]
    unfold forL
    rw [h1]
    dsimp only
    rcases h2 with ⟨hp, h2⟩ | ⟨hp, S2, h2, h3⟩
    · rw [h2, List.find?_cons_of_pos hp]
      exact .inl ⟨x, rfl, rfl⟩
    · rw [h2, List.find?_cons_of_neg (by rw [hp]; decide)]
      exact forL_find dat p f Rl ok h xs S2 (fun y hy => hx y (List.mem_cons_of_mem _ hy)) h3
theorem frzB_nil (S : SS) : frzB [] S = S := by
  have : ∀ (S : SS) (n : Nat), frzFrom [] n S = S := fun S => by
    induction S with
    | nil => intro n; rfl
    | cons x r ih => intro n; unfold frzFrom; rw [ih]; rfl
  exact this S 0
theorem bools_map {α : Type} (f : α → Bool) : ∀ xs : List α, bools (xs.map fun x => .bl (f x)) = some (xs.map f)
  | [] => rfl
  | x :: xs => by simp [bools, bools_map f xs]
/-- pure comprehension over mapped data -/
theorem compL_map {α : Type} {own : List Nat} {tg : Tgt} {c : BT} {e : ET} {S : DSt} {g : G} (dat : α → D) (p : α → Bool) (f : α → D) : ∀ {xs : List α}, (∀ x ∈ xs, ∃ S1, setD tg (dat x) (wipeD S own) = some S1 ∧ c S1 g = .ok (p x) g ∧ (p x = true → e S1 g = .ok (f x) g)) → compL own tg c e S (xs.map dat) g = .ok ((xs.filter p).map f) g
  | [], _ => rfl
  | d :: ds, h => by
    obtain ⟨S1, h1, h2, h3⟩ := h d List.mem_cons_self
    have ih := compL_map (tg := tg) (c := c) (e := e) (S := S) (own := own) (g := g) dat p f (xs := ds) fun d hd => h d (List.mem_cons_of_mem _ hd)
    rw [List.map_cons]
    unfold compL
    rw [h1]
    dsimp only
    rw [h2]
    cases hp : p d with
    | false =>
      dsimp only
      rw [List.filter_cons_of_neg (by rw [hp]; decide)]
      exact ih
    | true =>
      dsimp only
      rw [h3 hp, List.filter_cons_of_pos hp, List.map_cons]
      dsimp only
      rw [ih]
      rfl
/-- what a body's end is worth -/
def outR : RS → R D
  | .ret d g => .ok d g
  | .nx _ g => .ok .non g
  | .er x _ g => .er x g
  | _ => .bad
theorem runD_at {N n : Nat} {b : SB} {ds : List D} {g : G} (hl : ds.length = n) : runD N n b ds g = outR (b (startD N ds) g) := by
  unfold runD outR
  rw [if_pos hl]
  all_goals (cases b (startD N ds) g <;> rfl)
theorem sMut_ok {i : Nat} {B : List Nat} {t : ET} {f : List D → D → Option (List D)} {S : SS} {g g' : G} {d : D} {ds es : List D} (h2 : t (view S) g = .ok d g') (hn : d.nol = true) (h3 : S[i]? = some (some (.own ds))) (h4 : f ds d = some es) : sMut i B t f S g = .nx (S.set i (some (.own es))) g' := by
  have hp : post (.v d) B S = S := by unfold post; rw [if_pos (show Fv.nol (.v d) = true from hn)]
  unfold sMut
  rw [if_pos (by rw [h3]; rfl), h2]
  simp only [hp, h3, h4]
theorem appD_ok {ds : List D} {d : D} (h : ds.length < sizeLine) : appD ds d = some (ds ++ [d]) := by unfold appD; rw [if_pos h]
theorem sSet_nol {i : Nat} {B : List Nat} {t : XT} {S : SS} {g g' : G} {f : Fv} (h : t (view S) g = .ok f g') (hn : f.nol = true) : sSet i B t S g = .nx (S.set i (some f.sv)) g' := by
  have hp : post f B S = S := by unfold post; rw [if_pos hn]
  unfold sSet
  rw [h]
  simp only [hp]
theorem sSeq_nx {a b : SB} {S S1 : SS} {g g1 : G} (h : a S g = .nx S1 g1) : sSeq a b S g = b S1 g1 := by unfold sSeq; rw [h]
theorem sIf_t {B : List Nat} {c : BT} {a b : SB} {S : SS} {g g1 : G} (h : c (view S) g = .ok true g1) : sIf B c a b S g = a S g1 := by unfold sIf; rw [h]
theorem sIf_f {B : List Nat} {c : BT} {a b : SB} {S : SS} {g g1 : G} (h : c (view S) g = .ok false g1) : sIf B c a b S g = b S g1 := by unfold sIf; rw [h]
theorem fold_unit {α : Type} : ∀ xs : List α, xs.foldlM (fun (_ : Unit) (_ : α) => some ()) () = some ()
  | [] => rfl
  | x :: xs => by rw [List.foldlM_cons]; exact fold_unit xs
theorem forL_inv {tg : Tgt} {body : SB} (P : SS → G → Prop) : ∀ (ds : List D), (∀ d ∈ ds, ∀ S g, P S g → ∃ S1 S2 g2, setS tg d S = some S1 ∧ (body S1 g = .nx S2 g2 ∨ body S1 g = .ct S2 g2) ∧ P S2 g2) → ∀ S g, P S g → ∃ S' g', forL tg body ds S g = .nx S' g' ∧ P S' g'
  | [], _, S, g, r => ⟨S, g, rfl, r⟩
  | d :: ds, h, S, g, r => by
    obtain ⟨S1, S2, g2, h1, h2, h3⟩ := h d List.mem_cons_self S g r
    obtain ⟨S', g', h4, h5⟩ := forL_inv P ds (fun e he => h e (List.mem_cons_of_mem _ he)) S2 g2 h3
    refine ⟨S', g', ?_, h5⟩
    unfold forL
    rw [h1]
    dsimp only
    rcases h2 with h2 | h2 <;> rw [h2] <;> exact h4
/-! ### how things come out -/
section
variable {S : DSt} {g g1 g2 g3 : G} {t u v : ET} {x y : XT} {ts : DSt → G → R (List D)} {a b c d : D} {α : Type} {m : MT}
theorem bin_ok {f : D → D → Option α} {z : α} (h1 : t S g = .ok a g1) (h2 : u S g1 = .ok b g2) (h3 : f a b = some z) : dBin f t u S g = .ok z g2 := by
  unfold dBin; rw [h1, R.bind_ok, h2, R.bind_ok, h3]; rfl
theorem un_ok {f : D → Option α} {z : α} (h1 : t S g = .ok a g1) (h3 : f a = some z) : dUn f t S g = .ok z g1 := by
  unfold dUn; rw [h1, R.bind_ok, h3]; rfl
theorem cb_ok {f : List D → Option α} {z : α} {ds : List D} (h1 : ts S g = .ok ds g1) (h3 : f ds = some z) : dCB f ts S g = .ok z g1 := by
  unfold dCB; rw [h1, R.bind_ok, h3]; rfl
theorem args1 (h : t S g = .ok a g1) : aCons t aNil S g = .ok [a] g1 := by unfold aCons; rw [h]; rfl
theorem args_cons {ds : List D} (h : t S g = .ok a g1) (h2 : ts S g1 = .ok ds g2) : aCons t ts S g = .ok (a :: ds) g2 := by unfold aCons; rw [h, R.bind_ok, h2]; rfl
theorem args2 (h : t S g = .ok a g1) (h2 : u S g1 = .ok b g2) : aCons t (aCons u aNil) S g = .ok [a, b] g2 := args_cons h (args1 h2)
theorem args3 (h : t S g = .ok a g1) (h2 : u S g1 = .ok b g2) (h3 : v S g2 = .ok c g3) : aCons t (aCons u (aCons v aNil)) S g = .ok [a, b, c] g3 := args_cons h (args2 h2 h3)
theorem calls_ok {n : Nat} {ds : List D} {r : R D} (h : ts S g = .ok ds g1) (hl : ds.length = n) (h2 : m ds g1 = r) : eCalls n m ts S g = r := by
  show (ts S g).bind _ = _
  rw [h, R.bind_ok]
  dsimp only
  rw [if_pos hl, h2]
theorem call0_ok (h2 : m [] g = .ok d g1) : eCall0 m S g = .ok d g1 := by
  show (match m [] g with | .ok d g' => R.ok d g' | _ => .bad) = _
  rw [h2]
theorem comp_ok {own : List Nat} {tg : Tgt} {c : BT} {ds ys : List D} (h : ts S g = .ok ds g1) (h2 : compL own tg c t S ds g1 = .ok ys g2) : xComp own tg ts c t S g = .ok (.f ys) g2 := by
  unfold xComp; rw [h, R.bind_ok, h2]; rfl
theorem eF_ok {f : Fv} (h : x S g = .ok f g1) : eF x S g = .ok f.d g1 := by
  show (x S g).map _ = _
  rw [h]; rfl
theorem xV_ok (h : t S g = .ok d g1) : xV t S g = .ok (.v d) g1 := by
  show (t S g).map _ = _
  rw [h]; rfl
theorem tOf_ok {k : Bool} (h : t S g = .ok (.bl k) g1) : tOf t S g = .ok k g1 := by unfold tOf; rw [h]; rfl
theorem tTru_ok {k : Bool} (h : t S g = .ok d g1) (h2 : truD d = some k) : tTru t S g = .ok k g1 := by unfold tTru; rw [h, R.bind_ok, h2]; rfl
theorem tNot_ok {s : BT} {k : Bool} (h : s S g = .ok k g1) : tNotD s S g = .ok (!k) g1 := by unfold tNotD; rw [h]; rfl
theorem items_ok {ds : List D} (h : t S g = .ok d g1) (h2 : itemsD d = some ds) : iItems t S g = .ok ds g1 := by unfold iItems; rw [h, R.bind_ok, h2]; rfl
theorem range1_ok {j : Int} (h : t S g = .ok (.int j) g1) (h0 : -(2 ^ 62) ≤ j) (h1 : j ≤ 16777216) : iRange1 (aCons t aNil) S g = .ok (rangeL 0 j.toNat) g1 := by
  unfold iRange1; rw [args1 h, R.bind_ok]
  show lift (if _ then _ else _) g1 = _
  rw [if_pos ⟨h0, h1⟩]; rfl
theorem var_ok {i : Nat} (h : S[i]? = some (some d)) : eVar i S g = .ok d g := by unfold eVar; rw [h]
end

/-! comprehensions of two clauses -/
/-- a comprehension's loop from any heap -/
theorem lc_in {J : It} {n : Nat} {Gd : Hp → Prop} {Y : Nat → Hp → V → Hp → Prop} (w : Walk J n Gd Y) {g : TG} {tt : TT} {te : TE} {vs : List Nat} {σ : St} {H1 : Hp} {D : Addr} {Qd : Hp → Prop} (Pv : Nat → Hp → Prop) (h0 : Pv 0 H1) (hG : ∀ i H, i ≤ n → Pv i H → Gd H)
    (hs : ∀ i x H H', i < n → Pv i H → Y i H x H' → g x (wipe σ vs) H' fun σ2 H2 => wipe σ2 vs = wipe σ vs ∧ tt σ2 H2 fun b H3 => if b = true then te σ2 H3 fun y H4 => ∃ acc, H4 D = some (.lst acc) ∧ acc.length < sizeLine ∧ Pv (i + 1) (upd H4 D (.lst (acc ++ [y]))) else Pv (i + 1) H3) (hd : ∀ H, Pv n H → Qd H) :
    ∃ W : Nat → Nat → Hp → Prop, (∃ m, W 0 m H1) ∧ ∀ i m H, W i m H → (J.stop i H ∧ Qd H) ∨ (J.go i H ∧ ∃ Nx : Hp → Prop, (∀ H', Nx H' → ∃ m', m' < m ∧ W (i + 1) m' H') ∧ ∀ x H', J.yld i H x H' → g x (wipe σ vs) H' fun σ2 H2 => wipe σ2 vs = wipe σ vs ∧ tt σ2 H2 fun b H3 => if b = true then te σ2 H3 fun y H4 => ∃ acc, H4 D = some (.lst acc) ∧ acc.length < sizeLine ∧ Nx (upd H4 D (.lst (acc ++ [y]))) else Nx H3) := by
  refine ⟨fun i m H => m + i = n ∧ Pv i H, ⟨n, by omega, h0⟩, fun i m H ⟨e, p⟩ => ?_⟩
  by_cases hlt : i < n
  · exact .inr ⟨w.goes i H hlt (hG i H (by omega) p), Pv (i + 1), fun H' p' => ⟨m - 1, by omega, by omega, p'⟩, fun x H' y => hs i x H H' hlt p (w.yields i H x H' hlt (hG i H (by omega) p) y)⟩
  · obtain rfl : i = n := by omega
    exact .inl ⟨w.stops H (hG i H (by omega) p), hd H p⟩
section
variable {K : PySem.W.Frag} {mg : Str → Option Value} {B Bc Be : List Nat} {own : List Nat} {t : Tgt} {c : BT} {e : ET} {ad : DA} {Hb Hi Hs : Hp} {gb g1 gz : G} {S : DSt} {σ : St} {Dd : Addr} {J : It} {ds ys ya0 : List D} {acc0 : List V} {Qd : Hp → Prop}
theorem comp_loop (hown : ∀ i ∈ t.is, i ∈ own) (hB : ∀ i ∈ Bc ++ Be, i ∈ own ∨ i ∈ B) (hDb : Hb Dd = none) (nD : Dd ≠ ad.ad) (io : ItOk K mg ad Hi J ds) (eD0 : Hs Dd = some (.lst acc0)) (ra0 : RepAll K mg ad Hs acc0 ya0) (dk0 : DrawOk ad Hs g1) (kb : Keep ad Hb Hs) (pi : Perm Hi Hs) (hz : (ya0 ++ ys).length ≤ sizeLine)
    (ec0 : compL own t c e S ds g1 = .ok ys gz) (srW0 : SR K mg ad Hs (B ++ own) (wipe σ own) (wipeD S own))
    (done : ∀ H2 acc, H2 Dd = some (.lst acc) → RepAll K mg ad H2 acc (ya0 ++ ys) → DrawOk ad H2 gz → Keep ad Hb H2 → Perm Hs H2 → Qd H2) :
    ∃ W : Nat → Nat → Hp → Prop, (∃ m, W 0 m Hs) ∧ ∀ i m H, W i m H → (J.stop i H ∧ Qd H) ∨ (J.go i H ∧ ∃ Nx : Hp → Prop, (∀ H', Nx H' → ∃ m', m' < m ∧ W (i + 1) m' H') ∧ ∀ x H', J.yld i H x H' → gT K t x (wipe σ own) H' fun σ2 H2 => wipe σ2 own = wipe σ own ∧ eT K mg W0 Bc c σ2 H2 fun b H3 => if b = true then eE K mg W0 Be e σ2 H3 fun y H4 => ∃ acc, H4 Dd = some (.lst acc) ∧ acc.length < sizeLine ∧ Nx (upd H4 Dd (.lst (acc ++ [y]))) else Nx H3) := by
  obtain ⟨_, Gd, Y, w, hG, hY⟩ := io
  refine lc_in w (fun i H2 => ∃ g2 acc ya yr, H2 Dd = some (.lst acc) ∧ RepAll K mg ad H2 acc ya ∧ DrawOk ad H2 g2 ∧ Keep ad Hb H2 ∧ Perm Hs H2 ∧ compL own t c e S (ds.drop i) g2 = .ok yr gz ∧ ya ++ yr = ya0 ++ ys ∧ SR K mg ad H2 (B ++ own) (wipe σ own) (wipeD S own))
    ⟨g1, acc0, ya0, ys, eD0, ra0, dk0, kb, .refl _, by rw [List.drop_zero]; exact ec0, rfl, srW0⟩ (fun i H2 _ ⟨g2, acc, ya, yr, _, _, _, _, p2, _⟩ => hG H2 (pi.trans p2)) (fun i x H2 H3 hi ⟨g2, acc, ya, yr, eD, ra, d2, k2, p2, ec, ey, srW⟩ y => ?_) (fun H2 ⟨g2, acc, ya, yr, eD, ra, d2, k2, p2, ec, ey, _⟩ => ?_)
  · obtain ⟨hH, d, ed, rdd⟩ := hY i H2 x H3 hi (pi.trans p2) y
    have k3 : Keep ad H2 H3 := by
      rcases hH with rfl | ⟨T, o, hT, rfl⟩
      · exact .refl _ _
      · exact Keep.upd hT
    have d3 : DrawOk ad H3 g2 := by
      rcases hH with rfl | ⟨T, o, hT, rfl⟩
      · exact d2
      · exact d2.upd hT
    have edr : ds.drop i = d :: ds.drop (i + 1) := by
      obtain ⟨hl, e⟩ := List.getElem?_eq_some_iff.mp ed
      rw [List.drop_eq_getElem_cons hl, e]
    rw [edr] at ec
    unfold compL at ec
    cases es : setD t d (wipeD S own) with
    | none => rw [es] at ec; cases ec
    | some S1 =>
      rw [es] at ec
      simp only at ec
      have srW3 := srW.keep k3 d2
      refine gT_keep (gT_D rdd srW3 es (Q := fun σ' H' => H' = H3 ∧ ∃ C, (∀ i, i ∈ t.is ∨ i ∈ B ++ own → i ∈ C) ∧ SR K mg ad H3 C σ' S1) fun σ' C hC s => ⟨rfl, C, hC, s⟩) fun σ2 hk hl2 ⟨_, C, hC, s2⟩ => ⟨?_, ?_⟩
      · apply List.ext_getElem?
        intro j
        rw [wipe_get, wipe_get]
        by_cases hm : j ∈ own
        · rw [if_pos hm, if_pos hm]
          have e1 : σ2.length = σ.length := by rw [hl2, wipe_length]
          by_cases hj : j < σ.length
          · rw [List.getElem?_eq_getElem hj, List.getElem?_eq_getElem (by rw [e1]; exact hj)]
            rfl
          · rw [List.getElem?_eq_none (by omega), List.getElem?_eq_none (by omega)]
        · rw [if_neg hm, if_neg hm, hk j fun z => hm (hown j z), wipe_get, if_neg hm]
      · have hs : ∀ C', (∀ i ∈ C', i ∈ Bc ++ Be) → SR K mg ad H3 C' σ2 S1 := fun C' hC' => ⟨s2.1, fun j hj => s2.2 j (hC j (.inr (by
          rcases hB j (hC' j hj) with z | z
          · exact List.mem_append_right _ z
          · exact List.mem_append_left _ z)))⟩
        refine ⟨ad, S1, g2, hs Bc (fun i hi => List.mem_append_left _ hi), d3, ?_⟩
        cases rcc : c S1 g2 with
        | bad => rw [rcc] at ec; cases ec
        | er x g' => rw [rcc] at ec; cases ec
        | ok bv g3 =>
          rw [rcc] at ec
          intro bv' H4 k4 d4 ebv
          subst ebv
          have kD : H4 Dd = some (.lst acc) := k4 _ _ (k3 _ _ eD nD) nD
          cases bv' with
          | false =>
            refine iteF (A := eE K mg W0 Be e σ2 H4 _) ⟨g3, acc, ya, yr, kD, (ra.keep k3 d2).keep k4 d3, d4, (k2.trans k3).trans k4, p2.trans ((k3.perm d2).trans (k4.perm d3)), ec, ey, srW3.keep k4 d3⟩
          | true =>
            refine iteT (B := ∃ g2 acc ya yr, _) ⟨ad, S1, g3, (hs Be fun i hi => List.mem_append_right _ hi).keep k4 d3, d4, ?_⟩
            simp only at ec
            cases re : e S1 g3 with
            | bad => rw [re] at ec; cases ec
            | er x g' => rw [re] at ec; cases ec
            | ok yv g5 =>
              rw [re] at ec
              intro v H5 k5 d5 rv
              have kD5 : H5 Dd = some (.lst acc) := k5 _ _ kD nD
              cases rr : compL own t c e S (ds.drop (i + 1)) g5 with
              | bad => simp only [rr, R.map] at ec; cases ec
              | er x g' => simp only [rr, R.map] at ec; cases ec
              | ok yr' gz' =>
                simp only [rr, R.map, R.ok.injEq] at ec
                obtain ⟨ec1, ec2⟩ := ec
                have hlen : acc.length < sizeLine := by
                  have h1 : (ya ++ yr).length = (ya0 ++ ys).length := by rw [ey]
                  rw [← ec1, List.length_append, List.length_cons] at h1
                  rw [ra.len]
                  omega
                refine ⟨acc, kD5, hlen, ?_⟩
                have up : ∀ {b o}, H5 b = some o → (∀ xs, o ≠ .lst xs) → upd H5 Dd (.lst (acc ++ [v])) b = some o := fun {b o} e' n => by
                  rw [upd_ne (fun z => by rw [z, kD5] at e'; cases e'; exact n _ rfl)]; exact e'
                have pm : Perm H5 (upd H5 Dd (.lst (acc ++ [v]))) := ⟨fun a xs e' => up e' (by intro xs z; cases z), fun a o u e' => up e' (by intro xs z; cases z)⟩
                have srU : SR K mg ad (upd H5 Dd (.lst (acc ++ [v]))) (B ++ own) (wipe σ own) (wipeD S own) := by
                  have h5 := (srW3.keep k4 d3).keep k5 d4
                  exact ⟨h5.1, fun j hj d' e' => by
                    obtain ⟨v', f1, f2⟩ := h5.2 j hj d' e'
                    exact ⟨v', f1, f2.perm pm⟩⟩
                refine ⟨g5, acc ++ [v], ya ++ [yv], yr', upd_same, (((((ra.keep k3 d2).keep k4 d3).keep k5 d4).perm pm).app (.cons (rv.perm pm) .nil)), d5.at_ (fun xs e' => by rw [upd_ne (Ne.symm nD)]; exact e') (fun o u e' => pm.frz _ _ _ e'), fun b o e' n => ?_, p2.trans ((k3.perm d2).trans ((k4.perm d3).trans ((k5.perm d4).trans pm))), by rw [ec2] at rr; exact rr, by rw [← ey, ← ec1, List.append_assoc]; rfl, srU⟩
                have bD : b ≠ Dd := fun z => by rw [z, hDb] at e'; cases e'
                rw [upd_ne bD]
                exact k5 _ _ (k4 _ _ (k3 _ _ (k2 _ _ e' n) n) n) n
  · rw [List.drop_length] at ec
    cases ec
    rw [List.append_nil] at ey
    subst ey
    exact done H2 acc eD ra d2 k2 p2
end
/-- [e for tg in items if c for tg1 in items1 if c1] -/
def comp2L (own own1 : List Nat) (tg : Tgt) (c : BT) (it1 : DSt → G → R (List D)) (tg1 : Tgt) (c1 : BT) (e : ET) (S : DSt) : List D → G → R (List D)
  | [], g => .ok [] g
  | d :: ds, g => match setD tg d (wipeD S own) with
    | none => .bad
    | some S1 => match c S1 g with
      | .ok true g1 => match it1 S1 g1 with
        | .ok ds1 g2 => match compL own1 tg1 c1 e S1 ds1 g2 with
          | .ok ys g3 => (comp2L own own1 tg c it1 tg1 c1 e S ds g3).map (ys ++ ·)
          | _ => .bad
        | _ => .bad
      | .ok false g1 => comp2L own own1 tg c it1 tg1 c1 e S ds g1
      | _ => .bad
def xComp2 (own own1 : List Nat) (tg : Tgt) (it : DSt → G → R (List D)) (c : BT) (it1 : DSt → G → R (List D)) (tg1 : Tgt) (c1 : BT) (e : ET) : XT := fun S g => (it S g).bind fun ds g1 => (comp2L own own1 tg c it1 tg1 c1 e S ds g1).bind fun ys g2 => if ys.length ≤ sizeLine then .ok (.f ys) g2 else .bad
theorem comp2_ner {own own1 : List Nat} {tg : Tgt} {c : BT} {it1 : DSt → G → R (List D)} {tg1 : Tgt} {c1 : BT} {e : ET} {S : DSt} : ∀ (ds : List D) (g : G) x g', comp2L own own1 tg c it1 tg1 c1 e S ds g ≠ .er x g'
  | [], g, x, g', z => by cases z
  | d :: ds, g, x, g', z => by
    unfold comp2L at z
    split at z
    · cases z
    · split at z
      · split at z
        · split at z
          · rename_i g3 _
            cases q : comp2L own own1 tg c it1 tg1 c1 e S ds g3 with
            | ok a b => rw [q] at z; cases z
            | er a b => exact comp2_ner _ _ _ _ q
            | bad => rw [q] at z; cases z
          · cases z
        · cases z
      · exact comp2_ner _ _ _ _ z
      · cases z
section
variable {K : PySem.W.Frag} {mg : Str → Option Value} {W : WX} {B Bi Bc Bi1 Bc1 Be : List Nat} {own own1 : List Nat} {t t1 : Tgt} {it it1 : DSt → G → R (List D)} {c c1 : BT} {e : ET}
theorem comp2_ap (hown : ∀ i ∈ t.is, i ∈ own) (hown1 : ∀ i ∈ t1.is, i ∈ own1) (h1o : ∀ i ∈ own1, i ∈ own) (hB : ∀ i ∈ Bc ++ (Bi1 ++ (Bc1 ++ Be)), i ∈ own ∨ i ∈ B) : ∀ σ H Q, eX K mg W (Bi ++ B) (xComp2 own own1 t it c it1 t1 c1 e) σ H Q →
    tLc2 (rdI K mg W Bi it) (gT K t) (eT K mg W0 Bc c) (rdI K mg W0 Bi1 it1) (gT K t1) (eT K mg W0 Bc1 c1) (eE K mg W0 Be e) own own1 σ H Q := fun σ H Q ⟨ad, S, g, h⟩ => by
  refine ⟨ad, S, g, h.sr.left, h.dk, ?_⟩
  have p := h.po
  unfold xComp2 at p
  cases r : it S g with
  | bad => simp only [r, R.bind] at p; exact p
  | er x g' => simp only [r, R.bind] at p; exact p
  | ok ds g1 =>
    simp only [r, R.bind] at p
    intro J H1 k1 d1 io Dd hDd
    cases rc : comp2L own own1 t c it1 t1 c1 e S ds g1 with
    | bad => simp only [rc] at p; exact p.elim
    | er x g' => exact absurd rc (comp2_ner _ _ _ _)
    | ok ys gz =>
      simp only [rc] at p
      by_cases hz : ys.length ≤ sizeLine
      · rw [if_pos hz] at p
        obtain ⟨hzz, Gd, Y, w, hG, hY⟩ := io
        have nD : Dd ≠ ad.ad := d1.ne hDd
        -- the outer loop
        refine ⟨fun i m H2 => m + i = ds.length ∧ ∃ g2 acc ya yr, H2 Dd = some (.lst acc) ∧ RepAll K mg ad H2 acc ya ∧ DrawOk ad H2 g2 ∧ Keep ad H1 H2 ∧ Perm H1 H2 ∧ comp2L own own1 t c it1 t1 c1 e S (ds.drop i) g2 = .ok yr gz ∧ ya ++ yr = ys,
          ⟨ds.length, by omega, g1, [], [], ys, upd_same, .nil, d1.upd hDd, Keep.upd hDd, Perm.upd hDd, by rw [List.drop_zero]; exact rc, rfl⟩, fun i m H2 ⟨em, g2, acc, ya, yr, eD, ra, d2, k2, p2, ec, ey⟩ => ?_⟩
        by_cases hi : i < ds.length
        · refine .inr ⟨w.goes i H2 hi (hG H2 p2), fun H' => ∃ g2 acc ya yr, H' Dd = some (.lst acc) ∧ RepAll K mg ad H' acc ya ∧ DrawOk ad H' g2 ∧ Keep ad H1 H' ∧ Perm H1 H' ∧ comp2L own own1 t c it1 t1 c1 e S (ds.drop (i + 1)) g2 = .ok yr gz ∧ ya ++ yr = ys, fun H' q => ⟨m - 1, by omega, by omega, q⟩, fun x H3 y => ?_⟩
          obtain ⟨hH, d, ed, rdd⟩ := hY i H2 x H3 hi p2 (w.yields i H2 x H3 hi (hG H2 p2) y)
          have k3 : Keep ad H2 H3 := by
            rcases hH with rfl | ⟨T, o, hT, rfl⟩
            · exact .refl _ _
            · exact Keep.upd hT
          have d3 : DrawOk ad H3 g2 := by
            rcases hH with rfl | ⟨T, o, hT, rfl⟩
            · exact d2
            · exact d2.upd hT
          have edr : ds.drop i = d :: ds.drop (i + 1) := by
            obtain ⟨hl, e⟩ := List.getElem?_eq_some_iff.mp ed
            rw [List.drop_eq_getElem_cons hl, e]
          rw [edr] at ec
          unfold comp2L at ec
          cases es : setD t d (wipeD S own) with
          | none => rw [es] at ec; cases ec
          | some S1 =>
            rw [es] at ec
            simp only at ec
            have srW : SR K mg ad H3 (B ++ own) (wipe σ own) (wipeD S own) := ⟨by rw [wipe_length, wipeD_len]; exact h.sr.1, fun j hj d' e' => by
              rw [wipeD_get] at e'
              by_cases hm : j ∈ own
              · rw [if_pos hm] at e'
                cases q : S[j]? with
                | none => rw [q] at e'; cases e'
                | some z => rw [q] at e'; cases e'
              · rw [if_neg hm] at e'
                have hjB : j ∈ B := (List.mem_append.mp hj).elim id fun z => absurd z hm
                obtain ⟨v, e1, r1⟩ := h.sr.right.2 j hjB d' e'
                exact ⟨v, by rw [wipe_get, if_neg hm]; exact e1, (r1.keep (k1.trans k2) h.dk).keep k3 d2⟩⟩
            refine gT_keep (gT_D rdd srW es (Q := fun σ' H' => H' = H3 ∧ ∃ C, (∀ i, i ∈ t.is ∨ i ∈ B ++ own → i ∈ C) ∧ SR K mg ad H3 C σ' S1) fun σ' C hC s => ⟨rfl, C, hC, s⟩) fun σ2 hk hl2 ⟨_, C, hC, s2⟩ => ⟨?_, ?_⟩
            · apply List.ext_getElem?
              intro j
              rw [wipe_get, wipe_get]
              by_cases hm : j ∈ own
              · rw [if_pos hm, if_pos hm]
                have e1 : σ2.length = σ.length := by rw [hl2, wipe_length]
                by_cases hj : j < σ.length
                · rw [List.getElem?_eq_getElem hj, List.getElem?_eq_getElem (by rw [e1]; exact hj)]
                  rfl
                · rw [List.getElem?_eq_none (by omega), List.getElem?_eq_none (by omega)]
              · rw [if_neg hm, if_neg hm, hk j fun z => hm (hown j z), wipe_get, if_neg hm]
            · have hs : ∀ C', (∀ i ∈ C', i ∈ Bc ++ (Bi1 ++ (Bc1 ++ Be)) ∨ i ∈ own) → SR K mg ad H3 C' σ2 S1 := fun C' hC' => ⟨s2.1, fun j hj => s2.2 j (hC j (.inr (by
                rcases hC' j hj with z | z
                · rcases hB j z with z | z
                  · exact List.mem_append_right _ z
                  · exact List.mem_append_left _ z
                · exact List.mem_append_right _ z)))⟩
              refine ⟨ad, S1, g2, hs Bc (fun i hi => .inl (List.mem_append_left _ hi)), d3, ?_⟩
              cases rcc : c S1 g2 with
              | bad => rw [rcc] at ec; cases ec
              | er x g' => rw [rcc] at ec; cases ec
              | ok bv g3 =>
                rw [rcc] at ec
                intro bv' H4 k4 d4 ebv
                subst ebv
                have kD : H4 Dd = some (.lst acc) := k4 _ _ (k3 _ _ eD nD) nD
                have p4 : Perm H1 H4 := p2.trans ((k3.perm d2).trans (k4.perm d3))
                cases bv' with
                | false => exact iteF (A := rdI K mg W0 Bi1 it1 σ2 H4 _) ⟨g3, acc, ya, yr, kD, (ra.keep k3 d2).keep k4 d3, d4, (k2.trans k3).trans k4, p4, ec, ey⟩
                | true =>
                  refine iteT (B := ∃ g2 acc ya yr, _) ⟨ad, S1, g3, (hs Bi1 fun i hi => .inl (List.mem_append_right _ (List.mem_append_left _ hi))).keep k4 d3, d4, ?_⟩
                  simp only at ec
                  cases ri : it1 S1 g3 with
                  | bad => rw [ri] at ec; cases ec
                  | er x g' => rw [ri] at ec; cases ec
                  | ok ds1 g5 =>
                    rw [ri] at ec
                    simp only at ec
                    intro J1 H5 k5 d5 io1
                    have kD5 : H5 Dd = some (.lst acc) := k5 _ _ kD nD
                    cases rin : compL own1 t1 c1 e S1 ds1 g5 with
                    | bad => rw [rin] at ec; cases ec
                    | er x g' => rw [rin] at ec; cases ec
                    | ok ys1 g6 =>
                      rw [rin] at ec
                      simp only at ec
                      cases rr : comp2L own own1 t c it1 t1 c1 e S (ds.drop (i + 1)) g6 with
                      | bad => simp only [rr, R.map] at ec; cases ec
                      | er x g' => simp only [rr, R.map] at ec; cases ec
                      | ok yr' gz' =>
                        simp only [rr, R.map, R.ok.injEq] at ec
                        obtain ⟨ec1, ec2⟩ := ec
                        have sr5 : SR K mg ad H5 (B ++ own) σ2 S1 := SR.keep (SR.keep (⟨s2.1, fun j hj => s2.2 j (hC j (.inr hj))⟩ : SR K mg ad H3 (B ++ own) σ2 S1) k4 d3) k5 d4
                        have srW5 : SR K mg ad H5 ((B ++ own) ++ own1) (wipe σ2 own1) (wipeD S1 own1) := ⟨by rw [wipe_length, wipeD_len]; exact sr5.1, fun j hj d' e' => by
                          rw [wipeD_get] at e'
                          by_cases hm : j ∈ own1
                          · rw [if_pos hm] at e'
                            cases q : S1[j]? with
                            | none => rw [q] at e'; cases e'
                            | some z => rw [q] at e'; cases e'
                          · rw [if_neg hm] at e'
                            obtain ⟨v, e1, r1⟩ := sr5.2 j ((List.mem_append.mp hj).elim id fun z => absurd z hm) d' e'
                            exact ⟨v, by rw [wipe_get, if_neg hm]; exact e1, r1⟩⟩
                        have k15 : Keep ad H1 H5 := ((k2.trans k3).trans k4).trans k5
                        have p15 : Perm H1 H5 := p4.trans (k5.perm d4)
                        have ey' : (ya ++ ys1) ++ yr' = ys := by rw [← ey, ← ec1, List.append_assoc]
                        refine comp_loop (B := B ++ own) (Hb := H1) (Hi := H5) (ya0 := ya) (acc0 := acc) hown1 (fun i hi => .inr ?_) hDd nD io1 kD5 (((ra.keep k3 d2).keep k4 d3).keep k5 d4) d5 k15 (.refl _) ?_ rin srW5 fun H6 acc6 e6 r6 d6 k6 p6 => ⟨g6, acc6, ya ++ ys1, yr', e6, r6, d6, k6, p15.trans p6, by rw [ec2] at rr; exact rr, ey'⟩
                        · rcases hB i (List.mem_append_right _ (List.mem_append_right _ hi)) with z | z
                          · exact List.mem_append_right _ z
                          · exact List.mem_append_left _ z
                        · have := congrArg List.length ey'
                          rw [List.length_append] at this
                          omega
        · have hie : i = ds.length := by omega
          subst hie
          rw [List.drop_length] at ec
          cases ec
          rw [List.append_nil] at ey
          subst ey
          exact .inl ⟨w.stops H2 (hG H2 p2), p _ H2 (k1.trans k2) d2 ⟨Dd, acc, rfl, k1.free (d1.ne hDd) hDd, eD, ra⟩⟩
      · rw [if_neg hz] at p
        exact p.elim
end

/-! more built-ins -/
section
variable {X : Cx} {W : WX} {B Bi Bc Bi1 Bc1 Be : List Nat} {t t1 : Tgt} {it it1 : DSt → G → R (List D)} {c c1 : BT} {e : ET} {elt tg iter tg1 iter1 : Expr} {ifs ifs1 : List Expr} {scope : Scope} {own : List (Str × Nat)} {own1 : List Nat} {pos spos py : Pos}
theorem dx_comp2 (hc : X.calm = true) (hN : X.N.Nodup) (ok : BlkOk X.N X.env.scope scope own) (hown : ∀ i ∈ t.is, i ∈ own.map (·.2)) (hown1 : ∀ i ∈ t1.is, i ∈ own1) (h1o : ∀ i ∈ own1, i ∈ own.map (·.2)) (hB : ∀ i ∈ Bc ++ (Bi1 ++ (Bc1 ++ Be)), i ∈ own.map (·.2) ∨ i ∈ B)
    (hi : PI X tg iter (rdI X.K X.mg W Bi it)) (hg : ∀ s H C cl fp, TgOk (Cx.bk X scope s H C cl fp) tg t) (ht : ∀ s H C cl fp, PTs (Cx.bk X scope s H C cl fp) ifs (eT X.K X.mg W0 Bc c)) (hi1 : ∀ s H C cl fp, PI (Cx.bk X scope s H C cl fp) tg1 iter1 (rdI X.K X.mg W0 Bi1 it1)) (hg1 : ∀ s H C cl fp, TgOk (Cx.bk X scope s H C cl fp) tg1 t1) (ht1 : ∀ s H C cl fp, PTs (Cx.bk X scope s H C cl fp) ifs1 (eT X.K X.mg W0 Bc1 c1)) (he : ∀ s H C cl fp, PE (Cx.bk X scope s H C cl fp) elt (eE X.K X.mg W0 Be e))
    (hs : ∀ x, foldedSetIterable iter X.env x = pure x := by intro _; rfl) (hs1 : ∀ env x, foldedSetIterable iter1 env x = pure x := by intro _ _; rfl) : PE X (.ListComp elt [⟨tg, iter, ifs, 0⟩, ⟨tg1, iter1, ifs1, 0⟩] scope pos) (eX X.K X.mg W (Bi ++ B) (xComp2 (own.map (·.2)) own1 t it c it1 t1 c1 e)) :=
  PE.imp (pe_lc2 hc hN hi ok h1o (fun s H C cl fp => (hg s H C cl fp).pg) ht hi1 (fun s H C cl fp => (hg1 s H C cl fp).pg) ht1 he hs hs1) (comp2_ap hown hown1 h1o hB)
theorem ds_setLc2 {i : Nat} {y : Str} (hc : X.calm = true) (hN : X.N.Nodup) (hy : X.N[i]? = some y) (hyl : X.env.scope.names.lookup y = some .local) (hsw : swapsWith (.ListComp elt [⟨tg, iter, ifs, 0⟩, ⟨tg1, iter1, ifs1, 0⟩] scope pos) (some (.Name y py)) spos.line X.env = pure true)
    (ok : BlkOk X.N X.env.scope scope own) (hown : ∀ i ∈ t.is, i ∈ own.map (·.2)) (hown1 : ∀ i ∈ t1.is, i ∈ own1) (h1o : ∀ i ∈ own1, i ∈ own.map (·.2)) (hB : ∀ i ∈ Bc ++ (Bi1 ++ (Bc1 ++ Be)), i ∈ own.map (·.2) ∨ i ∈ B)
    (hi : PI X tg iter (rdI X.K X.mg W Bi it)) (hg : ∀ s H C cl fp, TgOk (Cx.bk X scope s H C cl fp) tg t) (ht : ∀ s H C cl fp, PTs (Cx.bk X scope s H C cl fp) ifs (eT X.K X.mg W0 Bc c)) (hi1 : ∀ s H C cl fp, PI (Cx.bk X scope s H C cl fp) tg1 iter1 (rdI X.K X.mg W0 Bi1 it1)) (hg1 : ∀ s H C cl fp, TgOk (Cx.bk X scope s H C cl fp) tg1 t1) (ht1 : ∀ s H C cl fp, PTs (Cx.bk X scope s H C cl fp) ifs1 (eT X.K X.mg W0 Bc1 c1)) (he : ∀ s H C cl fp, PE (Cx.bk X scope s H C cl fp) elt (eE X.K X.mg W0 Be e))
    (hs : ∀ x, foldedSetIterable iter X.env x = pure x := by intro _; rfl) (hs1 : ∀ env x, foldedSetIterable iter1 env x = pure x := by intro _ _; rfl) : SD X W (.Assign [.Name y py] (.ListComp elt [⟨tg, iter, ifs, 0⟩, ⟨tg1, iter1, ifs1, 0⟩] scope pos) spos) (sSet i (Bi ++ B) (xComp2 (own.map (·.2)) own1 t it c it1 t1 c1 e)) :=
  ds_lendSet (ps_setLc2 hc hN hy hyl hsw hi ok h1o (fun s H C cl fp => (hg s H C cl fp).pg) ht hi1 (fun s H C cl fp => (hg1 s H C cl fp).pg) ht1 he hs hs1) (comp2_ap hown hown1 h1o hB)
end
/-! ### least, greatest, of alike data -/
section
variable {X : Cx} {K : PySem.W.Frag} {mg : Str → Option Value}
def rPick (pick : PyData → List PyData → PyData) (K : PySem.W.Frag) : List V → Hp → VK → Prop := fun vs H Q => ∃ (a : Addr) (bs : List (V × PyData)) (d : PyData) (ds : List PyData), vs = [.ref a] ∧ (SqL K H a (bs.map (·.1)) ∨ SqT K H a (bs.map (·.1))) ∧ (∀ b ∈ bs, Dp K H b.1 b.2 ∧ b.2.canLay0 = true) ∧ bs.map (·.2) = d :: ds ∧ PySem.W.AlikeAll (d :: ds) ∧ PyData.depthAll (d :: ds) ≤ 64 ∧ ∀ b ∈ bs, b.2 = pick d ds → Q b.1 H
theorem each_reads {pins : List (Addr × Obj)} {σ : St} {H : Hp} {s : Shared} (I : Inv X pins σ H s) : ∀ {bs : List (V × PyData)} {us : List Value}, Vals (bs.map (·.1)) us → (∀ b ∈ bs, Dp X.K H b.1 b.2) → ∃ as, ReadsAll s.heap us (bs.map (·.2)) as
  | [], _, r, _ => by cases r; exact ⟨[], .nil⟩
  | b :: bs, _, r, h => by
    cases r with
    | cons r1 r2 =>
      obtain ⟨as, h1⟩ := Dp.reads I b.2 b.1 _ (h b List.mem_cons_self) r1
      obtain ⟨cs, h2⟩ := each_reads I r2 fun c hc => h c (List.mem_cons_of_mem _ hc)
      exact ⟨as ++ cs, .cons h1 h2⟩
theorem pick_at {pins : List (Addr × Obj)} {σ : St} {H : Hp} {s : Shared} {h' : Heap} {bs : List (V × PyData)} {its : List Value} {i : Nat} {v : Value} {p : PyData} {qs : List Addr} (I : Inv X pins σ H s) (rv : Vals (bs.map (·.1)) its) (hd : ∀ b ∈ bs, Dp X.K H b.1 b.2 ∧ b.2.canLay0 = true) (hi : its.toArray[i]? = some v) (r : Reads h' v p qs) (hk : ∀ b o, s.heap.get? b = some o → h'.get? b = some o) : ∃ b ∈ bs, L2.RelV b.1 v ∧ b.2 = p := by
  have hi : its[i]? = some v := by simpa using hi
  have : ∀ {bs : List (V × PyData)} {its : List Value} {i : Nat}, Vals (bs.map (·.1)) its → its[i]? = some v → ∃ b ∈ bs, L2.RelV b.1 v := by
    intro bs
    induction bs with
    | nil => intro its i rv hi; cases rv; simp at hi
    | cons b bs ih =>
      intro its i rv hi
      cases rv with
      | cons r1 r2 =>
        cases i with
        | zero => simp at hi; subst hi; exact ⟨b, List.mem_cons_self, r1⟩
        | succ i =>
          obtain ⟨c, hc, hr⟩ := ih (i := i) r2 (by simpa using hi)
          exact ⟨c, List.mem_cons_of_mem _ hc, hr⟩
  obtain ⟨b, hb, hr⟩ := this rv hi
  obtain ⟨as, r1⟩ := Dp.reads I b.2 b.1 v (hd b hb).1 hr
  exact ⟨b, hb, hr, PySem.SeqAt.Reads.unique _ _ _ _ _ (hd b hb).2 (PyProof.Rows.Reads.keeps hk r1) r⟩
theorem cr_pmin (hc : X.calm = true) (hu : X.A.units + 70 < cLine) : CallR X (.builtin "min") (rPick PySem.W.minD X.K) := by
  intro pins s σ H vs us Q I r h
  obtain ⟨a, bs, d, ds, rfl, hs, hd, eb, hal, hdp, q⟩ := h
  rw [Vals.ref1 r]
  rcases hs with hs | hs
  · obtain ⟨its, rv, hl, hz⟩ := I.list hs
    obtain ⟨as, ra⟩ := each_reads I rv fun b hb => (hd b hb).1
    rw [eb] at ra
    refine PySem.W.min_list_data (I.ok.hd hc) hl.isList (by simpa using ra) hal (by omega) fun i v h' tk cs hi rr hk => ?_
    obtain ⟨b, hb, hr, e⟩ := pick_at I rv hd hi rr hk
    exact ⟨b.1, H, I.kept hk, hr, q b hb e⟩
  · obtain ⟨its, rv, hl, hz⟩ := I.tuple hs
    obtain ⟨as, ra⟩ := each_reads I rv fun b hb => (hd b hb).1
    rw [eb] at ra
    refine PySem.W.min_tuple_data (I.ok.hd hc) hl (by simpa using ra) hal (by omega) fun i v h' tk cs hi rr hk => ?_
    obtain ⟨b, hb, hr, e⟩ := pick_at I rv hd hi rr hk
    exact ⟨b.1, H, I.kept hk, hr, q b hb e⟩
theorem cr_pmax (hc : X.calm = true) (hu : X.A.units + 70 < cLine) : CallR X (.builtin "max") (rPick PySem.W.maxD X.K) := by
  intro pins s σ H vs us Q I r h
  obtain ⟨a, bs, d, ds, rfl, hs, hd, eb, hal, hdp, q⟩ := h
  rw [Vals.ref1 r]
  rcases hs with hs | hs
  · obtain ⟨its, rv, hl, hz⟩ := I.list hs
    obtain ⟨as, ra⟩ := each_reads I rv fun b hb => (hd b hb).1
    rw [eb] at ra
    refine PySem.W.max_list_data (I.ok.hd hc) hl.isList (by simpa using ra) hal (by omega) fun i v h' tk cs hi rr hk => ?_
    obtain ⟨b, hb, hr, e⟩ := pick_at I rv hd hi rr hk
    exact ⟨b.1, H, I.kept hk, hr, q b hb e⟩
  · obtain ⟨its, rv, hl, hz⟩ := I.tuple hs
    obtain ⟨as, ra⟩ := each_reads I rv fun b hb => (hd b hb).1
    rw [eb] at ra
    refine PySem.W.max_tuple_data (I.ok.hd hc) hl (by simpa using ra) hal (by omega) fun i v h' tk cs hi rr hk => ?_
    obtain ⟨b, hb, hr, e⟩ := pick_at I rv hd hi rr hk
    exact ⟨b.1, H, I.kept hk, hr, q b hb e⟩
/-! on data -/
def sameKind (ps : List PyData) : Bool := ps.all (fun d => ps.all fun e => PySem.W.alike d e) && ps.all (fun d => match d with | .none => false | _ => true) && ps.all (fun p => SeqAt.shaped p)
/-- the first of the least, of the greatest -/
def leastD (d : D) (ds : List D) : D := ds.foldl (fun a y => if PySem.W.dataLt y.py a.py then y else a) d
def mostD (d : D) (ds : List D) : D := ds.foldl (fun a y => if PySem.W.dataLt a.py y.py then y else a) d
theorem leastD_py : ∀ (ds : List D) (d : D), (leastD d ds).py = PySem.W.minD d.py (pyAll ds)
  | [], _ => rfl
  | y :: ds, d => by
    show (leastD _ ds).py = PySem.W.minD _ (pyAll ds)
    rw [leastD_py ds]
    congr 1
    dsimp only
    split <;> rfl
theorem mostD_py : ∀ (ds : List D) (d : D), (mostD d ds).py = PySem.W.maxD d.py (pyAll ds)
  | [], _ => rfl
  | y :: ds, d => by
    show (mostD _ ds).py = PySem.W.maxD _ (pyAll ds)
    rw [mostD_py ds]
    congr 1
    dsimp only
    split <;> rfl
mutual
theorem py_inj : ∀ (a b : D), a.py.canLay0 = true → a.py = b.py → a = b
  | .non, b, _, h => by cases b <;> simp [D.py] at h ⊢
  | .bl _, b, _, h => by cases b <;> simp [D.py] at h ⊢ <;> exact h
  | .int _, b, _, h => by cases b <;> simp [D.py] at h ⊢ <;> exact h
  | .str _, b, _, h => by cases b <;> simp [D.py] at h ⊢ <;> exact h
  | .draw, _, c, _ => by simp [D.py, PyData.canLay0] at c
  | .fn _, _, c, _ => by simp [D.py, PyData.canLay0] at c
  | .dct _ _, _, c, _ => by simp [D.py, PyData.canLay0] at c
  | .tup xs, b, c, h => by
    cases b <;> simp [D.py] at h ⊢
    exact pyAll_inj xs _ (by simpa [D.py, PyData.canLay0] using c) h
  | .lst xs, b, c, h => by
    cases b <;> simp [D.py] at h ⊢
    exact pyAll_inj xs _ (by simpa [D.py, PyData.canLay0] using c) h
theorem pyAll_inj : ∀ (a b : List D), PyData.canLayAll0 (pyAll a) = true → pyAll a = pyAll b → a = b
  | [], [], _, _ => rfl
  | [], _ :: _, _, h => by simp [pyAll] at h
  | _ :: _, [], _, h => by simp [pyAll] at h
  | x :: xs, y :: ys, c, h => by
    simp only [pyAll, PyData.canLayAll0, Bool.and_eq_true] at c
    simp only [pyAll, List.cons.injEq] at h
    rw [py_inj x y c.1 h.1, pyAll_inj xs ys c.2 h.2]
end
def pickD (f : D → List D → D) : List D → Option D
  | [.lst (d :: ds)] => if sameKind (pyAll (d :: ds)) then some (f d ds) else none
  | [.tup (d :: ds)] => if sameKind (pyAll (d :: ds)) then some (f d ds) else none
  | _ => none
theorem pick_mem {f : D → D → Bool} : ∀ (ds : List D) (d : D), ds.foldl (fun a y => if f a y then y else a) d ∈ d :: ds
  | [], d => List.mem_cons_self
  | y :: ds, d => by
    rw [List.foldl_cons]
    have := pick_mem (f := f) ds (if f d y then y else d)
    rcases List.mem_cons.mp this with h | h
    · rw [h]; split
      · exact List.mem_cons_of_mem _ List.mem_cons_self
      · exact List.mem_cons_self
    · exact List.mem_cons_of_mem _ (List.mem_cons_of_mem _ h)
theorem ad_pick {pick : PyData → List PyData → PyData} {f : D → List D → D} (hf : ∀ d ds, (f d ds).py = pick d.py (pyAll ds)) : AdC (RpE K mg) K mg (rPick pick K) (pickD f) := by
  have main : ∀ ad H g a xs d ds c, DrawOk ad H g → (SqL K H a xs ∨ SqT K H a xs) → RepAll K mg ad H xs (d :: ds) → (if sameKind (pyAll (d :: ds)) then some (f d ds) else none) = some c → ∀ Q : VK, (∀ v H', Keep ad H H' → DrawOk ad H' g → Rep K mg ad H' v c → Q v H') → rPick pick K [.ref a] H Q := by
    intro ad H g a xs d ds c dk hs ra e Q q
    split at e
    · rename_i h
      cases e
      unfold sameKind at h
      simp only [Bool.and_eq_true] at h
      obtain ⟨⟨h1, h2⟩, h3⟩ := h
      obtain ⟨zs, ez1, ez2, ez3⟩ : ∃ zs : List (V × D), zs.map (·.1) = xs ∧ zs.map (·.2) = d :: ds ∧ ∀ z ∈ zs, Rep K mg ad H z.1 z.2 := by
        clear h1 h2 h3 q hs hf
        generalize d :: ds = es at ra
        induction es generalizing xs with
        | nil => cases ra; exact ⟨[], rfl, rfl, fun z h => nomatch h⟩
        | cons d ds ih =>
          cases ra with
          | cons r rs =>
            obtain ⟨zs, e1, e2, e3⟩ := ih _ rs
            refine ⟨(_, d) :: zs, by rw [List.map_cons, e1], by rw [List.map_cons, e2], fun z hz => ?_⟩
            rcases List.mem_cons.mp hz with rfl | hz
            · exact r
            · exact e3 z hz
      have ep : (zs.map fun z => (z.1, z.2.py)).map (·.2) = d.py :: pyAll ds := by
        show _ = pyAll (d :: ds)
        rw [pyAll_map, ← ez2, List.map_map, List.map_map]; rfl
      have ev : (zs.map fun z => (z.1, z.2.py)).map (·.1) = xs := by rw [← ez1, List.map_map]; rfl
      have sh : ∀ z ∈ zs, SeqAt.shaped z.2.py = true := fun z hz => by
        refine List.all_eq_true.mp h3 _ ?_
        rw [pyAll_map, ← ez2]
        exact List.mem_map.mpr ⟨_, List.mem_map.mpr ⟨z, hz, rfl⟩, rfl⟩
      refine ⟨a, zs.map fun z => (z.1, z.2.py), d.py, pyAll ds, rfl, by rw [ev]; exact hs, fun b hb => ?_, ep, ⟨fun x hx y hy => List.all_eq_true.mp (List.all_eq_true.mp h1 x hx) y hy, fun x hx => ?_⟩, ?_, fun b hb eb => ?_⟩
      · obtain ⟨z, hz, rfl⟩ := List.mem_map.mp hb
        exact ⟨(ez3 z hz).dp _ _ (SeqAt.canLay_of_shaped (sh z hz)), SeqAt.canLay_of_shaped (sh z hz)⟩
      · have := List.all_eq_true.mp h2 x hx
        rintro rfl
        cases this
      · have : ∀ ps : List PyData, (∀ p ∈ ps, SeqAt.shaped p = true) → PyData.depthAll ps ≤ 64 := by
          intro ps
          induction ps with
          | nil => exact fun _ => Nat.zero_le _
          | cons p ps ih => exact fun h => Nat.max_le.mpr ⟨SeqAt.depth_of_shaped (h p List.mem_cons_self), ih fun q hq => h q (List.mem_cons_of_mem _ hq)⟩
        exact this _ fun p hp => List.all_eq_true.mp h3 p hp
      · obtain ⟨z, hz, rfl⟩ := List.mem_map.mp hb
        have : z.2 = f d ds := py_inj _ _ (SeqAt.canLay_of_shaped (sh z hz)) (eb.trans (hf d ds).symm)
        rw [← this] at q
        exact q _ _ (.refl _ _) dk (ez3 z hz)
    · cases e
  intro ad H g xs ds c dk r e Q q
  unfold pickD at e
  split at e
  · obtain ⟨x, rfl, rx⟩ := r.one
    cases rx with
    | lst s ra => exact main ad H g _ _ _ _ c dk (.inl s.l) ra e Q q
  · obtain ⟨x, rfl, rx⟩ := r.one
    cases rx with
    | tup s ra => exact main ad H g _ _ _ _ c dk (.inr s.t) ra e Q q
  · cases e
abbrev minL : List D → Option D := pickD leastD
abbrev maxL : List D → Option D := pickD mostD
theorem ad_minL : AdC (RpE K mg) K mg (rPick PySem.W.minD K) minL := ad_pick fun d ds => leastD_py ds d
theorem ad_maxL : AdC (RpE K mg) K mg (rPick PySem.W.maxD K) maxL := ad_pick fun d ds => mostD_py ds d
/-! of two intL -/
def max2D : List D → Option D
  | [.int i, .int j] => some (.int (if j > i then j else i))
  | _ => none
def min2D : List D → Option D
  | [.int i, .int j] => some (.int (if j < i then j else i))
  | _ => none
theorem ad_max2 : AdC (RpE K mg) K mg (fun xs H Q => ∃ i j, xs = [.int i, .int j] ∧ Q (.int (if j > i then j else i)) H) max2D := by
  intro ad H g xs ds c dk r e Q q
  unfold max2D at e
  split at e
  · obtain ⟨x, y, rfl, rx, ry⟩ := r.two
    cases rx; cases ry; cases e
    exact ⟨_, _, rfl, q _ _ (.refl _ _) dk (.int _)⟩
  · cases e
theorem ad_min2 : AdC (RpE K mg) K mg (fun xs H Q => ∃ i j, xs = [.int i, .int j] ∧ Q (.int (if j < i then j else i)) H) min2D := by
  intro ad H g xs ds c dk r e Q q
  unfold min2D at e
  split at e
  · obtain ⟨x, y, rfl, rx, ry⟩ := r.two
    cases rx; cases ry; cases e
    exact ⟨_, _, rfl, q _ _ (.refl _ _) dk (.int _)⟩
  · cases e
/-! a sum of whole numbers -/
def intL : List D → Option (List Int)
  | [] => some []
  | .int i :: r => (intL r).map (i :: ·)
  | _ :: _ => none
theorem ints_eq : ∀ {ds : List D} {ns : List Int}, intL ds = some ns → ds = ns.map D.int
  | [], _, e => by cases e; rfl
  | .int i :: ds, _, e => by
    simp only [intL, Option.map_eq_some_iff] at e
    obtain ⟨ns, e, rfl⟩ := e
    rw [ints_eq e]; rfl
  | .non :: _, _, e => by simp [intL] at e
  | .bl _ :: _, _, e => by simp [intL] at e
  | .str _ :: _, _, e => by simp [intL] at e
  | .tup _ :: _, _, e => by simp [intL] at e
  | .lst _ :: _, _, e => by simp [intL] at e
  | .draw :: _, _, e => by simp [intL] at e
  | .fn _ :: _, _, e => by simp [intL] at e
  | .dct _ _ :: _, _, e => by simp [intL] at e
theorem ints_map : ∀ ns : List Int, intL (ns.map D.int) = some ns
  | [] => rfl
  | n :: ns => by simp [intL, ints_map ns]
theorem rep_ints {ad : DA} {H : Hp} : ∀ {ns : List Int} {vs : List V}, RepAll K mg ad H vs (ns.map D.int) → vs = ns.map V.int
  | [], _, r => by cases r; rfl
  | n :: ns, _, r => by
    cases r with
    | cons a b => cases a; rw [rep_ints b]; rfl
def sumD : List D → Option D
  | [.lst ds] => (intL ds).map fun ns => .int ns.sum
  | _ => none
theorem ad_sum : AdC (RpE K mg) K mg (rSum K) sumD := by
  intro ad H g xs ds c dk r e Q q
  unfold sumD at e
  split at e
  · obtain ⟨x, rfl, rx⟩ := r.one
    rw [Option.map_eq_some_iff] at e
    obtain ⟨ns, e, rfl⟩ := e
    cases rx with
    | lst s ra =>
      rw [ints_eq e] at ra
      have := rep_ints ra
      subst this
      exact ⟨_, ns, rfl, s.l, q _ _ (.refl _ _) dk (.int _)⟩
  · cases e
/-! xs.index(y), of what is there -/
def firstAt (p : D → Bool) : List D → Nat → Option Nat
  | [], _ => none
  | d :: ds, n => if p d then some n else firstAt p ds (n + 1)
theorem firstAt_get {p : D → Bool} : ∀ {ds : List D} {n k : Nat}, firstAt p ds n = some k → ∃ j d, k = n + j ∧ ds[j]? = some d ∧ p d = true ∧ ∀ m e, m < j → ds[m]? = some e → p e = false
  | [], _, _, h => by cases h
  | d :: ds, n, k, h => by
    unfold firstAt at h
    split at h
    · cases h
      exact ⟨0, d, rfl, rfl, by assumption, fun m e hm => absurd hm (Nat.not_lt_zero _)⟩
    · rename_i hp
      obtain ⟨j, e, h1, h2, h3, h4⟩ := firstAt_get h
      refine ⟨j + 1, e, by omega, by simpa using h2, h3, fun m e' hm he => ?_⟩
      cases m with
      | zero => simp at he; subst he; simpa using hp
      | succ m => exact h4 m e' (by omega) (by simpa using he)
def indexD (a : D) (bs : List D) : Option D := match a, bs with
  | .lst ds, [d] => if SeqAt.shaped (D.lst ds).py = true ∧ SeqAt.shaped d.py = true then (firstAt (fun z => PyData.eqv z.py d.py) ds 0).map fun k => .int (k : Nat) else none
  | _, _ => none
theorem ad_index : AdM (RpE K mg) K mg (rIndexD K) indexD := by
  intro ad H g x xs d ds c dk rx rs e Q q
  unfold indexD at e
  split at e
  · obtain ⟨y, rfl, ry⟩ := rs.one
    split at e
    · rename_i es d h
      rw [Option.map_eq_some_iff] at e
      obtain ⟨k, e, rfl⟩ := e
      obtain ⟨j, z, h1, h2, h3, h4⟩ := firstAt_get e
      have hx := rx.dp _ _ (SeqAt.canLay_of_shaped h.1)
      have hp : ∀ m : Nat, (pyAll es)[m]? = (es[m]?).map D.py := fun m => by rw [pyAll_map, List.getElem?_map]
      cases rx with
      | lst s ra =>
        refine ⟨_, y, d.py, pyAll es, j, z.py, rfl, rfl, hx, ry.dp _ _ (SeqAt.canLay_of_shaped h.2), h.1, h.2, by rw [hp, h2]; rfl, h3, fun m z' hm hz => ?_, ?_⟩
        · rw [hp, Option.map_eq_some_iff] at hz
          obtain ⟨w, hw, rfl⟩ := hz
          exact h4 m w hm hw
        · rw [show (j : Nat) = k by omega]
          exact q _ _ (.refl _ _) dk (.int _)
    · cases e
  · cases e
end

/-! tuples backwards, tuples several times -/
section
variable {prog : Program} {w : World} {A : Around} {E : Value → Shared → Prop} {s : Shared}
theorem applied_back {sl : Addr} {tk : Tok} {n : Nat} {Q : Int × Int × Nat → Shared → Prop} (hs : s.heap.IsSliceOf sl .none .none (.int (-1) tk)) (h : Q ((n : Int) - 1, -1, n) s) : wpAny (model prog w) A (Builtin.Slice.sliceApplied (.ref sl) (pure (n : Int))) Q E s := by
  obtain ⟨ob, e1, e2, e3⟩ := hs
  unfold Builtin.Slice.sliceApplied Builtin.Slice.sliceFields
  refine wpAny_bind (wpAny_bind (wpAny_field e1 e3 (x := Value.none) rfl (wpAny_bind (wpAny_field e1 e3 (x := Value.none) rfl (wpAny_bind (wpAny_field e1 e3 (x := Value.int (-1) tk) rfl (wpAny_pure ?_)))))))
  refine wpAny_bind (HT.slicePart_ (.int (-1) tk) ?_)
  dsimp only [Option.getD_some]
  rw [if_neg (show ¬ (((-1 : Int) == 0) = true) by decide)]
  refine wpAny_bind (HT.slicePart_ .none (wpAny_bind (HT.slicePart_ .none (wpAny_bind (wpAny_pure ?_)))))
  have e : (match Builtin.Slice.sliceAdjust none none (-1) (n : Int) with | (lo, hi) => (lo, (-1 : Int), Builtin.Slice.slicePlaces lo hi (-1))) = ((n : Int) - 1, -1, n) := by
    have h1 : Builtin.Slice.sliceAdjust none none (-1) (n : Int) = ((n : Int) - 1, -1) := rfl
    rw [h1]
    have h2 : Builtin.Slice.slicePlaces ((n : Int) - 1) (-1) (-1) = n := by
      unfold Builtin.Slice.slicePlaces
      rw [if_neg (by decide)]
      by_cases hn : n = 0
      · subst hn; rfl
      · rw [if_pos (by omega)]
        have : ((n : Int) - 1 - -1 - 1) / (- -1) + 1 = n := by
          rw [show (- -1 : Int) = 1 from rfl, Int.ediv_one]; omega
        rw [this]; rfl
    dsimp only
    rw [h2]
  show wpAny _ _ (pure (match Builtin.Slice.sliceAdjust none none (-1) (n : Int) with | (lo, hi) => (lo, (-1 : Int), Builtin.Slice.slicePlaces lo hi (-1)))) _ _ s
  rw [e]
  exact wpAny_pure h
theorem range_back (xs : List Value) : (List.range xs.length).filterMap (fun k : Nat => xs.toArray[(((xs.length : Nat) : Int) - 1 + (k : Int) * -1).toNat]?) = xs.reverse := by
  apply List.ext_getElem?
  intro i
  have e1 : (List.range xs.length).filterMap (fun k : Nat => xs.toArray[(((xs.length : Nat) : Int) - 1 + (k : Int) * -1).toNat]?) = (List.range xs.length).map (fun k => (xs[xs.length - 1 - k]?).getD Value.none) := by
    have gen : ∀ (ks : List Nat) (f : Nat → Option Value) (g : Nat → Value), (∀ k ∈ ks, f k = some (g k)) → ks.filterMap f = ks.map g := by
      intro ks f g h
      induction ks with
      | nil => rfl
      | cons k ks ih => rw [List.filterMap_cons, h k List.mem_cons_self, List.map_cons, ih fun j hj => h j (List.mem_cons_of_mem _ hj)]
    refine gen _ _ _ fun k hk => ?_
    have hk := List.mem_range.mp hk
    rw [show (((xs.length : Nat) : Int) - 1 + (k : Int) * -1).toNat = xs.length - 1 - k by omega]
    have hl : xs.length - 1 - k < xs.length := by omega
    simp [hl]
  rw [e1]
  by_cases hi : i < xs.length
  · rw [List.getElem?_map, List.getElem?_range hi, List.getElem?_reverse hi]
    have hl : xs.length - 1 - i < xs.length := by omega
    simp [hl]
  · rw [List.getElem?_eq_none (by simpa using hi), List.getElem?_eq_none (by simpa using hi)]
theorem item_back {t sl : Addr} {its : List Value} {tk : Tok} {Q : Value → Shared → Prop} (ht : IsTup s.heap t its.toArray) (hs : s.heap.IsSliceOf sl .none .none (.int (-1) tk)) (hz : its.length ≤ sizeLine)
    (h : Q (.ref s.heap.objs.size) { s with heap := s.heap.push { cls := .type "tuple", data := .seq its.reverse.toArray } }) : wpAny (model prog w) A (getItem (.ref t) (.ref sl)) Q E s := by
  have ok : sizeOk (.seq its.reverse.toArray) := by
    show its.reverse.toArray.size ≤ sizeLine
    simpa using hz
  have isS : s.TypeIs (.ref sl) "slice" := by obtain ⟨ob, e1, e2, _⟩ := hs; exact ⟨ob, e1, e2⟩
  unfold getItem
  try with_reducible refine wpAny_holding ?_
  first | refine wpAny_bind (wpAny_pure ?_) | skip
  refine wpAny_bind (wpAny_sequenceKey ht.typeIs (by decide) (wpAny_bind (wpAny_callSpecial?_slot (name := Str.ofString "__getitem__") ht.typeIs PyProof.Rows.slot_tuple_getitem (wpAny_call_entry PyProof.Rows.slot_tuple_getitem ht.typeIs entry_tuple_getitem ?_ (args_tuple_getitem _ _)))))
  show wpAny _ _ (Builtin.Tuple.tupleItemsOf (.ref t) >>= _) _ _ s
  refine wpAny_bind (tupleItemsOf_ ht (wpAny_bind (wpAny_typeOf isS ?_)))
  rw [if_pos (by decide)]
  refine wpAny_bind (applied_back (n := its.toArray.size) hs ?_)
  dsimp only
  rw [if_neg (by
    intro z
    rw [Bool.and_eq_true, Bool.and_eq_true] at z
    exact absurd z.1.2 (by decide))]
  have er : ((List.range its.toArray.size).filterMap fun (k : Nat) => its.toArray[(((its.toArray.size : Nat) : Int) - 1 + (k : Int) * -1).toNat]?).toArray = its.reverse.toArray := by
    rw [← range_back its]; simp
  rw [er]
  first
    | exact wpAny_bind (m := Builtin.Tuple.tupleExact _) (wpAny_newObj_type (wpAny_pure ⟨_, rfl, wpAny_pure h⟩) ok)
    | exact wpAny_bind (wpAny_bind (m := Builtin.Tuple.tupleExact _) (wpAny_newObj_type (wpAny_pure (wpAny_pure ⟨_, rfl, wpAny_pure h⟩)) ok))
    | exact wpAny_bind (wpAny_bind (m := Builtin.Tuple.tupleExact _) (wpAny_newObj_type (wpAny_pure ⟨_, rfl, wpAny_pure h⟩) ok))
end
/-- xs[::-1] of a tuple -/
def revD : D → Option D
  | .tup ds => some (.tup ds.reverse)
  | _ => none
def eRev (t : ET) : ET := fun S g => (t S g).bind fun d g1 => lift (revD d) g1
theorem RepAll.rev {K : PySem.W.Frag} {mg : Str → Option Value} {ad : DA} {H : Hp} : ∀ {vs : List V} {ds : List D}, RepAll K mg ad H vs ds → RepAll K mg ad H vs.reverse ds.reverse
  | _, _, .nil => .nil
  | _, _, .cons a b => by rw [List.reverse_cons, List.reverse_cons]; exact (RepAll.rev b).app (.cons a .nil)
section
variable {X : Cx} {W : WX} {B : List Nat} {e : Expr} {t : ET}
theorem pe_back {te : TE} {j : Nat} {p p' p2 pos : Pos} (he : PE X e te) : PE X (.Subscript e (.Slice none none (some (.UnaryOp .USub (.Constant (.int 1) j p) p')) p2) pos) (fun σ H Q => te σ H fun x H1 => ∃ a xs, x = .ref a ∧ SqT X.K H1 a xs ∧ QN Q xs.reverse H1) := by
  refine ⟨fun pins s σ H Q I h => ?_⟩
  refine Subscript_ (thn (he.run pins s σ H _ I h) fun v s1 ⟨x, H1, I1, r1, a, xs, ex, hx, q⟩ => ?_)
  subst ex
  cases r1
  have st : PE X (.UnaryOp .USub (.Constant (.int 1) j p) p') (tUn (rU fun i => .int (-i)) (tC (.int 1))) := pe_un un_neg pe_int
  refine wpAny_Slice ?_
  rw [evalPart_none, evalPart_some]
  refine wpAny_pure (wpAny_pure (thn (st.run pins s1 σ H1 (fun y H2 => y = .int (-1) ∧ H2 = H1) I1 ⟨1, rfl, rfl, rfl⟩) fun u s3 ⟨y, H3, I3, r3, ey, eH⟩ => ?_))
  subst ey eH
  obtain ⟨tk, rfl⟩ := r3
  have I4 : Inv X pins σ H3 { s3 with heap := s3.heap.push { cls := .type "slice", data := .fields #[.none, .none, .int (-1) tk] } } := I3.kept (t' := s3.toks) fun b ob q => Heap.get?_push_of_some _ q
  obtain ⟨its, r, ht, hz⟩ := I4.tuple hx
  refine tail_any (ops := [.ref a, .ref s3.heap.objs.size]) ht.typeIs PyProof.Rows.slot_tuple_getitem.lookup (item_back ht (Heap.IsSliceOf.new ..) (by rw [← r.length]; exact hz) ?_) (by with_unfolding_all rfl)
  exact laidN I4 r.reverse (by rw [List.length_reverse]; exact hz) q
theorem de_rev {j : Nat} {p p' p2 pos : Pos} (he : PE X e (eE X.K X.mg W B t)) : PE X (.Subscript e (.Slice none none (some (.UnaryOp .USub (.Constant (.int 1) j p) p')) p2) pos) (eE X.K X.mg W B (eRev t)) := PE.imp (pe_back he) fun σ H Q ⟨a0, S, g, h⟩ => by
  have h : At (RpE X.K X.mg) X.K X.mg W (B ++ []) (eRev t) a0 S g σ H Q := by rw [List.append_nil]; exact h
  refine .mk ((h.bind (Rp1 := RpE X.K X.mg) bkE (k := fun d _ g1 => lift (revD d) g1)).imp fun x H1 ⟨a, g1, k1, d1, r1, h2⟩ => ?_)
  have p := h2.po
  cases r1 with
  | tup s ra => exact ⟨_, _, rfl, s.t, fun q o hq ho => p _ _ (Keep.upd hq) (d1.upd hq) (.tup (.new ho) (ra.rev.keep (Keep.upd hq) d1))⟩
  | _ => exact p.elim
end
/-! ### a tuple several times -/
section
variable {X : Cx} {K : PySem.W.Frag} {mg : Str → Option Value}
theorem mul_once (l : Addr) (items : Array Value) (n : Nat) (dd : Option Addr) (sl : Array (Option Value)) (x : Int) (u : Tok) (c0 : (decide (x < -(2 ^ 63)) || decide (x ≥ 2 ^ 63)) = false) (c1 : (items.isEmpty || x == 1) = true) :
    Meets (Builtin.«tuple.__mul__» ⟨[.ref l, .int x u], []⟩) (fun _ R s => s.heap.get? l = some { cls := .type "tuple", dict := dd, data := .seq items n, slots := sl } ∧ R (.ok (.ret (.ref l))) s) :=
  .of_wp fun prog w A R s h => by
    obtain ⟨hp, g, d, tk, os⟩ := s
    obtain ⟨hl, h⟩ := h
    have f1 := AutoSeq1.idx_int
    wp_walk using wpAny_loadPart' hl
    repeat (first
      | (refine wpAny_ite_false (decide_eq_false (by rw [c0]; exact Bool.false_ne_true)) ?_; wp_walk using wpAny_loadPart' hl)
      | (refine wpAny_ite_true (decide_eq_true c1) ?_; wp_walk using wpAny_loadPart' hl))
    exact ⟨_, rfl, h⟩
def rRepT1 (K : PySem.W.Frag) : R2 := fun x y H Q => ∃ l k xs, x = .ref l ∧ y = .int k ∧ SqT K H l xs ∧ (-(2 ^ 63) ≤ k ∧ k < 2 ^ 63) ∧ (xs = [] ∨ k = 1) ∧ Q (.ref l) H
theorem op_repT1 : OpR X (binaryOp .Mult) (rRepT1 X.K) := by
  intro pins s σ H x y v u Q I rx ry ⟨l, k, xs, ex, ey, hT, ⟨h1, h2⟩, hk, q⟩
  subst ex ey
  obtain ⟨tk, ek⟩ := ry
  cases rx
  subst ek
  obtain ⟨its, r, ⟨⟨cls, dd, data, sl⟩, ho, hc, n, hd⟩, _⟩ := I.tuple hT
  dsimp only at hc hd
  subst hc hd
  have isT : s.TypeIs (.ref l) "tuple" := ⟨_, ho, rfl⟩
  have b0 : (decide (k < -(2 ^ 63)) || decide (k ≥ 2 ^ 63)) = false := by
    rw [decide_eq_false (by omega), decide_eq_false (by omega)]; rfl
  have b1 : (its.toArray.isEmpty || k == 1) = true := by
    rcases hk with hk | hk
    · subst hk; cases r; rfl
    · subst hk; simp
  have inner := call_meets (prog := X.prog) (w := X.w) (A := X.A) (E := X.xe) (s := s) (Q := fun v s' => EP X pins σ Q v s') F.slot_tuple_mul isT F.entry_tuple_mul (F.args_tuple_mul_2 _ (.int k tk)) (mul_once l its.toArray n dd sl k tk b0 b1)
  exact wpAny_binaryOp_repeat_ref (T := "tuple") (U := "int") (by decide) isT (fun s' => typeIs_int s' k tk) noFill_tuple_mul F.fills_int_mul F.slot_int_rmul repeat_tuple F.slot_int_index.lookup
    (call_meets F.slot_int_rmul (typeIs_int s k tk) F.entry_int_rmul (F.args_int_rmul_2 _ _) (int_rmul_tuple k tk l its.toArray n dd sl) ⟨ho, rfl, isT, inner ⟨ho, ⟨.ref l, H, I, rfl, q⟩⟩⟩)
/-- .. more often -/
def rRepN (K : PySem.W.Frag) : R2 := fun x y H Q => ∃ l k xs, x = .ref l ∧ y = .int k ∧ SqT K H l xs ∧ xs ≠ [] ∧ 2 ≤ k ∧ k ≤ 1000 ∧ xs.length ≤ 1000 ∧ QN Q (List.replicate k.toNat xs).flatten H
theorem op_repN : OpR X (binaryOp .Mult) (rRepN X.K) := by
  intro pins s σ H x y v u Q I rx ry ⟨l, k, xs, ex, ey, hT, hne, h1, h2, hz, q⟩
  subst ex ey
  cases rx
  obtain ⟨t, et⟩ := ry
  subst et
  obtain ⟨its, r, ⟨⟨cls, dd, data, sl⟩, ho, hc, n, hd⟩, _⟩ := I.tuple hT
  dsimp only at hc hd
  subst hc hd
  have hle : its.length = xs.length := r.length.symm
  have hpos : 0 < xs.length := List.length_pos_iff.mpr hne
  have hi : its.toArray.isEmpty = false := by
    rw [Array.isEmpty_eq_false_iff]
    intro z
    have := congrArg Array.size z
    simp at this
    rw [this] at hle
    simp at hle
    omega
  have kx : k.toNat * xs.length ≤ 1000 * 1000 := Nat.mul_le_mul (by omega) hz
  have flen : (List.replicate k.toNat its).flatten.length ≤ sizeLine := by rw [PyProof.Rows.lm_len_rep_flat, hle, sizeLine_eq]; omega
  have flen2 : (List.replicate k.toNat xs).flatten.length ≤ sizeLine := by rw [PyProof.Rows.lm_len_rep_flat, sizeLine_eq]; omega
  have hm : ((its.toArray.size : Nat) : Int) * k ≤ 1000000 := by
    rw [List.size_toArray, hle]
    have : ((xs.length : Nat) : Int) * k ≤ 1000 * k := Int.mul_le_mul_of_nonneg_right (by omega) (by omega)
    omega
  have c0 : (decide (k < -(2 ^ 63)) || decide (k ≥ 2 ^ 63)) = false := by rw [decide_eq_false (by omega), decide_eq_false (by omega)]; rfl
  have c1 : (its.toArray.isEmpty || k == 1) = false := by rw [hi, Bool.false_or]; exact beq_eq_false_iff_ne.mpr (by omega)
  have c2 : (decide (k ≤ 0) || its.toArray.isEmpty) = false := by rw [hi, Bool.or_false]; exact decide_eq_false (by omega)
  have c4 : Builtin.Tuple.tupleTooMany (((its.toArray.size : Nat) : Int) * k) = false := by
    unfold Builtin.Tuple.tupleTooMany
    rw [sizeLine_eq]
    exact decide_eq_false (by omega)
  have isT : s.TypeIs (.ref l) "tuple" := ⟨_, ho, rfl⟩
  refine wpAny_binaryOp_repeat_ref (T := "tuple") (U := "int") (by decide) isT (fun s' => typeIs_int s' k t) noFill_tuple_mul F.fills_int_mul F.slot_int_rmul repeat_tuple F.slot_int_index.lookup
    (call_meets F.slot_int_rmul (typeIs_int s k t) F.entry_int_rmul (F.args_int_rmul_2 _ _) (int_rmul_tuple k t l its.toArray n dd sl)
      ⟨ho, rfl, isT, call_meets F.slot_tuple_mul isT F.entry_tuple_mul (F.args_tuple_mul_2 _ _) (tuple_mulW l its.toArray n dd sl k t c0 c1 c2 (by omega) c4 (by rw [size_rep, List.size_toArray]; exact flen)) ⟨ho, ?_⟩⟩)
  rw [size_rep]
  exact laidN I (r.rep k.toNat) flen2 q
def rMulT (K : PySem.W.Frag) : R2 := fun x y H Q => rI CMul (fun i j => .int (i * j)) x y H Q ∨ (rRepN K x y H Q ∨ rRepT1 K x y H Q)
theorem op_mulT : OpR X (binaryOp .Mult) (rMulT X.K) := OpR.or op_mul (OpR.or op_repN op_repT1)
/-- a product, or a tuple several times (once at the least) -/
def mulT : D → D → Option D
  | .int i, .int j => if CMul i j then some (.int (i * j)) else none
  | .tup ds, .int k => if (1 ≤ k ∧ k ≤ 1000) ∧ ds.length ≤ 1000 then some (.tup (List.replicate k.toNat ds).flatten) else none
  | _, _ => none
theorem ad_mulT : AdG (RpE K mg) K mg (rMulT K) mulT := by
  intro ad H g x y a b c dk rx ry e Q q
  unfold mulT at e
  split at e
  · cases rx; cases ry
    split at e
    · cases e; exact .inl ⟨_, _, rfl, rfl, by assumption, q _ _ (.refl _ _) dk (.int _)⟩
    · cases e
  · rename_i ds k
    cases ry
    cases rx with
    | tup s r =>
      split at e
      · rename_i hk
        cases e
        by_cases h1 : k = 1 ∨ ds = []
        · refine .inr (.inr ⟨_, _, _, rfl, rfl, s.t, ⟨by omega, by omega⟩, ?_, q _ _ (.refl _ _) dk ?_⟩)
          · rcases h1 with h1 | h1
            · exact .inr h1
            · subst h1; cases r; exact .inl rfl
          · have : (List.replicate k.toNat ds).flatten = ds := by
              rcases h1 with h1 | h1
              · subst h1; simp
              · subst h1; simp
            rw [this]
            exact .tup s r
        · refine .inr (.inl ⟨_, _, _, rfl, rfl, s.t, fun z => h1 (.inr ?_), by omega, by omega, by rw [r.len]; exact hk.2, fun p o hp ho => q _ _ (Keep.upd hp) (dk.upd hp) (.tup (.new ho) ((r.reps _).keep (Keep.upd hp) dk))⟩)
          have := r.len
          rw [z] at this
          exact List.eq_nil_of_length_eq_zero this.symm
      · cases e
  · cases e
end

/-! zip of two lists or tuples, of one kind or not -/
/-- b: a list; else a tuple -/
def seqB (b : Bool) (K : PySem.W.Frag) (H : Hp) (a : Addr) (xs : List V) : Prop := if b = true then SqL K H a xs else SqT K H a xs
def itB (b : Bool) (h : Heap) (it l : Addr) (i : Nat) : Prop := if b = true then h.IsListIter it l i else h.IsTupleIter it l i
def atB (b : Bool) (h : Heap) (l : Addr) (items : Array Value) : Prop := if b = true then h.IsList l items else h.IsTuple l items
def itObj (b : Bool) (l : Addr) : Obj := { cls := .type (if b = true then "list_iterator" else "tuple_iterator"), data := .fields #[.ref l, .int 0 0] }
theorem draws_b {prog : Program} {w : World} {A : Around} (hh : A.handled = none) (b : Bool) (it l : Addr) (hne : l ≠ it) (items : Array Value) : Draws prog w A it [it, l] items.size (fun i v => items[i]? = some v) (fun i h => itB b h it l i ∧ atB b h l items) := by
  cases b with
  | true => exact Draws.list hh it l hne items
  | false => exact Draws.tuple hh it l hne items
theorem begins_b (b : Bool) (l : Addr) (items : Array Value) : Begins (.ref l) (itObj b l) fun h => atB b h l items := by
  cases b with
  | true => exact begins_list l items
  | false => exact begins_tuple l items
theorem itB_new {b : Bool} {h : Heap} {it l : Addr} (e : h.get? it = some (itObj b l)) : itB b h it l 0 := by
  cases b with
  | true => exact ⟨_, e, rfl, rfl⟩
  | false => exact ⟨_, e, rfl, rfl⟩
theorem itB_get {b : Bool} {h : Heap} {it l : Addr} {i : Nat} (x : itB b h it l i) : ∃ o, h.get? it = some o ∧ ∀ v, o.data ≠ .cell v := by
  cases b with
  | true => obtain ⟨o, e, _, d⟩ := x; exact ⟨o, e, fun v q => by rw [d] at q; cases q⟩
  | false => obtain ⟨o, e, _, d⟩ := x; exact ⟨o, e, fun v q => by rw [d] at q; cases q⟩
theorem itB_at {b : Bool} {h h' : Heap} {it l : Addr} {i : Nat} (x : itB b h it l i) (e : ∀ o, h.get? it = some o → h'.get? it = some o) : itB b h' it l i := by
  cases b with
  | true => exact Heap.IsListIter.at x e
  | false => exact Heap.IsTupleIter.at x e
section
variable {X : Cx} {pins : List (Addr × Obj)} {σ : St} {H : Hp} {s : Shared}
theorem seqB_at (I : Inv X pins σ H s) {b : Bool} {a : Addr} {xs : List V} (q : seqB b X.K H a xs) : ∃ its : List Value, Vals xs its ∧ atB b s.heap a its.toArray ∧ a < s.heap.objs.size := by
  cases b with
  | true => obtain ⟨its, rv, p, _⟩ := I.list q; exact ⟨its, rv, p.isList, p.lt⟩
  | false =>
    obtain ⟨its, rv, p, _⟩ := I.tuple q
    obtain ⟨o, ho, _⟩ := id p
    exact ⟨its, rv, p, Heap.lt_size ho⟩
theorem seqB_inj (I : Inv X pins σ H s) {b : Bool} {a : Addr} {xs ys : List V} (q : seqB b X.K H a xs) (r : seqB b X.K H a ys) : xs = ys := by
  cases b with
  | true => exact I.list_inj q r
  | false => exact I.tuple_inj q r
end
def YPairN (xa xb : Nat → Option V) : Nat → Hp → V → Hp → Prop := fun i H v H' => ∃ T x y, v = .ref T ∧ H T = none ∧ (∃ o, o.dict = none ∧ H' = upd H T (.frz o (.tup [x, y]))) ∧ xa i = some x ∧ xb i = some y
/-- the items as they stand at each turn, in new pairs -/
def ItPair (b1 b2 : Bool) (K : PySem.W.Frag) (a b : Addr) : It :=
  ⟨fun i H => ∃ (xs ys : List V), seqB b1 K H a xs ∧ seqB b2 K H b ys ∧ i < xs.length ∧ i < ys.length,
   fun i H v H' => ∃ T x y, v = .ref T ∧ H T = none ∧ (∃ o, o.dict = none ∧ H' = upd H T (.frz o (.tup [x, y]))) ∧ (∀ xs, seqB b1 K H a xs → xs[i]? = some x) ∧ ∀ ys, seqB b2 K H b ys → ys[i]? = some y,
   fun i H => ∃ xs ys : List V, seqB b1 K H a xs ∧ seqB b2 K H b ys ∧ i ≤ xs.length ∧ i ≤ ys.length ∧ (i = xs.length ∨ i = ys.length)⟩
section
variable {P : Program} {w : World} {K : PySem.W.Frag} {elts : List Expr} {kk : Nat} {tpos : Pos} {a b z TI TO i1 i2 : Addr} {b1 b2 : Bool}
theorem turn_pair (hd : List.Pairwise (· ≠ ·) [z, TI, TO, i1, i2]) (ha : ∀ c ∈ [z, TI, TO, i1, i2], a ≠ c ∧ b ≠ c) :
    Turn P w K (.Tuple elts kk tpos) (ItPair b1 b2 K a b) [z, TI, TO, i1, i2] z (fun i h => IsZip h z TI TO .none ∧ IsTupOf2 h TI (.ref i1) (.ref i2) ∧ (∃ x y, IsTupOf2 h TO x y) ∧ itB b1 h i1 a i ∧ itB b2 h i2 b i) := by
  simp only [List.pairwise_cons, List.mem_cons, List.not_mem_nil, or_false, forall_eq_or_imp, forall_eq] at hd ha
  obtain ⟨⟨n1, n2, n3, n4⟩, ⟨n5, n6, n7⟩, ⟨n8, n9⟩, n10, _⟩ := hd
  obtain ⟨⟨m1, m2⟩, ⟨m3, m4⟩, ⟨m5, m6⟩, ⟨m7, m8⟩, m9, m10⟩ := ha
  have S : ZipSep2 z TI TO i1 i2 [i1, a] [i2, b] := ⟨Ne.symm n1, Ne.symm n2, n5, n6, by simp, by simp [n3, Ne.symm m1], by simp [n8, Ne.symm m5], n7, by simp, by simp [n4, Ne.symm m2], by simp [n9, Ne.symm m6], by simp [n10, Ne.symm m8], by simp [Ne.symm n10, Ne.symm m9]⟩
  refine ⟨by simp, fun i h st c hc => ?_, fun i h h' st k => ?_, ?_, ?_, fun A i s Q E st h => wpAny_pyIter_zip st.1 h⟩
  · obtain ⟨hz, hTI, ⟨x, y, hTO⟩, h1, h2⟩ := st
    simp only [List.mem_cons, List.not_mem_nil, or_false] at hc
    rcases hc with rfl | rfl | rfl | rfl | rfl
    · exact ⟨_, hz, fun v q => by cases q⟩
    · exact ⟨_, hTI, fun v q => by cases q⟩
    · exact ⟨_, hTO, fun v q => by cases q⟩
    · exact itB_get h1
    · exact itB_get h2
  · obtain ⟨hz, hTI, ⟨x, y, hTO⟩, h1, h2⟩ := st
    exact ⟨k z (by simp) _ hz, k TI (by simp) _ hTI, ⟨x, y, k TO (by simp) _ hTO⟩, itB_at h1 fun o q => k _ (by simp) o q, itB_at h2 fun o q => k _ (by simp) o q⟩
  · intro X hP hw hK hc i pins s σ H E I hf st ⟨xs, ys, hqx, hqy, lx, ly⟩
    subst hP hw hK
    obtain ⟨hz, hTI, ⟨x0, y0, hTO⟩, h1, h2⟩ := st
    obtain ⟨its, rv, p1, la⟩ := seqB_at I hqx
    obtain ⟨its2, rv2, p2, lb⟩ := seqB_at I hqy
    have D1 := draws_b (prog := X.prog) (w := X.w) (A := X.A.in1) (I.ok.hd hc) b1 i1 a m7 its.toArray
    have D2 := draws_b (prog := X.prog) (w := X.w) (A := X.A.in1) (I.ok.hd hc) b2 i2 b m10 its2.toArray
    refine wpAny_pyNext_zipD2_item S D1 D2 hz hTI hTO ⟨h1, p1⟩ ⟨h2, p2⟩ (by simpa [← rv.length] using lx) (by simpa [← rv2.length] using ly) fun u u2 h' tk e1 e2 z' TO' st1 st2 hT hsz hk => ?_
    refine ⟨_, rfl, wpAny_letOwnedTupleGo_zip (s := { s with heap := h', toks := tk }) z' fun h'' z'' sb => ?_⟩
    have zl : z < s.heap.objs.size := Heap.lt_size hz
    obtain ⟨x, ex, rx⟩ : ∃ x, xs[i]? = some x ∧ L2.RelV x u := by
      obtain ⟨u', hu, ru⟩ := rv.get (List.getElem?_eq_getElem lx)
      have : its[i]? = some u := by simpa using e1
      rw [hu] at this; cases this
      exact ⟨_, List.getElem?_eq_getElem lx, ru⟩
    obtain ⟨y, ey, ry⟩ : ∃ y, ys[i]? = some y ∧ L2.RelV y u2 := by
      obtain ⟨u', hu, ru⟩ := rv2.get (List.getElem?_eq_getElem ly)
      have : its2[i]? = some u2 := by simpa using e2
      rw [hu] at this; cases this
      exact ⟨_, List.getElem?_eq_getElem ly, ru⟩
    have eT := (sb.2 _ (Nat.ne_of_gt zl)).trans hT
    have I1 := I.turnedNew (t' := tk) (ch := [z, TI, TO, i1, i2]) (ob := .frz _ (.tup [x, y])) (fun c o nc q => (sb.2 c fun q' => nc (by simp [q'])).trans (hk c o (fun q' => nc (by simp [q'])) (fun q' => nc (by simp [q'])) (fun q' => nc (by simp [q'])) (fun q' => nc (by simp [q'])) q)) hf (Nat.le_refl s.heap.objs.size)
      ⟨eT, by show 2 ≤ sizeLine; decide, [u, u2], .cons rx (.cons ry .nil), ⟨_, eT, rfl, _, rfl⟩⟩
    refine ⟨.ref s.heap.objs.size, _, I1, rfl, ⟨_, x, y, rfl, I.hok.fresh (Nat.le_refl _), ⟨_, rfl, rfl⟩, fun l hl => by rw [seqB_inj I hl hqx]; exact ex, fun l hl => by rw [seqB_inj I hl hqy]; exact ey⟩, ⟨z'', ?_, ⟨u, u2, ?_⟩, ?_, ?_⟩, fun c hcm => ?_⟩
    · exact (sb.2 _ (Ne.symm n1)).trans (hk _ _ (Ne.symm n1) n5 n6 n7 hTI)
    · exact (sb.2 _ (Ne.symm n2)).trans TO'
    · exact itB_at st1.1 fun o q => (sb.2 _ (Ne.symm n3)).trans q
    · exact itB_at st2.1 fun o q => (sb.2 _ (Ne.symm n4)).trans q
    · have lt : c < s.heap.objs.size := by
        simp only [List.mem_cons, List.not_mem_nil, or_false] at hcm
        rcases hcm with rfl | rfl | rfl | rfl | rfl
        · exact zl
        · exact Heap.lt_size hTI
        · exact Heap.lt_size hTO
        · obtain ⟨_, e, _⟩ := itB_get h1; exact Heap.lt_size e
        · obtain ⟨_, e, _⟩ := itB_get h2; exact Heap.lt_size e
      rw [upd_ne (Nat.ne_of_lt lt)]
      exact (hf c hcm).1
  · intro X hP hw hK hc i pins s σ H E I hf st ⟨xs, ys, hqx, hqy, lx, ly, hend⟩
    subst hP hw hK
    obtain ⟨hz, hTI, ⟨x0, y0, hTO⟩, h1, h2⟩ := st
    obtain ⟨its, rv, p1, la⟩ := seqB_at I hqx
    obtain ⟨its2, rv2, p2, lb⟩ := seqB_at I hqy
    have D1 := draws_b (prog := X.prog) (w := X.w) (A := X.A.in1) (I.ok.hd hc) b1 i1 a m7 its.toArray
    have D2 := draws_b (prog := X.prog) (w := X.w) (A := X.A.in1) (I.ok.hd hc) b2 i2 b m10 its2.toArray
    refine wpAny_pyNext_zipD2_end S D1 D2 hz hTI hTO ⟨h1, p1⟩ ⟨h2, p2⟩ (by simpa [← rv.length] using lx) (by simpa [← rv2.length] using ly) (by simpa [← rv.length, ← rv2.length] using hend) fun h' tk hk => ⟨rfl, ?_⟩
    exact I.turnedL (t' := tk) (ch := [z, TI, TO, i1, i2]) (fun c o nc q => hk c o (fun q' => nc (by simp [q'])) (fun q' => nc (by simp [q'])) (fun q' => nc (by simp [q'])) (fun q' => nc (by simp [q'])) q) hf
end
def iZipG (K : PySem.W.Frag) (ta : TA) : TI := fun σ H R => ta σ H fun vs H1 => ∃ a b b1 b2 xs ys, vs = [V.ref a, V.ref b] ∧ seqB b1 K H1 a xs ∧ seqB b2 K H1 b ys ∧ (xs.length ≤ sizeLine → ys.length ≤ sizeLine → R (ItPair b1 b2 K a b) H1)
theorem seqB_size {X : Cx} {pins : List (Addr × Obj)} {σ : St} {H : Hp} {s : Shared} (I : Inv X pins σ H s) {b : Bool} {a : Addr} {xs : List V} (q : seqB b X.K H a xs) : xs.length ≤ sizeLine := by
  cases b with
  | true => obtain ⟨_, _, _, hz⟩ := I.list q; exact hz
  | false => obtain ⟨_, _, _, hz⟩ := I.tuple q; exact hz
theorem pi_zipG {X : Cx} {e e2 : Expr} {ta : TA} {p pos tpos : Pos} {elts : List Expr} {kk : Nat} (hg : Gl X "zip") (hm : X.mg "zip" = none) (ha : PA X [e, e2] ta)
    (hs : starEach [e, e2] X.env = (false, eval e X.env) :: starEach [e2] X.env := by rfl) (hpl : (backTo pos (starEach [e2] X.env)).any (·.1) = false := by rfl) : PI X (.Tuple elts kk tpos) (.Call (.Name "zip" p) [e, e2] [] pos) (iZipG X.K ta) := by
  refine ⟨fun pins s σ H R I h => ?_⟩
  refine Call_ (ld_blt I hg hm PyProof.Rows.boot_zip (PyProof.Rows.callWith_type1 (thn (ha.run pos pins s σ H _ I h) fun us s1 ⟨vs, H1, I1, r1, a, b, b1, b2, xs, ys, ex, hqx, hqy, q⟩ => ?_) hs hpl))
  subst ex
  obtain ⟨u, u2, rfl, ru, ru2⟩ : ∃ u u2, us = [u, u2] ∧ L2.RelV (.ref a) u ∧ L2.RelV (.ref b) u2 := by
    cases r1 with
    | cons r rr => cases rr with
      | cons r' rr => cases rr; exact ⟨_, _, rfl, r, r'⟩
  cases ru; cases ru2
  obtain ⟨its, rv, p1, la⟩ := seqB_at I1 hqx
  obtain ⟨its2, rv2, p2, lb⟩ := seqB_at I1 hqy
  refine zip_begins2 (begins_b b1 a its.toArray) (begins_b b2 b its2.toArray) p1 p2 fun h' hz hTI hTO g1 g2 hsz hk => wpAny_pyIter_zip hz ?_
  have I2 : Inv X pins σ H1 { s1 with heap := h' } := I1.kept (t' := s1.toks) hk
  have n : ∀ i j : Nat, i ≠ j → s1.heap.objs.size + i ≠ s1.heap.objs.size + j := fun i j h => by omega
  have hd : List.Pairwise (· ≠ ·) [s1.heap.objs.size + 4, s1.heap.objs.size + 2, s1.heap.objs.size + 3, s1.heap.objs.size, s1.heap.objs.size + 1] := by
    simp only [List.pairwise_cons, List.mem_cons, List.not_mem_nil, or_false, forall_eq_or_imp, forall_eq]
    refine ⟨⟨?_, ?_, ?_, ?_⟩, ⟨?_, ?_, ?_⟩, ⟨?_, ?_⟩, ?_, ?_⟩ <;> first | (show (_ : Nat) ≠ _; omega) | simp
  have big : ∀ c ∈ [s1.heap.objs.size + 4, s1.heap.objs.size + 2, s1.heap.objs.size + 3, s1.heap.objs.size, s1.heap.objs.size + 1], s1.heap.objs.size ≤ c := fun c hc => by
    simp only [List.mem_cons, List.not_mem_nil, or_false] at hc
    rcases hc with rfl | rfl | rfl | rfl | rfl <;> first | exact Nat.le_add_right _ _ | exact Nat.le_refl _
  exact ⟨s1.heap.objs.size + 4, _, _, _, H1, rfl, I2, turn_pair hd fun c hc => ⟨Nat.ne_of_lt (Nat.lt_of_lt_of_le la (big c hc)), Nat.ne_of_lt (Nat.lt_of_lt_of_le lb (big c hc))⟩, ⟨hz, hTI, ⟨_, _, hTO⟩, itB_new g1, itB_new g2⟩, fun c hc => I1.fpOk (big c hc) (I1.hok.fresh (big c hc)), q (seqB_size I1 hqx) (seqB_size I1 hqy)⟩
theorem walk_pair {K : PySem.W.Frag} {a b : Addr} {b1 b2 : Bool} {xs ys : List V} : Walk (ItPair b1 b2 K a b) (min xs.length ys.length) (fun H => seqB b1 K H a xs ∧ seqB b2 K H b ys) (YPairN (fun i => xs[i]?) (fun i => ys[i]?)) :=
  ⟨fun i H hi q => ⟨xs, ys, q.1, q.2, by omega, by omega⟩, fun H q => ⟨xs, ys, q.1, q.2, by omega, by omega, by omega⟩, fun i H v H' hi q y => by
    obtain ⟨T, x, z, h1, h2, h3, h4, h5⟩ := y
    exact ⟨T, x, z, h1, h2, h3, h4 xs q.1, h5 ys q.2⟩⟩
/-- the pairs -/
def pairD : List D → List D → List D
  | x :: xs, y :: ys => .tup [x, y] :: pairD xs ys
  | _, _ => []
theorem pairD_len : ∀ xs ys : List D, (pairD xs ys).length = min xs.length ys.length
  | [], _ => by simp [pairD]
  | _ :: _, [] => by simp [pairD]
  | x :: xs, y :: ys => by simp [pairD, pairD_len xs ys]
theorem pairD_get : ∀ {xs ys : List D} {i : Nat} {x y : D}, xs[i]? = some x → ys[i]? = some y → (pairD xs ys)[i]? = some (.tup [x, y])
  | [], _, _, _, _, h, _ => by simp at h
  | _ :: _, [], _, _, _, _, h => by simp at h
  | x :: xs, y :: ys, 0, _, _, h1, h2 => by simp at h1 h2; subst h1 h2; rfl
  | x :: xs, y :: ys, i + 1, _, _, h1, h2 => by simp only [pairD, List.getElem?_cons_succ]; exact pairD_get (by simpa using h1) (by simpa using h2)
def zipD : List D → Option (List D)
  | [x, y] => (itemsD x).bind fun xs => (itemsD y).map fun ys => pairD xs ys
  | _ => none
def iZipD (ts : DSt → G → R (List D)) : DSt → G → R (List D) := fun S g => (ts S g).bind fun ds g1 => lift (zipD ds) g1
theorem itemsD_seq {K : PySem.W.Frag} {mg : Str → Option Value} {ad : DA} {H : Hp} {x : V} {d : D} {ds : List D} (r : Rep K mg ad H x d) (e : itemsD d = some ds) : ∃ a b xs, x = .ref a ∧ seqB b K H a xs ∧ RepAll K mg ad H xs ds ∧ ∀ H', Perm H H' → seqB b K H' a xs := by
  cases r with
  | lst s ra => cases e; exact ⟨_, true, _, rfl, s.l, ra, fun H' p => (p.sqP s).l⟩
  | tup s ra => cases e; exact ⟨_, false, _, rfl, s.t, ra, fun H' p => p.sqT s.t⟩
  | _ => cases e
theorem di_zip {X : Cx} {W : WX} {B : List Nat} {e e2 : Expr} {ts : DSt → G → R (List D)} {p pos tpos : Pos} {elts : List Expr} {kk : Nat} (hg : Gl X "zip") (hm : X.mg "zip" = none) (ha : PA X [e, e2] (eA X.K X.mg W B ts))
    (hs : starEach [e, e2] X.env = (false, eval e X.env) :: starEach [e2] X.env := by rfl) (hpl : (backTo pos (starEach [e2] X.env)).any (·.1) = false := by rfl) : PI X (.Tuple elts kk tpos) (.Call (.Name "zip" p) [e, e2] [] pos) (rdI X.K X.mg W B (iZipD ts)) := PI.imp (pi_zipG hg hm ha hs hpl) fun σ H Q ⟨ad, S, g, sr, dk, po⟩ => by
  refine ⟨ad, S, g, sr, dk, ?_⟩
  unfold iZipD at po
  cases r : ts S g with
  | bad => rw [r] at po; exact po
  | er x g' => rw [r] at po; exact po
  | ok ds g' =>
    rw [r] at po
    intro vs H' k d' rv
    cases ez : zipD ds with
    | none => simp only [R.bind, ez, lift_none] at po; exact po.elim
    | some zs =>
      simp only [R.bind, ez, lift_some] at po
      unfold zipD at ez
      split at ez
      · rename_i x y
        obtain ⟨vx, vy, rfl, rx, ry⟩ := rv.two
        rw [Option.bind_eq_some_iff] at ez
        obtain ⟨xs, e1, ez⟩ := ez
        rw [Option.map_eq_some_iff] at ez
        obtain ⟨ys, e2, rfl⟩ := ez
        obtain ⟨a, b1, us, rfl, q1, ra, p1⟩ := itemsD_seq rx e1
        obtain ⟨b, b2, ws, rfl, q2, rb, p2⟩ := itemsD_seq ry e2
        refine ⟨a, b, b1, b2, us, ws, rfl, q1, q2, fun hz hz2 => po _ H' k d' ⟨?_, fun H2 => seqB b1 X.K H2 a us ∧ seqB b2 X.K H2 b ws, YPairN (fun i => us[i]?) (fun i => ws[i]?), ?_, fun H2 p => ⟨p1 H2 p, p2 H2 p⟩, fun i H2 x H3 hi p yy => ?_⟩⟩
        · rw [pairD_len, ← ra.len]; omega
        · rw [pairD_len, ← ra.len, ← rb.len]; exact walk_pair
        · obtain ⟨T, x1, x2, rfl, hT, ⟨o, ho, rfl⟩, g1, g2⟩ := yy
          obtain ⟨d1, f1, r1⟩ := ra.getV g1
          obtain ⟨d2, f2, r2⟩ := rb.getV g2
          refine ⟨.inr ⟨T, _, hT, rfl⟩, _, pairD_get f1 f2, .tup (.new ho) (.cons ?_ (.cons ?_ .nil))⟩
          · exact (r1.perm p).perm (Perm.upd hT)
          · exact (r2.perm p).perm (Perm.upd hT)
      · cases ez

/-! defs that call themselves -/
section
variable {P : Program} {w : World} {K : PySem.W.Frag} {mg : Str → Option Value} {base : Heap}
/-- nothing is promised -/
theorem okBad {x : Str} {st : Stmt} {N ps : List Str} (k : Nat) (F : FnF K mg x st ps) (S : FnScope N ps (defScope st)) : DefOk P w K mg base x ps.length (fun _ _ => .bad) (k + 1) := by
  obtain ⟨f, fd, Fn, hm, hb⟩ := F.ex
  exact ⟨f, fd, ps, rfl, Fn.okX S (fun vs H Q E h => h.1) (fun cdv A outer s H vs Q E hr h => by obtain ⟨_, _, _, _, _, _, z⟩ := h; exact z.elim), hm, Fn.kp, hb⟩
theorem okRec {x : Str} {st : Stmt} {N ps : List Str} (lv : Nat) (b : MT → SB) (F : FnF K mg x st ps) (S : FnScope N ps (defScope st)) (step : ∀ (m : MT) (k : Nat), lv ≤ k → DefOk P w K mg base x ps.length m k → DefOk P w K mg base x ps.length (runD N.length ps.length (b m)) (k + 1)) (m : Nat → MT) (h0 : m 0 = fun _ _ => .bad) (h1 : ∀ n, m (n + 1) = runD N.length ps.length (b (m n))) : ∀ n, DefOk P w K mg base x ps.length (m n) (lv + 1 + n)
  | 0 => by rw [h0]; exact okBad lv F S
  | n + 1 => by rw [h1]; exact step (m n) (lv + 1 + n) (by omega) (okRec lv b F S step m h0 h1 n)
end

/-! code that draws nothing: two clauses, zip, backwards; items by places -/
section
variable {t u : ET} {s r : BT} {ts us : DSt → G → R (List D)}
theorem un_rev (h : UnT t) : UnT (eRev t) := fun S => (h S).bind fun a => .lift _
theorem un_zip (h : UnT ts) : UnT (iZipD ts) := fun S => (h S).bind fun a => .lift _
theorem un_compL {own : List Nat} {tg : Tgt} {S : DSt} (hc : UnT s) (he : UnT t) : ∀ ds, UnR (compL own tg s t S ds)
  | [] => .ok _
  | d :: ds => by
    show UnR fun g => compL own tg s t S (d :: ds) g
    unfold compL
    cases setD tg d (wipeD S own) with
    | none => exact .bad
    | some S1 =>
      dsimp only
      rcases hc S1 with ⟨a, h⟩ | ⟨x, h⟩ | h
      · cases a with
        | false => simp only [h]; exact un_compL hc he ds
        | true =>
          simp only [h]
          rcases he S1 with ⟨b, h2⟩ | ⟨x, h2⟩ | h2
          · simp only [h2]; exact (un_compL hc he ds).map
          · simp only [h2]; exact .bad
          · simp only [h2]; exact .bad
      · simp only [h]; exact .bad
      · simp only [h]; exact .bad
theorem un_comp2 {own own1 : List Nat} {tg tg1 : Tgt} (hi : UnT ts) (hc : UnT s) (hi1 : UnT us) (hc1 : UnT r) (he : UnT t) : UnT (xComp2 own own1 tg ts s us tg1 r t) := fun S => (hi S).bind fun ds => by
  have go : ∀ ds, UnR (comp2L own own1 tg s us tg1 r t S ds) := by
    intro ds
    induction ds with
    | nil => exact .ok _
    | cons d ds ih =>
      show UnR fun g => comp2L own own1 tg s us tg1 r t S (d :: ds) g
      unfold comp2L
      cases setD tg d (wipeD S own) with
      | none => exact .bad
      | some S1 =>
        dsimp only
        rcases hc S1 with ⟨a, h⟩ | ⟨x, h⟩ | h
        · cases a with
          | false => simp only [h]; exact ih
          | true =>
            simp only [h]
            rcases hi1 S1 with ⟨b, h2⟩ | ⟨x, h2⟩ | h2
            · simp only [h2]
              rcases un_compL (own := own1) (tg := tg1) (S := S1) hc1 he b with ⟨c, h3⟩ | ⟨x, h3⟩ | h3
              · simp only [h3]; exact ih.map
              · simp only [h3]; exact .bad
              · simp only [h3]; exact .bad
            · simp only [h2]; exact .bad
            · simp only [h2]; exact .bad
        · simp only [h]; exact .bad
        · simp only [h]; exact .bad
  exact (go ds).bind fun ys => UnR.ite (.ok _) .bad
end
/-! items -/
theorem atI_at {α : Type} {xs : List α} {k : Nat} {x : α} (h : xs[k]? = some x) : L2.atI xs ((k : Nat) : Int) = some x := atI_nat h
theorem idx_tup {xs : List D} {k : Nat} {x : D} (h : xs[k]? = some x) : idxD (.tup xs) (.int (k : Nat)) = some x := atI_nat h
theorem idx_lst {xs : List D} {k : Nat} {x : D} (h : xs[k]? = some x) : idxD (.lst xs) (.int (k : Nat)) = some x := atI_nat h

/-! how more things come out; tables of whole numbers -/
/-- a def that only gives back an expression -/
theorem call_ret {N n : Nat} {B : List Nat} {t : ET} {ds : List D} {g g' : G} {d : D} (hl : ds.length = n) (h : t (view (startD N ds)) g = .ok d g') : runD N n (sRet B t) ds g = .ok d g' := by
  rw [runD_at hl]
  unfold sRet
  rw [h]
  rfl
theorem call_body {N n : Nat} {b : SB} {ds : List D} {g g' : G} {d : D} (hl : ds.length = n) (h : b (startD N ds) g = .ret d g') : runD N n b ds g = .ok d g' := by
  rw [runD_at hl, h]; rfl
theorem call_end {N n : Nat} {b : SB} {ds : List D} {g g' : G} {S : SS} (hl : ds.length = n) (h : b (startD N ds) g = .nx S g') : runD N n b ds g = .ok .non g' := by
  rw [runD_at hl, h]; rfl
theorem call_er {N n : Nat} {b : SB} {ds : List D} {g g' : G} {S : SS} {x : Exn} (hl : ds.length = n) (h : b (startD N ds) g = .er x S g') : runD N n b ds g = .er x g' := by
  rw [runD_at hl, h]; rfl
theorem ret_ok {B : List Nat} {t : ET} {S : SS} {g g' : G} {d : D} (h : t (view S) g = .ok d g') : sRet B t S g = .ret d g' := by unfold sRet; rw [h]
section
variable {S : DSt} {g g1 g2 g3 : G} {t u v : ET} {x y : XT} {ts : DSt → G → R (List D)} {a b c d : D} {s r : BT} {k : Bool}
theorem tup_ok {ds : List D} (h : ts S g = .ok ds g1) (hl : ds.length ≤ 1000) : eTup ts S g = .ok (.tup ds) g1 := by
  unfold eTup; rw [h, R.bind_ok, if_pos (Nat.le_of_lt (small1000 hl))]
theorem lst_ok {ds : List D} (h : ts S g = .ok ds g1) (hl : ds.length ≤ 1000) : xLst ts S g = .ok (.f ds) g1 := by
  unfold xLst; rw [h, R.bind_ok, if_pos (Nat.le_of_lt (small1000 hl))]
theorem if_t {α : Type} {p q : DSt → G → R α} {z : R α} (h : s S g = .ok true g1) (h2 : p S g1 = z) : eIf s p q S g = z := by unfold eIf; rw [h, R.bind_ok, if_pos rfl, h2]
theorem if_f {α : Type} {p q : DSt → G → R α} {z : R α} (h : s S g = .ok false g1) (h2 : q S g1 = z) : eIf s p q S g = z := by unfold eIf; rw [h, R.bind_ok, if_neg (by decide), h2]
theorem and_t (h : t S g = .ok a g1) (h1 : truD a = some true) (h2 : u S g1 = .ok b g2) : eAnd t u S g = .ok b g2 := by
  show (t S g).bind _ = _
  rw [h, R.bind_ok, h1]; exact h2
theorem and_f (h : t S g = .ok a g1) (h1 : truD a = some false) : eAnd t u S g = .ok a g1 := by
  show (t S g).bind _ = _
  rw [h, R.bind_ok, h1]
theorem or_t (h : t S g = .ok a g1) (h1 : truD a = some true) : eOr t u S g = .ok a g1 := by
  show (t S g).bind _ = _
  rw [h, R.bind_ok, h1]
theorem or_f (h : t S g = .ok a g1) (h1 : truD a = some false) (h2 : u S g1 = .ok b g2) : eOr t u S g = .ok b g2 := by
  show (t S g).bind _ = _
  rw [h, R.bind_ok, h1]; exact h2
theorem not_ok (h : t S g = .ok a g1) (h1 : truD a = some k) : eNot t S g = .ok (.bl (!k)) g1 := by
  unfold eNot; rw [h, R.bind_ok, h1]; rfl
theorem tand_ok {k2 : Bool} (h : s S g = .ok k g1) (h2 : k = true → r S g1 = .ok k2 g1) : tAndD s r S g = .ok (k && k2) g1 := by
  unfold tAndD; rw [h, R.bind_ok]
  cases k with
  | true => rw [if_pos rfl, h2 rfl]; rfl
  | false => rw [if_neg (by decide)]; rfl
theorem tor_ok {k2 : Bool} (h : s S g = .ok k g1) (h2 : k = false → r S g1 = .ok k2 g1) : tOrD s r S g = .ok (k || k2) g1 := by
  unfold tOrD; rw [h, R.bind_ok]
  cases k with
  | true => rw [if_pos rfl]; rfl
  | false => rw [if_neg (by decide), h2 rfl]; rfl
theorem tor_t (h : s S g = .ok true g1) : tOrD s r S g = .ok true g1 := by unfold tOrD; rw [h, R.bind_ok, if_pos rfl]
theorem tor_f (h : s S g = .ok false g1) (h2 : r S g1 = .ok k g2) : tOrD s r S g = .ok k g2 := by unfold tOrD; rw [h, R.bind_ok, if_neg (by decide), h2]
theorem tand_f (h : s S g = .ok false g1) : tAndD s r S g = .ok false g1 := by unfold tAndD; rw [h, R.bind_ok, if_neg (by decide)]
theorem tand_t (h : s S g = .ok true g1) (h2 : r S g1 = .ok k g2) : tAndD s r S g = .ok k g2 := by unfold tAndD; rw [h, R.bind_ok, if_pos rfl, h2]
theorem chain_t {f f' : D → D → Option D} (h1 : t S g = .ok a g1) (h2 : u S g1 = .ok b g2) (h3 : f a b = some (.bl true)) (h4 : v S g2 = .ok c g3) (h5 : f' b c = some d) : eChain f f' t u v S g = .ok d g3 := by
  unfold eChain; rw [h1, R.bind_ok, h2, R.bind_ok, h3]
  dsimp only
  rw [h4, R.bind_ok, h5]; rfl
theorem chain_f {f f' : D → D → Option D} (h1 : t S g = .ok a g1) (h2 : u S g1 = .ok b g2) (h3 : f a b = some (.bl false)) : eChain f f' t u v S g = .ok (.bl false) g2 := by
  unfold eChain; rw [h1, R.bind_ok, h2, R.bind_ok, h3]
theorem slice_ok {p q : DSt → G → R (Option Int)} {l h : Option Int} {f : Fv} (h1 : t S g = .ok a g1) (h2 : p S g1 = .ok l g2) (h3 : q S g2 = .ok h g3) (h4 : sliceD a l h = some f) : xSlice t p q S g = .ok f g3 := by
  unfold xSlice; rw [h1, R.bind_ok, h2, R.bind_ok, h3, R.bind_ok, h4]; rfl
theorem oat_ok {i : Int} (h : t S g = .ok (.int i) g1) : oAt t S g = .ok (some i) g1 := by unfold oAt; rw [h]; rfl
theorem mt_ok {α : Type} {T : String} {f : D → List D → Option α} {ds : List D} {z : α} (h1 : t S g = .ok a g1) (hk : okTy T a = true) (h2 : ts S g1 = .ok ds g2) (h3 : f a ds = some z) : dMt T f t ts S g = .ok z g2 := by
  unfold dMt; rw [h1, R.bind_ok, if_pos hk, h2, R.bind_ok, h3]; rfl
theorem zip_ok {ds zs : List D} (h : ts S g = .ok ds g1) (h2 : zipD ds = some zs) : iZipD ts S g = .ok zs g1 := by unfold iZipD; rw [h, R.bind_ok, h2]; rfl
theorem rev_ok (h : t S g = .ok a g1) (h2 : revD a = some d) : eRev t S g = .ok d g1 := by unfold eRev; rw [h, R.bind_ok, h2]; rfl
end
theorem rangeL_eq (n : Nat) : rangeL 0 n = (List.range n).map fun (i : Nat) => D.int (i : Nat) := by
  unfold rangeL
  congr 1
  funext i
  rw [Int.zero_add]
/-! whole numbers -/
theorem shaped_int (i : Int) : SeqAt.shaped (D.int i).py = true := rfl
theorem eq_int (i j : Int) : eqD (.int i) (.int j) = some (.bl (i == j)) := rfl
theorem ne_int (i j : Int) : neD (.int i) (.int j) = some (.bl (!(i == j))) := rfl
theorem sameKind_ints (ns : List Int) : sameKind (pyAll (ns.map D.int)) = true := by
  have e : pyAll (ns.map D.int) = ns.map PyData.int := by rw [pyAll_map, List.map_map]; rfl
  unfold sameKind
  rw [e]
  simp only [Bool.and_eq_true, List.all_eq_true, List.mem_map, forall_exists_index, and_imp, forall_apply_eq_imp_iff₂]
  exact ⟨⟨fun a _ b _ => by simp only [PySem.W.alike], fun a _ => trivial⟩, fun a _ => rfl⟩
theorem max_ints (n : Int) (ns : List Int) : maxL [.lst ((n :: ns).map D.int)] = some (.int (ns.foldl max n)) := by
  have e : pyAll (ns.map D.int) = ns.map PyData.int := by rw [pyAll_map, List.map_map]; rfl
  show (if sameKind (pyAll ((n :: ns).map D.int)) = true then some (mostD (.int n) (ns.map D.int)) else none) = _
  rw [if_pos (sameKind_ints _)]
  congr 1
  have h : (mostD (.int n) (ns.map D.int)).py = (D.int (ns.foldl max n)).py := by
    rw [mostD_py, e]
    exact PySem.W.maxD_ints n ns
  exact (py_inj _ _ rfl h.symm).symm
theorem min_ints (n : Int) (ns : List Int) : minL [.lst ((n :: ns).map D.int)] = some (.int (ns.foldl min n)) := by
  have e : pyAll (ns.map D.int) = ns.map PyData.int := by rw [pyAll_map, List.map_map]; rfl
  show (if sameKind (pyAll ((n :: ns).map D.int)) = true then some (leastD (.int n) (ns.map D.int)) else none) = _
  rw [if_pos (sameKind_ints _)]
  congr 1
  have h : (leastD (.int n) (ns.map D.int)).py = (D.int (ns.foldl min n)).py := by
    rw [leastD_py, e]
    exact PySem.W.minD_ints n ns
  exact (py_inj _ _ rfl h.symm).symm
theorem foldl_max_ge : ∀ (ns : List Int) (n : Int), n ≤ ns.foldl max n ∧ ∀ x ∈ ns, x ≤ ns.foldl max n
  | [], n => ⟨Int.le_refl _, fun x h => nomatch h⟩
  | y :: ns, n => by
    obtain ⟨h1, h2⟩ := foldl_max_ge ns (max n y)
    refine ⟨by rw [List.foldl_cons]; omega, fun x hx => ?_⟩
    rw [List.foldl_cons]
    rcases List.mem_cons.mp hx with rfl | hx
    · omega
    · exact h2 x hx
theorem foldl_max_mem : ∀ (ns : List Int) (n : Int), ns.foldl max n = n ∨ ns.foldl max n ∈ ns
  | [], n => .inl rfl
  | y :: ns, n => by
    rw [List.foldl_cons]
    rcases foldl_max_mem ns (max n y) with h | h
    · rw [h]
      by_cases hy : n ≤ y
      · exact .inr (by rw [Int.max_eq_right hy]; exact List.mem_cons_self)
      · exact .inl (by omega)
    · exact .inr (List.mem_cons_of_mem _ h)
/-- the greatest, told by what it is -/
theorem max_is {n : Int} {ns : List Int} {m : Int} (h1 : m ∈ n :: ns) (h2 : ∀ x ∈ n :: ns, x ≤ m) : ns.foldl max n = m := by
  obtain ⟨a, b⟩ := foldl_max_ge ns n
  have c : ns.foldl max n ≤ m := by
    rcases foldl_max_mem ns n with h | h
    · rw [h]; exact h2 n List.mem_cons_self
    · exact h2 _ (List.mem_cons_of_mem _ h)
  rcases List.mem_cons.mp h1 with rfl | h1
  · omega
  · have := b m h1; omega
/-! two clauses, loops by what is behind -/
theorem comp2_map {α β : Type} {own own1 : List Nat} {tg tg1 : Tgt} {c c1 : BT} {it1 : DSt → G → R (List D)} {e : ET} {S : DSt} {g : G} (dat : α → D) (dat1 : β → D) (ys : α → List β) (p : α → β → Bool) (f : α → β → D) :
    ∀ {xs : List α}, (∀ x ∈ xs, ∃ S1, setD tg (dat x) (wipeD S own) = some S1 ∧ c S1 g = .ok true g ∧ it1 S1 g = .ok ((ys x).map dat1) g ∧ ∀ y ∈ ys x, ∃ S2, setD tg1 (dat1 y) (wipeD S1 own1) = some S2 ∧ c1 S2 g = .ok (p x y) g ∧ (p x y = true → e S2 g = .ok (f x y) g)) →
    comp2L own own1 tg c it1 tg1 c1 e S (xs.map dat) g = .ok (xs.flatMap fun x => ((ys x).filter (p x)).map (f x)) g
  | [], _ => rfl
  | x :: xs, h => by
    obtain ⟨S1, h1, h2, h3, h4⟩ := h x List.mem_cons_self
    have ih := comp2_map (own := own) (own1 := own1) (tg := tg) (tg1 := tg1) (c := c) (c1 := c1) (it1 := it1) (e := e) (S := S) (g := g) dat dat1 ys p f (xs := xs) fun y hy => h y (List.mem_cons_of_mem _ hy)
    have inner := compL_map (own := own1) (tg := tg1) (c := c1) (e := e) (S := S1) (g := g) dat1 (p x) (f x) (xs := ys x) h4
    rw [List.map_cons]
    unfold comp2L
    rw [h1]
    dsimp only
    rw [h2]
    dsimp only
    rw [h3]
    dsimp only
    rw [inner]
    dsimp only
    rw [ih]
    rfl
theorem comp2_ok {own own1 : List Nat} {tg tg1 : Tgt} {c c1 : BT} {it it1 : DSt → G → R (List D)} {e : ET} {S : DSt} {g g1 g2 : G} {ds ys : List D} (h : it S g = .ok ds g1) (h2 : comp2L own own1 tg c it1 tg1 c1 e S ds g1 = .ok ys g2) (hz : ys.length ≤ 1000) : xComp2 own own1 tg it c it1 tg1 c1 e S g = .ok (.f ys) g2 := by
  unfold xComp2; rw [h, R.bind_ok, h2, R.bind_ok, if_pos (Nat.le_of_lt (small1000 hz))]
theorem forL_seq {α : Type} {tg : Tgt} {body : SB} (dat : α → D) (Rl : List α → SS → Prop) {g : G} {xs : List α} (h : ∀ pre x post S, xs = pre ++ x :: post → Rl pre S → ∃ S1 S2, setS tg (dat x) S = some S1 ∧ body S1 g = .nx S2 g ∧ Rl (pre ++ [x]) S2) {S : SS} (h0 : Rl [] S) : ∃ S', forL tg body (xs.map dat) S g = .nx S' g ∧ Rl xs S' := by
  have go : ∀ (post pre : List α) (S : SS), xs = pre ++ post → Rl pre S → ∃ S', forL tg body (post.map dat) S g = .nx S' g ∧ Rl xs S' := by
    intro post
    induction post with
    | nil => intro pre S e r; rw [List.append_nil] at e; subst e; exact ⟨S, rfl, r⟩
    | cons x post ih =>
      intro pre S e r
      obtain ⟨S1, S2, h1, h2, h3⟩ := h pre x post S e r
      obtain ⟨S', h4, h5⟩ := ih (pre ++ [x]) S2 (by rw [e, List.append_assoc]; rfl) h3
      refine ⟨S', ?_, h5⟩
      rw [List.map_cons]
      unfold forL
      rw [h1]
      dsimp only
      rw [h2]
      exact h4
  exact go xs [] S rfl h0
theorem sUnp_nol {is B : List Nat} {t : ET} {S S' : SS} {g g' : G} {d : D} (h : t (view S) g = .ok d g') (hn : d.nol = true) (hs : setS (.tp is) d S = some S') : sUnp is B t S g = .nx S' g' := by
  have hp : post (.v d) B S = S := by unfold post; rw [if_pos (show Fv.nol (.v d) = true from hn)]
  unfold sUnp
  rw [h]
  simp only [hp, hs]
theorem all_true {α : Type} (f : α → Bool) (xs : List α) : allD [.lst (xs.map fun x => .bl (f x))] = some (.bl (xs.all f)) := by
  unfold allD
  dsimp only
  rw [bools_map, Option.map_some, List.all_map]
  rfl
theorem filter_all {α : Type} (xs : List α) : xs.filter (fun _ => true) = xs := List.filter_eq_self.mpr fun _ _ => rfl
theorem tNot_f {S : DSt} {g g1 : G} {s : BT} (h : s S g = .ok true g1) : tNotD s S g = .ok false g1 := by unfold tNotD; rw [h]; rfl
theorem tNot_t {S : DSt} {g g1 : G} {s : BT} (h : s S g = .ok false g1) : tNotD s S g = .ok true g1 := by unfold tNotD; rw [h]; rfl
theorem ne_int_self (i : Int) : neD (.int i) (.int i) = some (.bl false) := by rw [ne_int]; simp
theorem eq_int_self (i : Int) : eqD (.int i) (.int i) = some (.bl true) := by rw [eq_int]; simp
theorem isi_ok {S : DSt} {g g1 : G} {T : String} {t : ET} {a : D} {k : Bool} (h : t S g = .ok a g1) (h2 : isiD T a = some (.bl k)) : tTru (dUn (isiD T) t) S g = .ok k g1 := tTru_ok (un_ok h h2) rfl
theorem all_tt {α : Type} (xs : List α) : allD [.lst (xs.map fun _ => .bl true)] = some (.bl true) := by
  rw [all_true (fun _ => true)]
  simp

/-! calls of what an expression gives: a def of the module -/
def fnOfD (tab : Str → Option (Nat × MT)) : D → Option (Nat × MT)
  | .fn x => tab x
  | _ => none
/-- f(args), f an expression -/
def eCallV (tab : Str → Option (Nat × MT)) (tf : ET) (ts : DSt → G → R (List D)) : ET := fun S g => (tf S g).bind fun d g1 => match fnOfD tab d with
  | some nm => (ts S g1).bind fun ds g2 => if ds.length = nm.1 then nm.2 ds g2 else .bad
  | none => .bad
section
variable {X : Cx} {W : WX} {Bf B : List Nat} {fe e : Expr} {es : List Expr} {tf : ET} {ts : DSt → G → R (List D)} {k k' : Nat} {pos : Pos}
theorem de_callV (tab : Str → Option (Nat × MT)) (F : ∀ x n m, tab x = some (n, m) → DefOk X.prog X.w X.K X.mg X.base x n m k) (hr : Room k' X.A) (hk : k ≤ k') (tk : Takes X W) (hf : PE X fe (eE X.K X.mg W Bf tf)) (ha : PA X (e :: es) (eA X.K X.mg W B ts))
    (hc : eval (.Call fe (e :: es) [] pos) X.env = (do callWith pos (← eval fe X.env) [] (backTo pos (starEach (e :: es) X.env)) (backToKw pos (keywordEach [] X.env))) := by rfl)
    (he : starEach (e :: es) X.env = (false, eval e X.env) :: starEach es X.env := by rfl) (hpl : (backTo pos (starEach es X.env)).any (·.1) = false := by rfl) : PE X (.Call fe (e :: es) [] pos) (eE X.K X.mg W (Bf ++ B) (eCallV tab tf ts)) := by
  refine ⟨fun pins s σ H Q I h => ?_⟩
  obtain ⟨a0, S, g, h⟩ := h
  have h1 := h.bind (Rp1 := RpE X.K X.mg) bkE (k := fun d S g1 => match fnOfD tab d with
    | some nm => (ts S g1).bind fun ds g2 => if ds.length = nm.1 then nm.2 ds g2 else .bad
    | none => .bad)
  refine Call_ (thn (hf.run pins s σ H _ I ⟨a0, S, g, h1⟩) fun u s1 ⟨y, H1, I1, ry, d, g1, k1, d1, r1, h2⟩ => ?_) hc
  cases hd : fnOfD tab d with
  | none =>
    have p := h2.po
    simp only [hd] at p
    exact p.elim
  | some nm =>
    obtain ⟨n, m⟩ := nm
    cases d with
    | fn x =>
      cases r1 with
      | fn hm =>
        obtain ⟨f, fd, ps, hn, Fn, hm', hkp, hb⟩ := (F x n m hd).ex
        rw [hm] at hm'
        have ef := Option.some.inj hm'
        injection ef with ef
        subst ef
        have eu : u = Value.ref _ := ry
        subst eu
        have h2 : At (RpE X.K X.mg) X.K X.mg W (B ++ []) (fun S g1 => (ts S g1).bind fun ds g2 => if ds.length = n then m ds g2 else .bad) a0 S g1 σ H1 Q := by
          rw [List.append_nil]
          refine ⟨h2.sr, h2.dk, ?_⟩
          have p := h2.po
          simp only [hd] at p
          exact p
        have h3 := h2.bind (Rp1 := RpA X.K X.mg) bkE (k := fun ds _ g2 => if ds.length = n then m ds g2 else .bad)
        refine PySem.W.callWith_K (h₀ := X.base) I1.ok.mod.kin hkp (thn (ha.run pos pins s1 σ H1 _ I1 ⟨a0, S, g1, h3⟩) fun us s2 ⟨vs, H2, I2, r2, ds, g2, k2, d2, r3, h4⟩ => ⟨I2.kIn, ?_⟩) he hpl
        refine run_fnS Fn (hr.mono hk) hb (passAt tk σ) I2 r2 ?_
        have p := h4.po
        by_cases hl : ds.length = n
        · rw [if_pos hl] at p
          exact ⟨by rw [r3.len]; exact hl, a0, ds, g2, r3, d2, p⟩
        · rw [if_neg hl] at p
          exact p.elim
    | _ => cases hd
/-- a def of the module, as a value -/
theorem de_fn {x : Str} {n : Nat} {m : MT} {p : Pos} (F : DefOk X.prog X.w X.K X.mg X.base x n m k) (hg : Gl X x) (hd : (x == ("__debug__" : Str)) = false := by decide) : PE X (.Name x p) (eE X.K X.mg W [] (eC (.fn x))) := by
  obtain ⟨f, fd, ps, hn, Fn, hm, hkp, hb⟩ := F.ex
  exact de_glob (v := .ref f) hg hm rfl (fun _ _ => .fn hm) hd
end

/-! repr of None, a list or a tuple, where no repr is under way -/
def rReprC (K : PySem.W.Frag) : List V → Hp → VK → Prop := fun xs H Q => ∃ v d, xs = [v] ∧ Dp K H v d ∧ d.showable = true ∧ d.hasDict = false ∧ d.depth ≤ 64 ∧ d.shown.length ≤ sizeLine ∧ ((v = .non ∧ d = .none) ∨ ∃ a, v = .ref a) ∧ Q (.str d.shown) H
theorem cr_reprC {X : Cx} (hgd : X.A.guards = some []) (hu : X.A.units + 66 < cLine) : CallR X (.builtin "repr") (rReprC X.K) := by
  intro pins s σ H xs us Q I r h
  obtain ⟨v, d, rfl, hd, h1, h2, h3, h4, hc, q⟩ := h
  cases r with
  | cons ru rn =>
    cases rn
    rename_i u
    rcases hc with ⟨rfl, rfl⟩ | ⟨a, rfl⟩
    · have eu : u = Value.none := ru
      subst eu
      exact PySem.P.repr_of_none ⟨.str _, H, I.tok _, ⟨_, rfl⟩, q⟩
    · have eu : u = Value.ref a := ru
      subst eu
      obtain ⟨as, r1⟩ := Dp.reads I d (.ref a) (.ref a) hd rfl
      exact repr_of_reads' r1 h1 (fun e => by rw [h2] at e; cases e) hgd (by omega) (fun _ _ e => e) (fun h' u tk hk => ⟨.str d.shown, H, I.kept (t' := tk) hk, ⟨_, rfl⟩, q⟩) h4
def contD : D → Bool
  | .non => true
  | .lst _ => true
  | .tup _ => true
  | _ => false
def reprD : List D → Option D
  | [d] => if d.py.canLay0 = true ∧ d.py.showable = true ∧ d.py.hasDict = false ∧ d.py.depth ≤ 64 ∧ d.py.shown.length ≤ sizeLine ∧ contD d = true then some (.str d.py.shown) else none
  | _ => none
theorem ad_repr {K : PySem.W.Frag} {mg : Str → Option Value} : AdC (RpE K mg) K mg (rReprC K) reprD := by
  intro ad H g xs ds c dk r e Q q
  unfold reprD at e
  split at e
  · obtain ⟨x, rfl, rx⟩ := r.one
    split at e
    · rename_i d h
      obtain ⟨h0, h1, h2, h3, h4, h5⟩ := h
      cases e
      refine ⟨x, d.py, rfl, rx.dp _ _ h0, h1, h2, h3, h4, ?_, q _ _ (.refl _ _) dk (.str _)⟩
      cases rx with
      | non => exact .inl ⟨rfl, rfl⟩
      | tup _ _ => exact .inr ⟨_, rfl⟩
      | lst _ _ => exact .inr ⟨_, rfl⟩
      | _ => cases h5
    · cases e
  · cases e

/-! tables of defs; t.index(i) of a tuple of ints; tuple(range(n)) -/
/-! ### tables -/
def TabOk (P : Program) (w : World) (K : PySem.W.Frag) (mg : Str → Option Value) (base : Heap) (k : Nat) (tab : Str → Option (Nat × MT)) : Prop := ∀ x n m, tab x = some (n, m) → DefOk P w K mg base x n m k
section
variable {P : Program} {w : World} {K : PySem.W.Frag} {mg : Str → Option Value} {base : Heap} {k : Nat}
def tabNil : Str → Option (Nat × MT) := fun _ => none
def tabCons (x : Str) (n : Nat) (m : MT) (tab : Str → Option (Nat × MT)) : Str → Option (Nat × MT) := fun y => if y = x then some (n, m) else tab y
theorem tab_nil : TabOk P w K mg base k tabNil := fun _ _ _ h => by cases h
theorem tab_cons {x : Str} {n : Nat} {m : MT} {tab : Str → Option (Nat × MT)} {j : Nat} (F : DefOk P w K mg base x n m j) (h : j ≤ k) (t : TabOk P w K mg base k tab) : TabOk P w K mg base k (tabCons x n m tab) := fun y n' m' e => by
  unfold tabCons at e
  split at e
  · rename_i hy
    subst hy
    cases e
    obtain ⟨f, fd, ps, h1, h2, h3, h4, h5⟩ := F.ex
    exact ⟨f, fd, ps, h1, h2.mono h, h3, h4, h5⟩
  · exact t _ _ _ e
end
/-! ### index -/
section
variable {X : Cx}
theorem flat_intsV (ys : List Int) : (ys.map V.int).all flatV = true := by
  rw [List.all_map]
  exact List.all_eq_true.mpr fun _ _ => rfl
def rIxTI (K : PySem.W.Frag) : V → List V → Hp → VK → Prop := fun x xs H Q => ∃ p, ∃ ys : List Int, ∃ z j, x = .ref p ∧ xs = [.int z] ∧ SqT K H p (ys.map V.int) ∧ ys[j]? = some z ∧ (∀ m, m < j → ys[m]? ≠ some z) ∧ Q (.int (j : Nat)) H
theorem mt_ixTI : MtR X "tuple.index" (rIxTI X.K) := by
  intro pins s σ H x xs v us Q I rx rs ⟨p, ys, z, j, ex, exs, hq, hy, hno, q⟩
  subst ex exs
  cases rx
  obtain ⟨u, rfl, t, rfl⟩ := vals1 rs
  obtain ⟨its, r, pl, hz⟩ := I.tuple hq
  obtain ⟨⟨cls, dd, dt, sl⟩, ho, hc, n, hd⟩ := pl
  simp only at hc hd
  subst hc hd
  have el : its.toArray.size = ys.length := by rw [List.size_toArray, ← r.length, List.length_map]
  have hj : j < its.toArray.size := el ▸ (List.getElem?_eq_some_iff.mp hy).1
  have each : ∀ (m : Nat) (hm : m < its.toArray.size), ∃ y t', ys[m]? = some y ∧ its.toArray[m] = Value.int y t' := fun m hm => by
    have hm' : m < ys.length := by omega
    obtain ⟨w, hw, t', hw'⟩ := r.get (i := m) (x := .int ys[m]) (by simp [hm'])
    have e := (List.getElem?_eq_some_iff.mp hw).2
    exact ⟨ys[m], t', List.getElem?_eq_getElem hm', by rw [← hw', ← e]; simp⟩
  refine call_meets PySem.F.slot_tuple_index ⟨_, ho, rfl⟩ PySem.F.entry_tuple_index (PySem.F.args_tuple_index_2 _ _) (TI.tuple_indexAt p its.toArray n dd sl (.int z t) (eqU (.int z)) j hj ?_ ?_)
    ⟨ho, fun w hw => mem_eqAt (x := .int z) ⟨t, rfl⟩ rfl r (flat_intsV ys) w (by simpa using hw), ⟨.int (j : Nat), H, I.tok _, ⟨_, rfl⟩, q⟩⟩
  · obtain ⟨y, t', h1, h2⟩ := each j hj
    rw [h2]
    cases hy.symm.trans h1
    show (z == z) = true
    exact beq_self_eq_true z
  · intro m hm hmj
    obtain ⟨y, t', h1, h2⟩ := each m hm
    rw [h2]
    show (y == z) = false
    exact beq_eq_false_iff_ne.mpr fun e => hno m hmj (e ▸ h1)
/-- a tuple without attributes -/
def tyT (K : PySem.W.Frag) (x : V) (H : Hp) : Prop := ∃ a xs, x = .ref a ∧ SqN K H a xs
theorem tyT_ok : TyOk X "tuple" (tyT X.K) := by
  intro pins σ H s x v I r ⟨a, xs, ex, h⟩
  subst ex
  cases r
  rcases h with ⟨o, h, hd⟩ | ⟨_, o, hk, hc, hd⟩
  · obtain ⟨e, _, its, _, o2, e2, c2, _⟩ := I.hok a _ h
    rw [e] at e2
    cases e2
    exact ⟨⟨o, e, c2⟩, fun b eb => by cases eb; exact ⟨o, e, hd⟩⟩
  · exact ⟨⟨o, I.kIn a o hk, hc⟩, fun b eb => by cases eb; exact ⟨o, I.kIn _ o hk, hd⟩⟩
/-- t.m(args), t a tuple -/
def dMtT {α : Type} (op : D → List D → Option α) (ta : ET) (ts : DSt → G → R (List D)) : DSt → G → R α := fun S g => (ta S g).bind fun a g1 => match a with
  | .tup xs => (ts S g1).bind fun b g2 => lift (op (.tup xs) b) g2
  | _ => .bad
theorem dr_tm {W : WX} {α : Type} {Rp : RpT V α} {Ba B : List Nat} {a e : Expr} {es : List Expr} {ta : ET} {id : String} {name : Str} {apos cpos : Pos} {r : V → List V → Hp → VK → Prop} {f : D → List D → Option α} {ts : DSt → G → R (List D)} (bk : Bk Rp) (pa : PlainAttrs "tuple") (slot : Slot "tuple" name id) (hty : typeOf (.builtin id) = pure (.type "method_descriptor")) (hm : MtR X id r) (ad : AdM Rp X.K X.mg r f)
    (ho : PE X a (eE X.K X.mg W Ba ta)) (ha : PA X (e :: es) (eA X.K X.mg W B ts))
    (hbase : attributeBase a name X.env (eval a X.env) = eval a X.env := by rfl)
    (hfew : ((backTo cpos (starEach (e :: es) X.env)).all (fun x => !x.1) && (backToKw cpos (keywordEach [] X.env)).all (fun x => x.1.isSome)
      && decide ((e :: es).length + ([] : List Keyword).length + (if ([] : List Keyword).isEmpty then 0 else 1) < 30)) = true := by rfl)
    (hline : (apos.endLine == cpos.line) = true := by rfl) (hs : starEach (e :: es) X.env = (false, eval e X.env) :: starEach es X.env := by rfl) (hplain : (backTo cpos (starEach es X.env)).any (·.1) = false := by rfl) :
    PE X (.Call (.Attribute a name apos) (e :: es) [] cpos) (rd Rp X.K X.mg W (Ba ++ B) (dMtT f ta ts)) := PE.imp (pe_mG tyT_ok pa slot hty hm ho ha hbase hfew hline hs hplain) fun σ H Q ⟨a0, S, g, h⟩ => by
  refine .mk ((h.bind (Rp1 := RpE X.K X.mg) bk (k := fun a S g1 => match a with
    | .tup xs => (ts S g1).bind fun b g2 => lift (f (.tup xs) b) g2
    | _ => .bad)).imp fun x H1 ⟨a, g1, k1, d1, r1, h2⟩ => ?_)
  cases a with
  | tup xs =>
    have r1' := r1
    cases r1 with
    | tup s ra =>
      refine ⟨⟨_, _, rfl, s⟩, ?_⟩
      have h2 : At Rp X.K X.mg W (B ++ []) (fun S g => (ts S g).bind fun b g1 => (fun b (_ : DSt) g => DI.lift (f (.tup xs) b) g) b S g1) a0 S g1 σ H1 Q := by rw [List.append_nil]; exact h2
      refine .mk ((h2.bind (Rp1 := RpA X.K X.mg) bk).imp fun y H2 ⟨c, g2, k2, d2, r2, h3⟩ => ?_)
      obtain ⟨z, e, q⟩ := At.lift (o := fun _ => f (.tup xs) c) h3
      exact ad a0 H2 g2 _ y (.tup xs) c z d2 (r1'.keep k2 d1) r2 e Q q
  | _ => exact h2.po.elim
variable {K : PySem.W.Frag} {mg : Str → Option Value}
def tupIxD (a : D) (bs : List D) : Option D := match a, bs with
  | .tup ds, [.int z] => (intL ds).bind fun ns => (firstAt (fun d => match d with | .int i => i == z | _ => false) ds 0).map fun k => .int (k : Nat)
  | _, _ => none
theorem ad_tupIx : AdM (RpE K mg) K mg (rIxTI K) tupIxD := by
  intro ad H g x xs d ds c dk rx rs e Q q
  unfold tupIxD at e
  split at e
  · obtain ⟨y, rfl, ry⟩ := rs.one
    rw [Option.bind_eq_some_iff] at e
    obtain ⟨ns, en, e⟩ := e
    rw [Option.map_eq_some_iff] at e
    obtain ⟨k, e, rfl⟩ := e
    obtain ⟨j, z', h1, h2, h3, h4⟩ := firstAt_get e
    cases ry
    rename_i es z
    have ee := ints_eq en
    subst ee
    cases rx with
    | tup s ra =>
      have ev := rep_ints ra
      subst ev
      rw [List.getElem?_map] at h2
      obtain ⟨y, hy, rfl⟩ := Option.map_eq_some_iff.mp h2
      have hyz : y = z := by simpa using h3
      subst hyz
      refine ⟨_, ns, y, j, rfl, rfl, s.t, hy, fun m hm he => ?_, ?_⟩
      · have := h4 m (.int y) hm (by rw [List.getElem?_map, he]; rfl)
        simp at this
      · rw [show (j : Nat) = k by omega]
        exact q _ _ (.refl _ _) dk (.int _)
  · cases e
end
/-! ### tuple(range(n)) -/
def rngD (n : Nat) : List D := (List.range n).map fun i => D.int (i : Nat)
def eTupRg (t : ET) : ET := fun S g => (t S g).bind fun d g1 => match d with
  | .int n => if 0 ≤ n ∧ n ≤ 1000 then .ok (.tup (rngD n.toNat)) g1 else .bad
  | _ => .bad
section
variable {X : Cx} {W : WX} {B : List Nat} {a : Expr} {t : ET} {p p2 pos pos2 : Pos}
theorem pe_tupRgN {e : Expr} {te : St → Hp → (Int → Int → Hp → Prop) → Prop} (hc : X.calm = true) (hg : Gl X "tuple") (hm : X.mg "tuple" = none) (he : PRg X e te) (na : starEach [e] X.env = (false, eval e X.env) :: starEach [] X.env := by rfl) :
    PE X (.Call (.Name "tuple" p) [e] [] pos) (fun σ H Q => te σ H fun a b H1 => RgOk a b ∧ QN Q (rgV a b) H1) := by
  refine ⟨fun pins s σ H Q I h => ?_⟩
  refine Call_ (ld_blt I hg hm boot_tuple (PyProof.Rows.callWith_type1 (PyProof.Rows.args_cons (thn (he pins s σ H _ I h) fun x s1 ⟨r, a, b, t, u, v, H1, ex, hr, I1, ok, q⟩ => PyProof.Rows.args_nil ?_) na) na))
  subst ex
  obtain ⟨b1, b2, b3, b4, b5⟩ := ok
  refine call_tuple_range (n := (b - a).toNat) (I1.ok.hd hc) hr (small_one b1 b2 b3 b4) (rangeSize_nat a b) b5 fun h' tk acc hk hi => ?_
  have I2 : Inv X pins σ H1 { s1 with heap := h', toks := tk } := I1.kept hk
  have := laidN I2 (vals_rg hi) (by rw [rgV_length, sizeLine_eq]; omega) q
  rwa [Array.toArray_toList] at this
theorem rep_rg {K : PySem.W.Frag} {mg : Str → Option Value} {ad : DA} {H : Hp} : ∀ is : List Nat, RepAll K mg ad H (is.map fun i => V.int (0 + (i : Nat))) (is.map fun i => D.int (i : Nat))
  | [] => .nil
  | i :: is => .cons (by show Rep K mg ad H (V.int (0 + (i : Nat))) (D.int (i : Nat)); rw [Int.zero_add]; exact .int _) (rep_rg is)
theorem de_tupRg (hc : X.calm = true) (hgt : Gl X "tuple") (hmt : X.mg "tuple" = none) (hgr : Gl X "range") (hmr : X.mg "range" = none) (ha : PE X a (eE X.K X.mg W B t))
    (na : starEach [a] X.env = (false, eval a X.env) :: starEach [] X.env := by rfl) (ne : starEach [.Call (.Name "range" p2) [a] [] pos2] X.env = (false, eval (.Call (.Name "range" p2) [a] [] pos2) X.env) :: starEach [] X.env := by rfl) :
    PE X (.Call (.Name "tuple" p) [.Call (.Name "range" p2) [a] [] pos2] [] pos) (eE X.K X.mg W B (eTupRg t)) :=
  PE.imp (pe_tupRgN hc hgt hmt (prg_1 hgr hmr ha na) ne) fun σ H Q ⟨a0, S, g, h⟩ => by
    have h : At (RpE X.K X.mg) X.K X.mg W (B ++ []) (eTupRg t) a0 S g σ H Q := by rw [List.append_nil]; exact h
    refine .mk ((h.bind (Rp1 := RpE X.K X.mg) bkE (k := fun d _ g1 => match d with
      | .int n => if 0 ≤ n ∧ n ≤ 1000 then .ok (.tup (rngD n.toNat)) g1 else .bad
      | _ => .bad)).imp fun x H1 ⟨d, g1, k1, d1, r1, h2⟩ => ?_)
    have p := h2.po
    cases r1 with
    | int n =>
      by_cases hn : 0 ≤ n ∧ n ≤ 1000
      · simp only [if_pos hn] at p
        refine ⟨n, rfl, .of_le (by omega) (by omega) (by omega) hn.1, fun q o hq ho => p _ _ (Keep.upd hq) (d1.upd hq) (.tup (.new ho) ?_)⟩
        have e : rgV 0 n = (List.range n.toNat).map fun i => V.int (0 + (i : Nat)) := by unfold rgV; rw [Int.sub_zero]
        rw [e]
        exact rep_rg _
      · simp only [if_neg hn] at p
        exact p.elim
    | _ => exact p.elim
end
theorem hu_66 {k : Nat} {A : Around} (hr : Room k A) : A.units + 66 < cLine := by have := hr.un; omega
/-! ### code that draws nothing -/
theorem un_mtT {α : Type} {op : D → List D → Option α} {ta : ET} {ts : DSt → G → R (List D)} (h1 : UnT ta) (h2 : UnT ts) : UnT (dMtT op ta ts) := fun S => (h1 S).bind fun a => by
  cases a with
  | tup xs => exact (h2 S).bind fun b => .lift _
  | _ => exact .bad
theorem mtT_ok {α : Type} {f : D → List D → Option α} {ta : ET} {ts : DSt → G → R (List D)} {S : DSt} {g g1 g2 : G} {xs ds : List D} {z : α} (h1 : ta S g = .ok (.tup xs) g1) (h2 : ts S g1 = .ok ds g2) (h3 : f (.tup xs) ds = some z) : dMtT f ta ts S g = .ok z g2 := by
  unfold dMtT
  rw [h1, R.bind_ok]
  dsimp only
  rw [h2, R.bind_ok, h3]
  rfl
def TabUn (tab : Str → Option (Nat × MT)) : Prop := ∀ x n m, tab x = some (n, m) → UnM m
theorem tabUn_nil : TabUn tabNil := fun _ _ _ h => by cases h
theorem tabUn_cons {x : Str} {n : Nat} {m : MT} {tab : Str → Option (Nat × MT)} (h : UnM m) (t : TabUn tab) : TabUn (tabCons x n m tab) := fun y n' m' e => by
  unfold tabCons at e
  split at e
  · cases e; exact h
  · exact t _ _ _ e
theorem un_callV {tab : Str → Option (Nat × MT)} {tf : ET} {ts : DSt → G → R (List D)} (ht : TabUn tab) (hf : UnT tf) (h : UnT ts) : UnT (eCallV tab tf ts) := fun S => (hf S).bind fun d => by
  cases e : fnOfD tab d with
  | none => exact .bad
  | some nm =>
    have hm : UnM nm.2 := by
      cases d with
      | fn x => exact ht x nm.1 nm.2 e
      | _ => cases e
    exact (h S).bind fun ds => .ite (hm ds) .bad
theorem un_tupRg {t : ET} (h : UnT t) : UnT (eTupRg t) := fun S => (h S).bind fun d => by
  cases d with
  | int n => exact .ite (.ok _) .bad
  | _ => exact .bad

/-! a law's own body, where it is known that no repr is under way -/
/-- as FnOk, where no guard stands -/
structure FnG (P : Program) (w : World) (K : PySem.W.Frag) (mg : Str → Option Value) (base : Heap) (k : Nat) (f : Addr) (fd : FuncData) (ps : List Str) (sp : Sp) : Prop where
  run : ∀ (A : Around) (outer : List Env) (s : Shared) (H : Hp) (args : Args) (us : List Value) (vs : List V) (Q : VK) (E : XK), Room k A → A.guards = some [] → Env0 P w K mg base A outer s H → BindsTo s fd args (ps.zip us) → Vals vs us → sp vs H Q E →
    codeAny (model P w) A (.call (.ref f) args) (CR (L2.CX P w) outer P w H s Q E) s
section
variable {P : Program} {w : World} {K : PySem.W.Frag} {mg : Str → Option Value} {base : Heap}
theorem okLawG {st : Stmt} {N : List Str} {k : Nat} {b : SB} {f : Addr} {fd : FuncData} (Fn : Fun K "law" "law" st f fd) (S : FnScope N ["script"] (defScope st)) (hN : 2 ≤ N.length)
    (hb : ∀ g : G, -1 ≤ g.at_ → ∃ g', b ((List.replicate N.length none).set 1 (some (.val .draw))) g = .ret (.bl true) g')
    (body : ∀ (cdv : Value) (A : Around) (outer : List Env) (s : Shared) (H : Hp) (E : XK), A.guards = some [] → Room k (A.deeper (envOfC "law" (defScope st) s.heap.objs.size f cdv)) → PSs (cxOf (L2.CX P w) P w K mg base N "law" (defScope st) f cdv A outer s H E) (defBody st) (lawT K mg H (fun cls d _ H => E cls d H) N.length b)) :
    FnG P w K mg base (k + 1) f fd ["script"] (spLaw K) := by
  obtain ⟨oc, od, kV, doc, pm, an, cdv, ct, osl, rfl, lk, hcd⟩ := Fn.ex
  refine ⟨fun A outer s H args us vs Q E hr hg e0 hbind rv hsp => ?_⟩
  have hl : vs.length = ["script"].length := by obtain ⟨a, ns, rfl, _⟩ := hsp; rfl
  have inS : ∀ {b : Addr} {o : Obj}, base.get? b = some o → s.heap.get? b = some o := fun e => (e0.bs _ _ e).1
  have KX : K.In s.heap := e0.mod.kin.keeps fun _ _ e => inS e
  refine codeAny_call_function hr.depth (KX _ _ lk) rfl S.co S.gen rfl (PySem.W.codeRec_of KX hcd) (hbind _ _ _ _ (wpAny_newFunctionEnv_cells S.kind (fun y hy => ?_) fun env he s1 x => ?_))
  · rcases S.par y.1 (List.of_mem_zip (a := y.1) (b := y.2) hy).1 with q | q
    · exact .inl q
    · exact .inr ⟨q, PySem.W.cellsFrom_some _ _ _ (.inl q)⟩
  · subst he
    refine ⟨(e0.mod.nolimit.keeps fun _ _ e => inS e).keeps x.toInCall.keep, codeAny_func ?_⟩
    have I : Inv (cxOf (L2.CX P w) P w K mg base N "law" (defScope st) f cdv A outer s H E) [] (start N vs) H s1 := inv_start S hr.hd e0 hl rv x
    refine wpAny_mono ((body cdv A outer s H E hg (hr.deeper _)).run [] s1 (start N vs) H { nx := fun _ H' => Q .non H', rt := Q } I (law_run hN hb hsp)) (fun fl s' hs => ?_) fun _ _ hs => hs
    cases fl with
    | ret u =>
      obtain ⟨v, σ', H', J, ru, q⟩ := hs
      exact ⟨v, H', J.os, J.bare, J.base, J.hok, ru, q⟩
    | next =>
      obtain ⟨σ', H', J, q⟩ := hs
      exact ⟨V.non, H', J.os, J.bare, J.base, J.hok, rfl, q⟩
    | brk => exact (hs.choose_spec.choose_spec.2 : False).elim
    | cont => exact (hs.choose_spec.choose_spec.2 : False).elim
end
/-! ### the head -/
theorem lawG_call {P : Program} {w : World} {K : PySem.W.Frag} {mg mb : Str → Option Value} {k : Nat} {fa a : Addr} {fd : FuncData} {s : Shared} {vs : List Value} {ns : List Int}
    (KX : K.In s.heap) (hns : s.heap.Ns mainGlobals mg) (hb : s.heap.Ns builtinsNs mb) (hbb : ∀ x : Str, x ≠ "__name__" → mb x = bootBuiltins x) (hlim : s.heap.NoLimit) (hg : s.gens = #[])
    (ha : s.heap.get? a = some { cls := .type "list", data := .seq vs.toArray }) (hi : IntsAre vs ns) (hl : ns.length ≤ 63) (hr : Room k callerA)
    (F : ∀ base : Heap, K.In base → base.Ns mainGlobals mg → FnG P w K mg base k fa fd ["script"] (spLaw K)) (hbind : ∀ (s : Shared) (u : Value), BindsTo s fd ⟨[u], []⟩ [("script", u)]) :
    codeAny (model P w) callerA (.call (.ref fa) ⟨[.ref a], []⟩) (fun r s' => r = .ok (.ret (.bool true)) ∧ OldK s.heap s'.heap ∧ s'.os = s.os ∧ AllBare s'.gens) s := by
  have rv := vals_ints hi
  have nV := hi.length
  have hsz : ns.length ≤ sizeLine := Nat.le_trans hl (by rw [sizeLine_eq]; decide)
  have core : ∀ H : Hp, Only H → SqL K H a (ns.map V.int) → HOk P w H s.heap → (∀ b, H b ≠ none → b = a ∧ K.lookup a = none) → codeAny (model P w) callerA (.call (.ref fa) ⟨[.ref a], []⟩) (fun r s' => r = .ok (.ret (.bool true)) ∧ OldK s.heap s'.heap ∧ s'.os = s.os ∧ AllBare s'.gens) s := by
    intro H hO hS hok hA
    have free : ∀ {b : Addr} {o : Obj}, s.heap.get? b = some o → (b = a → K.lookup a = none → False) → H b = none := fun {b o} e n => by
      cases q : H b with
      | none => rfl
      | some u =>
        obtain ⟨e1, e2⟩ := hA b (by rw [q]; exact fun z => by cases z)
        exact (n e1 e2).elim
    have nsB : ∀ {b : Addr} {m : Str → Option Value}, s.heap.Ns b m → (hidT s.heap H).Ns b m := fun {b m} ⟨o, es, ep, e, d, r⟩ => ⟨o, es, ep, hidT_get e (free e fun eb _ => by
      subst eb
      rw [ha] at e
      cases e
      have z : Data.seq vs.toArray _ = Data.dict es ep := d
      cases z), d, r⟩
    have kB : K.In (hidT s.heap H) := fun b o e => hidT_get (KX b o e) (free (KX b o e) fun eb z => by subst eb; rw [z] at e; cases e)
    have hM : Mod K mg (hidT s.heap H) := ⟨kB, nsB hns, ⟨mb, nsB hb, hbb⟩, hlim.imp fun mc h => ⟨nsB h.1, h.2⟩⟩
    have e0 : Env0 P w K mg (hidT s.heap H) callerA [] s H := ⟨rfl, hM, fun b o e => of_hidT e, Nat.le_of_eq (hidT_size _ _), trivial, fun b hb => (List.not_mem_nil (show b ∈ ([] : List Addr) from hb)).elim, hok, .of_eq hg⟩
    refine codeAny_mono ((F _ kB (nsB hns)).run callerA [] s H ⟨[.ref a], []⟩ [.ref a] [.ref a] (fun v _ => v = .bl true) (fun _ _ _ => False) hr rfl e0 (hbind s (.ref a)) (.cons rfl .nil) ⟨a, ns, rfl, hS, hl, fun _ => rfl⟩) fun r s' h => ?_
    cases r with
    | error e =>
      obtain ⟨_, _, _, _, _, _, _, _, _, _, _, _, z⟩ := h
      exact z.elim
    | ok fl =>
      cases fl with
      | next => exact False.elim h
      | brk => exact False.elim h
      | cont => exact False.elim h
      | ret u =>
        obtain ⟨v, H', os, bare, un, hok', ru, q⟩ := h
        have q : v = V.bl true := q
        subst q
        have ru : u = Value.bool true := ru
        subst ru
        refine ⟨rfl, OldK.of_keep fun b o e => ?_, os, bare⟩
        cases q : H b with
        | none => exact un.keep b o e q (List.not_mem_nil (a := b)) (by simp)
        | some u =>
          rcases hO b with z | ⟨ob, xs, z⟩
          · rw [q] at z; cases z
          · have e1 := (hok b _ z).1
            rw [e] at e1
            cases e1
            exact (hok' b _ (un.frzs b _ _ z)).1
  cases hk : K.lookup a with
  | some o =>
    have e := KX a o hk
    rw [ha] at e
    cases e
    exact core (fun _ => none) (fun _ => .inl rfl) (.inr ⟨_, vs.toArray, _, hk, rfl, rfl, rfl, by rw [List.size_toArray, nV]; exact hsz, by simpa using rv⟩) (fun b u z => by cases (show (none : Option HO) = some u from z)) fun b z => (z rfl).elim
  | none =>
    let H : Hp := fun b => if b = a then some (.frz { cls := .type "list", data := .seq vs.toArray } (.lst (ns.map V.int))) else none
    have at_a : H a = some (.frz { cls := .type "list", data := .seq vs.toArray } (.lst (ns.map V.int))) := if_pos rfl
    have off : ∀ b, b ≠ a → H b = none := fun b n => if_neg n
    refine core H (fun b => ?_) (.inl (.inr ⟨_, at_a⟩)) (fun b u z => ?_) fun b z => ⟨Classical.byContradiction fun n => z (off b n), hk⟩
    · by_cases e : b = a
      · exact .inr ⟨_, _, e ▸ at_a⟩
      · exact .inl (off b e)
    · by_cases e : b = a
      · subst e
        rw [at_a] at z
        cases z
        exact ⟨ha, by rw [List.length_map]; exact hsz, vs, _, rv, ha⟩
      · rw [off b e] at z
        cases z
theorem walkG {l : PySem.W.OpenLaw} {k : Nat} {q : Program} {loose : List Str} {XP : (Str → Option Value) → Heap → Prop} {YP : World → Heap → Prop} {d : DefRec} {K : Params → PySem.W.Frag}
    (hn : l.most = some 63) (hdf : d.params.defaults = []) (hr : Room k callerA) (hY : ∀ (w : World) (h : Heap), YP w h → (K w.params).In h)
    (F : ∀ (w : World) (mg : Str → Option Value) (fa : Addr) (h : Heap), (K w.params).In h → h.Ns mainGlobals mg → mg d.name = some (.ref fa) →
      ∃ fd : FuncData, (∀ (s : Shared) (u : Value), BindsTo s fd ⟨[u], []⟩ [("script", u)]) ∧ ∀ base : Heap, (K w.params).In base → base.Ns mainGlobals mg → FnG l.prog w (K w.params) mg base k fa fd ["script"] (spLaw (K w.params))) :
    PySem.W.WalkO q loose XP YP l.row.toRowW d [] (fun f vs => PySem.call f vs) := by
  refine Att.attach_call hn hdf fun w s0 s1 mg mb fa o pm cd doc a vs ns G Y _ _ _ hmg hobj hints hlen hg => ?_
  have KX := hY w _ Y
  obtain ⟨fd, hb, hF⟩ := F w mg fa _ KX G.T.g hmg
  exact lawG_call KX G.T.g G.T.b G.T.builtins G.T.nolimit hg hobj hints hlen hr hF hb

/-! bits; any(..) of truths and numbers -/
section
variable {X : Cx} {K : PySem.W.Frag} {mg : Str → Option Value}
instance (i j : Int) : Decidable (CPow i j) := inferInstanceAs (Decidable (_ ∧ _ ∧ _))
def shlD : D → D → Option D
  | .int i, .int j => if CPow i j then some (.int (i * 2 ^ j.toNat)) else none
  | _, _ => none
def shrD : D → D → Option D
  | .int i, .int j => if 0 ≤ j then some (.int (i / 2 ^ j.toNat)) else none
  | _, _ => none
def andD : D → D → Option D
  | .int i, .int j => some (.int (Builtin.bitAnd i j))
  | _, _ => none
def orD : D → D → Option D
  | .int i, .int j => some (.int (Builtin.bitOr i j))
  | _, _ => none
def invD : D → Option D
  | .int i => some (.int (Builtin.bitNot i))
  | _ => none
theorem ad_shl : AdG (RpE K mg) K mg (rI CPow fun i j => .int (i * 2 ^ j.toNat)) shlD := by
  intro ad H g x y a b c dk rx ry e Q q
  unfold shlD at e
  split at e
  · cases rx; cases ry
    split at e
    · cases e; exact ⟨_, _, rfl, rfl, by assumption, q _ _ (.refl _ _) dk (.int _)⟩
    · cases e
  · cases e
theorem ad_shr : AdG (RpE K mg) K mg (rI (fun _ j => 0 ≤ j) fun i j => .int (i / 2 ^ j.toNat)) shrD := by
  intro ad H g x y a b c dk rx ry e Q q
  unfold shrD at e
  split at e
  · cases rx; cases ry
    split at e
    · cases e; exact ⟨_, _, rfl, rfl, by assumption, q _ _ (.refl _ _) dk (.int _)⟩
    · cases e
  · cases e
theorem ad_and : AdG (RpE K mg) K mg (rI0 fun i j => .int (Builtin.bitAnd i j)) andD := by
  intro ad H g x y a b c dk rx ry e Q q
  unfold andD at e
  split at e
  · cases rx; cases ry; cases e
    exact ⟨_, _, rfl, rfl, q _ _ (.refl _ _) dk (.int _)⟩
  · cases e
theorem ad_or : AdG (RpE K mg) K mg (rI0 fun i j => .int (Builtin.bitOr i j)) orD := by
  intro ad H g x y a b c dk rx ry e Q q
  unfold orD at e
  split at e
  · cases rx; cases ry; cases e
    exact ⟨_, _, rfl, rfl, q _ _ (.refl _ _) dk (.int _)⟩
  · cases e
theorem ad_inv : AdU (RpE K mg) K mg (rU fun i => .int (Builtin.bitNot i)) invD := by
  intro ad H g x a c dk rx e Q q
  unfold invD at e
  split at e
  · cases rx; cases e
    exact ⟨_, rfl, q _ _ (.refl _ _) dk (.int _)⟩
  · cases e
/-! any -/
def tv : V → Option Bool
  | .bl b => some b
  | .int i => some (i != 0)
  | _ => none
def tvs : List V → Option (List Bool)
  | [] => some []
  | x :: xs => (tv x).bind fun b => (tvs xs).map fun bs => b :: bs
def rAnyT (K : PySem.W.Frag) : List V → Hp → VK → Prop := fun vs H Q => ∃ (a : Addr) (xs : List V) (bs : List Bool), vs = [V.ref a] ∧ SqL K H a xs ∧ tvs xs = some bs ∧ Q (.bl (bs.any id)) H
theorem tvs_get : ∀ {xs : List V} {bs : List Bool} {its : List Value}, tvs xs = some bs → Vals xs its → its.length = bs.length ∧ ∀ (i : Nat) (v : Value), its[i]? = some v → ∃ x, L2.RelV x v ∧ tv x = bs[i]?
  | [], _, _, h, r => by
    cases r; cases h
    exact ⟨rfl, fun i v e => by simp at e⟩
  | x :: xs, _, _, h, r => by
    cases r with
    | cons r1 r2 =>
      unfold tvs at h
      rw [Option.bind_eq_some_iff] at h
      obtain ⟨b, hb, h⟩ := h
      rw [Option.map_eq_some_iff] at h
      obtain ⟨bs, h, rfl⟩ := h
      obtain ⟨l, g⟩ := tvs_get h r2
      refine ⟨by rw [List.length_cons, List.length_cons, l], fun i v e => ?_⟩
      cases i with
      | zero => simp at e; subst e; exact ⟨x, r1, hb⟩
      | succ i => exact g i v (by simpa using e)
theorem truth_tv {prog : Program} {w : World} {A : Around} {xs : List V} {bs : List Bool} {its : List Value} (h : tvs xs = some bs) (r : Vals xs its) :
    TruthOf prog w A (fun i v => its.toArray[i]? = some v) (fun i => bs.getD i false) := fun i v s Q E hv hq => by
  have hv' : its[i]? = some v := by simpa using hv
  obtain ⟨x, rx, e⟩ := (tvs_get h r).2 i v hv'
  have hq' : Q (bs.getD i false) s := hq
  cases x with
  | bl b =>
    have rx : v = Value.bool b := rx
    subst rx
    have e : some b = bs[i]? := e
    rw [List.getD_eq_getElem?_getD, ← e] at hq'
    exact wpAny_truthy_bool hq'
  | int n =>
    obtain ⟨t, rfl⟩ := rx
    have e : some (n != 0) = bs[i]? := e
    rw [List.getD_eq_getElem?_getD, ← e] at hq'
    exact truthy_int hq'
  | _ =>
    exfalso
    have hl := (tvs_get h r).1
    have e : none = bs[i]? := e
    have := (List.getElem?_eq_some_iff.mp hv').1
    rw [List.getElem?_eq_getElem (by omega)] at e
    cases e
theorem cr_anyT (hc : X.calm = true) : CallR X (.builtin "any") (rAnyT X.K) := by
  intro pins s σ H vs us Q I r ⟨a, xs, bs, ev, hs, ht, q⟩
  subst ev
  obtain ⟨its, rv, hl, _⟩ := I.list hs
  rw [Vals.ref1 r]
  refine call_any_walk (iter_any hl.isList fun s₂ e2 st hne => ?_)
  subst e2
  refine ⟨_, _, _, _, _, _, _, rfl, Walks.list (A := X.A.in1) (I.ok.hd hc) _ a hne its.toArray, st, truth_tv ht rv, fun h' tk hk => ?_⟩
  refine ⟨.bl _, H, I.kept fun b o eo => hk b o (fun hmem => ?_) (Heap.get?_push_of_some _ eo), ?_, q⟩
  · rcases List.mem_cons.mp hmem with e1 | hmem
    · exact absurd (e1 ▸ Heap.lt_size eo) (Nat.lt_irrefl _)
    · cases hmem
  · show Value.bool _ = Value.bool _
    rw [← L2.any_range, List.size_toArray, (tvs_get ht rv).1]
/-- what is true -/
def tD : D → Option Bool
  | .bl b => some b
  | .int i => some (i != 0)
  | _ => none
def tDs : List D → Option (List Bool)
  | [] => some []
  | x :: xs => (tD x).bind fun b => (tDs xs).map fun bs => b :: bs
theorem tDs_rep {ad : DA} {H : Hp} : ∀ {ds : List D} {bs : List Bool} {vs : List V}, tDs ds = some bs → RepAll K mg ad H vs ds → tvs vs = some bs
  | [], _, _, h, r => by cases r; exact h
  | d :: ds, _, _, h, r => by
    cases r with
    | cons r1 r2 =>
      unfold tDs at h
      rw [Option.bind_eq_some_iff] at h
      obtain ⟨b, hb, h⟩ := h
      rw [Option.map_eq_some_iff] at h
      obtain ⟨bs, h, rfl⟩ := h
      unfold tvs
      rw [tDs_rep h r2]
      cases r1 with
      | bl b' => cases hb; rfl
      | int i => cases hb; rfl
      | _ => cases hb
def anyT : List D → Option D
  | [.lst ds] => (tDs ds).map fun bs => .bl (bs.any id)
  | _ => none
theorem ad_anyT : AdC (RpE K mg) K mg (rAnyT K) anyT := by
  intro ad H g xs ds c dk r e Q q
  unfold anyT at e
  split at e
  · obtain ⟨x, rfl, rx⟩ := r.one
    rw [Option.map_eq_some_iff] at e
    obtain ⟨bs, e, rfl⟩ := e
    cases rx with
    | lst s ra => exact ⟨_, _, _, rfl, s.l, tDs_rep e ra, q _ _ (.refl _ _) dk (.bl _)⟩
  · cases e
end

/-! matrices: lists of lists of one's own, changed in place -/
/-- a matrix just made -/
abbrev RpM (K : PySem.W.Frag) (mg : Str → Option Value) : RpT V (List (List D)) := fun ad H H' v rows => ∃ a rs, v = .ref a ∧ H' a = some (.lst (rs.map V.ref)) ∧ Rows K mg ad H' rs rows ∧ (a :: rs).Nodup ∧ ∀ c ∈ a :: rs, H c = none
theorem bkM {K : PySem.W.Frag} {mg : Str → Option Value} : Bk (RpM K mg) := fun ad H H1 H' g v rows k dk ⟨a, rs, e, h1, h2, h3, h4⟩ => ⟨a, rs, e, h1, h2, h3, fun c m => k.free (dk.ne (h4 c m)) (h4 c m)⟩
/-- [row for tg in items if c], row a list just made -/
def compM (own : List Nat) (tg : Tgt) (c : BT) (e : XT) (S : DSt) : List D → G → R (List (List D))
  | [], g => .ok [] g
  | d :: ds, g => match setD tg d (wipeD S own) with
    | none => .bad
    | some S1 => match c S1 g with
      | .ok true g1 => match e S1 g1 with
        | .ok (.f y) g2 => if nolAll y then (compM own tg c e S ds g2).map (y :: ·) else .bad
        | _ => .bad
      | .ok false g1 => compM own tg c e S ds g1
      | _ => .bad
def xCompM (own : List Nat) (tg : Tgt) (it : DSt → G → R (List D)) (c : BT) (e : XT) : DSt → G → R (List (List D)) := fun S g => (it S g).bind fun ds g1 => compM own tg c e S ds g1
theorem Rows.keep {K : PySem.W.Frag} {mg : Str → Option Value} {ad : DA} {H H' : Hp} {g : G} {rs : List Addr} {xs : List (List D)} (h : Rows K mg ad H rs xs) (k : Keep ad H H') (dk : DrawOk ad H g) (n : ∀ r ∈ rs, r ≠ ad.ad) : Rows K mg ad H' rs xs :=
  h.to (fun r m vs e => k r _ e (n r m)) fun _ _ q => q.keep k dk
theorem Rows.has {K : PySem.W.Frag} {mg : Str → Option Value} {ad : DA} {H : Hp} : ∀ {rs : List Addr} {xs : List (List D)}, Rows K mg ad H rs xs → ∀ r ∈ rs, ∃ vs, H r = some (.lst vs)
  | r :: rs, x :: xs, ⟨⟨vs, h1, _⟩, _, h4⟩, c, m => by
    rcases List.mem_cons.mp m with rfl | m
    · exact ⟨vs, h1⟩
    · exact Rows.has h4 c m
theorem Rows.snoc {K : PySem.W.Frag} {mg : Str → Option Value} {ad : DA} {H : Hp} {r : Addr} {x : List D} (h : ∃ vs, H r = some (.lst vs) ∧ RepAll K mg ad H vs x) (n : nolAll x = true) : ∀ {rs : List Addr} {xs : List (List D)}, Rows K mg ad H rs xs → Rows K mg ad H (rs ++ [r]) (xs ++ [x])
  | [], [], _ => ⟨h, n, trivial⟩
  | _ :: _, _ :: _, ⟨h1, h3, h4⟩ => ⟨h1, h3, Rows.snoc h n h4⟩
section
variable {K : PySem.W.Frag} {mg : Str → Option Value} {W : WX} {B Bi Bc Be : List Nat} {own : List Nat} {t : Tgt} {it : DSt → G → R (List D)} {c : BT} {e : XT}
theorem compM_ap (hown : ∀ i ∈ t.is, i ∈ own) (hB : ∀ i ∈ Bc ++ Be, i ∈ own ∨ i ∈ B) : ∀ σ H Q, rd (RpM K mg) K mg W (Bi ++ B) (xCompM own t it c e) σ H Q →
    tLc (rdI K mg W Bi it) (gT K t) (eT K mg W0 Bc c) (eX K mg W0 Be e) own σ H Q := fun σ H Q ⟨ad, S, g, h⟩ => by
  refine ⟨ad, S, g, h.sr.left, h.dk, ?_⟩
  have p := h.po
  unfold xCompM at p
  cases r : it S g with
  | bad => simp only [r, R.bind] at p; exact p
  | er x g' => simp only [r, R.bind] at p; exact p
  | ok ds g1 =>
    simp only [r, R.bind] at p
    intro J H1 k1 d1 io Dd hDd
    obtain ⟨hz, Gd, Y, w, hG, hY⟩ := io
    cases rc : compM own t c e S ds g1 with
    | bad => simp only [rc] at p; exact p.elim
    | er x g' =>
      exfalso
      have no : ∀ (ds : List D) (g : G) x g', compM own t c e S ds g ≠ .er x g' := by
        intro ds
        induction ds with
        | nil => intro g x g' z; cases z
        | cons d ds ih =>
          intro g x g' z
          unfold compM at z
          split at z
          · cases z
          · split at z
            · split at z
              · split at z
                · rename_i g2 _ _
                  cases q : compM own t c e S ds g2 with
                  | ok a b => rw [q] at z; cases z
                  | er a b => exact ih _ _ _ q
                  | bad => rw [q] at z; cases z
                · cases z
              · cases z
            · exact ih _ _ _ z
            · cases z
      exact no _ _ _ _ rc
    | ok ys gz =>
      simp only [rc] at p
      have nD : Dd ≠ ad.ad := d1.ne hDd
      refine lc_it w (tt := eT K mg W0 Bc c) (te := eX K mg W0 Be e) (fun i H2 => ∃ g2 rs ya yr, H2 Dd = some (.lst (rs.map V.ref)) ∧ Rows K mg ad H2 rs ya ∧ rs.length ≤ i ∧ DrawOk ad H2 g2 ∧ Keep ad H1 H2 ∧ compM own t c e S (ds.drop i) g2 = .ok yr gz ∧ ya ++ yr = ys ∧ (Dd :: rs).Nodup ∧ ∀ r ∈ rs, H1 r = none)
        ⟨g1, [], [], ys, upd_same, trivial, Nat.le_refl _, d1.upd hDd, Keep.upd hDd, by rw [List.drop_zero]; exact rc, rfl, by simp, fun r m => nomatch m⟩ (fun i H2 hi ⟨g2, acc, ya, yr, _, _, _, _, k2, _⟩ => hG H2 (k2.perm d1)) (fun i x H2 H3 hi ⟨g2, rs, ya, yr, eD, ra, la, d2, k2, ec, ey, nd, fr⟩ y => ?_) (fun H2 ⟨g2, rs, ya, yr, eD, ra, la, d2, k2, ec, ey, nd, fr⟩ => ?_)
      · obtain ⟨hH, d, ed, rdd⟩ := hY i H2 x H3 hi (k2.perm d1) y
        have k3 : Keep ad H2 H3 := by
          rcases hH with rfl | ⟨T, o, hT, rfl⟩
          · exact .refl _ _
          · exact Keep.upd hT
        have d3 : DrawOk ad H3 g2 := by
          rcases hH with rfl | ⟨T, o, hT, rfl⟩
          · exact d2
          · exact d2.upd hT
        have nr : ∀ r ∈ rs, r ≠ ad.ad := fun r m => d1.ne (fr r m)
        have edr : ds.drop i = d :: ds.drop (i + 1) := by
          obtain ⟨hl, e⟩ := List.getElem?_eq_some_iff.mp ed
          rw [List.drop_eq_getElem_cons hl, e]
        rw [edr] at ec
        unfold compM at ec
        cases es : setD t d (wipeD S own) with
        | none => rw [es] at ec; cases ec
        | some S1 =>
          rw [es] at ec
          simp only at ec
          have srW : SR K mg ad H3 (B ++ own) (wipe σ own) (wipeD S own) := ⟨by rw [wipe_length, wipeD_len]; exact h.sr.1, fun j hj d' e' => by
            rw [wipeD_get] at e'
            by_cases hm : j ∈ own
            · rw [if_pos hm] at e'
              cases q : S[j]? with
              | none => rw [q] at e'; cases e'
              | some z => rw [q] at e'; cases e'
            · rw [if_neg hm] at e'
              have hjB : j ∈ B := (List.mem_append.mp hj).elim id fun z => absurd z hm
              obtain ⟨v, e1, r1⟩ := h.sr.right.2 j hjB d' e'
              exact ⟨v, by rw [wipe_get, if_neg hm]; exact e1, (r1.keep (k1.trans k2) h.dk).keep k3 d2⟩⟩
          refine gT_keep (gT_D rdd srW es (Q := fun σ' H' => H' = H3 ∧ ∃ C, (∀ i, i ∈ t.is ∨ i ∈ B ++ own → i ∈ C) ∧ SR K mg ad H3 C σ' S1) fun σ' C hC s => ⟨rfl, C, hC, s⟩) fun σ2 hk hl2 ⟨_, C, hC, s2⟩ => ⟨?_, ?_⟩
          · apply List.ext_getElem?
            intro j
            rw [wipe_get, wipe_get]
            by_cases hm : j ∈ own
            · rw [if_pos hm, if_pos hm]
              have e1 : σ2.length = σ.length := by rw [hl2, wipe_length]
              by_cases hj : j < σ.length
              · rw [List.getElem?_eq_getElem hj, List.getElem?_eq_getElem (by rw [e1]; exact hj)]
                rfl
              · rw [List.getElem?_eq_none (by omega), List.getElem?_eq_none (by omega)]
            · rw [if_neg hm, if_neg hm, hk j fun z => hm (hown j z), wipe_get, if_neg hm]
          · have hs : ∀ C', (∀ i ∈ C', i ∈ Bc ++ Be) → SR K mg ad H3 C' σ2 S1 := fun C' hC' => ⟨s2.1, fun j hj => s2.2 j (hC j (.inr (by
              rcases hB j (hC' j hj) with z | z
              · exact List.mem_append_right _ z
              · exact List.mem_append_left _ z)))⟩
            refine ⟨ad, S1, g2, hs Bc (fun i hi => List.mem_append_left _ hi), d3, ?_⟩
            cases rcc : c S1 g2 with
            | bad => rw [rcc] at ec; cases ec
            | er x g' => rw [rcc] at ec; cases ec
            | ok bv g3 =>
              rw [rcc] at ec
              intro bv' H4 k4 d4 ebv
              subst ebv
              have kD : H4 Dd = some (.lst (rs.map V.ref)) := k4 _ _ (k3 _ _ eD nD) nD
              have ra4 : Rows K mg ad H4 rs ya := (ra.keep k3 d2 nr).keep k4 d3 nr
              cases bv' with
              | false =>
                refine iteF (A := eX K mg W0 Be e σ2 H4 _) ⟨g3, rs, ya, yr, kD, ra4, Nat.le_succ_of_le la, d4, (k2.trans k3).trans k4, ec, ey, nd, fr⟩
              | true =>
                refine iteT (B := ∃ g2 rs ya yr, _) ⟨ad, S1, g3, (hs Be fun i hi => List.mem_append_right _ hi).keep k4 d3, d4, ?_⟩
                simp only at ec
                cases re : e S1 g3 with
                | bad => rw [re] at ec; cases ec
                | er x g' => rw [re] at ec; cases ec
                | ok yf g5 =>
                  rw [re] at ec
                  cases yf with
                  | v dd => cases ec
                  | f yv =>
                  simp only at ec
                  by_cases hn : nolAll yv = true
                  · rw [if_pos hn] at ec
                    intro v H5 k5 d5 rv
                    obtain ⟨q, us, rfl, nq, eq, rq⟩ := rv
                    have kD5 : H5 Dd = some (.lst (rs.map V.ref)) := k5 _ _ kD nD
                    refine ⟨rs.map V.ref, kD5, by rw [List.length_map]; omega, ?_⟩
                    cases rr : compM own t c e S (ds.drop (i + 1)) g5 with
                    | bad => simp only [rr, R.map] at ec; cases ec
                    | er x g' => simp only [rr, R.map] at ec; cases ec
                    | ok yr' gz' =>
                      simp only [rr, R.map, R.ok.injEq] at ec
                      obtain ⟨ec1, ec2⟩ := ec
                      have qD : q ≠ Dd := fun z => by rw [z, kD] at nq; cases nq
                      have up : ∀ {b o}, H5 b = some o → b ≠ Dd → upd H5 Dd (.lst (rs.map V.ref ++ [V.ref q])) b = some o := fun {b o} e' n => by rw [upd_ne n]; exact e'
                      have pm : Perm H5 (upd H5 Dd (.lst (rs.map V.ref ++ [V.ref q]))) := perm_lst kD5
                      have ra5 : Rows K mg ad H5 rs ya := ra4.keep k5 d4 nr
                      have nDr : Dd ∉ rs := (List.nodup_cons.mp nd).1
                      have nq' : q ∉ rs := fun m => by
                        obtain ⟨ws, z⟩ := ra4.has q m
                        rw [nq] at z; cases z
                      have q1 : H1 q = none := k2.free (d2.ne (k3.free (d3.ne (k4.free (d4.ne nq) nq)) (k4.free (d4.ne nq) nq))) (k3.free (d3.ne (k4.free (d4.ne nq) nq)) (k4.free (d4.ne nq) nq))
                      refine ⟨g5, rs ++ [q], ya ++ [yv], yr', by rw [upd_same, List.map_append]; rfl, ?_, by rw [List.length_append]; show rs.length + 1 ≤ i + 1; omega, d5.at_ (fun xs e' => by rw [upd_ne (Ne.symm nD)]; exact e') (fun o u e' => pm.frz _ _ _ e'), fun b o e' n => ?_, by rw [ec2] at rr; exact rr, by rw [← ey, ← ec1, List.append_assoc]; rfl, ?_, fun r m => ?_⟩
                      · refine Rows.snoc ⟨us, up eq qD, rq.perm pm⟩ hn (ra5.to (fun r m vs e' => up e' fun z => nDr (by rw [← z]; exact m)) fun _ _ z => z.perm pm)
                      · have bD : b ≠ Dd := fun z => by rw [z, hDd] at e'; cases e'
                        rw [upd_ne bD]
                        exact k5 _ _ (k4 _ _ (k3 _ _ (k2 _ _ e' n) n) n) n
                      · rw [List.nodup_cons] at nd ⊢
                        refine ⟨fun m => ?_, ?_⟩
                        · rcases List.mem_append.mp m with m | m
                          · exact nd.1 m
                          · exact qD (List.mem_singleton.mp m).symm
                        · refine List.nodup_append.mpr ⟨nd.2, by simp, fun a ma b mb z => ?_⟩
                          rw [List.mem_singleton.mp mb] at z
                          exact nq' (by rw [← z]; exact ma)
                      · rcases List.mem_append.mp m with m | m
                        · exact fr r m
                        · rw [List.mem_singleton.mp m]; exact q1
                  · rw [if_neg hn] at ec; cases ec
      · rw [List.drop_length] at ec
        cases ec
        rw [List.append_nil] at ey
        subst ey
        have free : ∀ c ∈ Dd :: rs, H c = none := fun c m => by
          rcases List.mem_cons.mp m with rfl | m
          · exact k1.free nD hDd
          · exact k1.free (d1.ne (fr c m)) (fr c m)
        exact p _ H2 (k1.trans k2) d2 ⟨Dd, rs, rfl, eD, ra, nd, free⟩
end

/-! statements about matrices -/
section
variable {K : PySem.W.Frag} {mg : Str → Option Value} {H0 : Hp} {ad : DA} {H H1 H2 H3 : Hp} {σ : St} {S : SS} {g : G} {ow : Nat → List Addr}
theorem RpM.back {v : V} {rows : List (List D)} (gT3 : ∀ a xs, SqN K H2 a xs → SqN K H3 a xs) (same : ∀ a, H1 a = none → H3 a = H2 a) (hn0 : ∀ a, H1 a = none → H a = none) (h : RpM K mg ad H1 H2 v rows) : RpM K mg ad H H3 v rows := by
  obtain ⟨a, rs, e, h1, h2, h3, h4⟩ := h
  exact ⟨a, rs, e, by rw [same a (h4 a List.mem_cons_self)]; exact h1, h2.toN (fun r m vs q => by rw [same r (h4 r (List.mem_cons_of_mem _ m))]; exact q) gT3, h3, fun c m => hn0 c (h4 c m)⟩
/-- storing a matrix newly made -/
theorem SRo.storeM (s0 : SRo ow K mg H0 ad H σ S) (dk : DrawOk ad H g) {ow' : Nat → List Addr} {σ' : St} {S' : SS} (s : SRo ow' K mg H0 ad H3 σ' S') {i : Nat} {a : Addr} {rs : List Addr} {rows : List (List D)} (h1 : H3 a = some (.lst (rs.map V.ref))) (h2 : Rows K mg ad H3 rs rows) (h3 : (a :: rs).Nodup) (h4 : ∀ c ∈ a :: rs, H c = none) (h5 : ∀ c ∈ a :: rs, ∀ j, i ≠ j → c ∈ ow' j → c ∈ ow j) :
    SRo (owSet ow' i (a :: rs)) K mg H0 ad H3 (σ'.set i (some (.ref a))) (S'.set i (some (.mat rows))) := by
  refine s.put (x := .mat rows) ⟨a, rs, rfl, rfl, h1, h2⟩ (fun c m => ⟨?_, s0.keep.free (dk.ne (h4 c m)) (h4 c m), dk.ne (h4 c m), fun j hj mj => ?_⟩) h3
  · rcases List.mem_cons.mp m with rfl | m
    · exact ⟨_, h1⟩
    · exact h2.has c m
  · obtain ⟨⟨vs, e⟩, _⟩ := s0.live j c (h5 c m j hj mj)
    rw [h4 c m] at e; cases e
end
def sSetM (i : Nat) (B : List Nat) (t : DSt → G → R (List (List D))) : SB := fun S g => match t (view S) g with
  | .ok rows g' => .nx (S.set i (some (.mat rows))) g'
  | _ => .bad
section
variable {X : Cx} {W : WX} {B Bi Bc Be : List Nat} {t : Tgt} {it : DSt → G → R (List D)} {c : BT} {e : XT} {elt tg iter : Expr} {ifs : List Expr} {scope : Scope} {own : List (Str × Nat)} {pos spos py : Pos}
theorem ds_lendM {st : Stmt} {i : Nat} {te : TE} {u : DSt → G → R (List (List D))} (h : PS X st (tAsg te (gName i))) (ap : ∀ σ H Q, rd (RpM X.K X.mg) X.K X.mg W B u σ H Q → te σ H Q) : SD X W st (sSetM i B u) := by
  refine ⟨fun pins s σ H D I ⟨ad, S, g, hh⟩ => ?_⟩
  obtain ⟨⟨ow, sr⟩, dk, po⟩ := hh
  obtain ⟨H1, I1, s1, sr1, dk1, p1, hn0, back⟩ := lend B I sr dk
  unfold sSetM at po
  refine thn (h.run pins s σ H1 { nx := fun σ2 H2 => ∃ v f g', u (view S) g = .ok f g' ∧ σ2 = σ.set i (some v) ∧ Keep ad H1 H2 ∧ DrawOk ad H2 g' ∧ RpM X.K X.mg ad H1 H2 v f, rt := fun _ _ => False } I1 (ap σ H1 _ ⟨ad, view S, g, sr1, dk1, ?_⟩)) fun f s' q => ?_
  · cases r : u (view S) g with
    | bad => rw [r] at po; exact po
    | er x g' => rw [r] at po; exact po.elim
    | ok f g' => exact fun v H2 k2 d2 q => ⟨v, f, g', rfl, rfl, k2, d2, q⟩
  · cases f with
    | brk => obtain ⟨_, _, _, z⟩ := q; exact z.elim
    | cont => obtain ⟨_, _, _, z⟩ := q; exact z.elim
    | ret u => obtain ⟨_, _, _, _, _, z⟩ := q; exact z.elim
    | next =>
      obtain ⟨σ2, H2, I2, v, rows, g', ef, rfl, k2, d2, fr⟩ := q
      rw [ef] at po
      obtain ⟨H3, I3, s3, d3, p3, gT3, nn, same⟩ := back H2 s' g' _ I2 k2 d2
      obtain ⟨a, rs, rfl, h1, h2, h3, h4⟩ := RpM.back gT3 same hn0 fr
      exact ⟨_, H3, I3, po _ H3 (p3.perm dk) (sr.storeM dk s3 h1 h2 h3 h4 fun c m j hj mj => mj).s d3⟩
theorem ds_setMat {i : Nat} {y : Str} (hc : X.calm = true) (hN : X.N.Nodup) (hy : X.N[i]? = some y) (hyl : X.env.scope.names.lookup y = some .local) (hsw : swapsWith (.ListComp elt [⟨tg, iter, ifs, 0⟩] scope pos) (some (.Name y py)) spos.line X.env = pure true)
    (ok : BlkOk X.N X.env.scope scope own) (hown : ∀ i ∈ t.is, i ∈ own.map (·.2)) (hB : ∀ i ∈ Bc ++ Be, i ∈ own.map (·.2) ∨ i ∈ B)
    (hi : PI X tg iter (rdI X.K X.mg W Bi it)) (hg : ∀ s H C cl fp, TgOk (Cx.bk X scope s H C cl fp) tg t) (ht : ∀ s H C cl fp, PTs (Cx.bk X scope s H C cl fp) ifs (eT X.K X.mg W0 Bc c)) (he : ∀ s H C cl fp, PE (Cx.bk X scope s H C cl fp) elt (eX X.K X.mg W0 Be e))
    (hs : ∀ x, foldedSetIterable iter X.env x = pure x := by intro _; rfl) : SD X W (.Assign [.Name y py] (.ListComp elt [⟨tg, iter, ifs, 0⟩] scope pos) spos) (sSetM i (Bi ++ B) (xCompM (own.map (·.2)) t it c e)) :=
  ds_lendM (ps_setLc hc hN hy hyl hsw hi ok (fun s H C cl fp => (hg s H C cl fp).pg) ht he hs) (compM_ap hown hB)
end

/-! ### m[i][j] = e -/
/-- an expression within a statement that leaves the own lists as they are: what it gives holds no list -/
def rdBK (K : PySem.W.Frag) (mg : Str → Option Value) (H0 : Hp) (t : ET) : TE := fun σ H Q => ∃ ad S g d g', SRS K mg H0 ad H σ S ∧ DrawOk ad H g ∧ t (view S) g = .ok d g' ∧ d.nol = true ∧ ∀ v H', Keep ad H H' → DrawOk ad H' g' → Rep K mg ad H' v d → Q v H'
theorem brwK {X : Cx} {W : WX} {B : List Nat} {e : Expr} {t : ET} (h : PE X e (eE X.K X.mg W B t)) : PE X e (rdBK X.K X.mg X.H_0 t) := by
  refine ⟨fun pins s σ H Q I hq => ?_⟩
  obtain ⟨ad, S, g, d, g', ⟨ow, sr⟩, dk, ed, hn, po⟩ := hq
  obtain ⟨H1, I1, s1, sr1, dk1, p1, hn0, back⟩ := lend B I sr dk
  refine thn (h.run pins s σ H1 (fun v H2 => Keep ad H1 H2 ∧ DrawOk ad H2 g' ∧ Rep X.K X.mg ad H2 v d) I1 ⟨ad, view S, g, sr1, dk1, by rw [ed]; exact fun v H2 k d q => ⟨k, d, q⟩⟩) fun u s2 ⟨v, H2, I2, r, k2, d2, fr⟩ => ?_
  obtain ⟨H3, I3, s3, d3, p3, gT3, nn, same⟩ := back H2 s2 g' σ I2 k2 d2
  exact ⟨v, H3, I3, r, po v H3 p3 d3 (Rep.mapN gT3 d v hn fr)⟩
def putD (rows : List (List D)) (i j : Int) (d : D) : Option (List (List D)) := (ixN rows.length i).bind fun k => (rows[k]?).bind fun row => (ixN row.length j).map fun l => rows.set k (row.set l d)
/-- d is put into the matrix at b -/
def putS (b : Nat) (ti tj : ET) (d : D) (S : SS) (g : G) (k : SS → G → RS) : RS := match ti (view S) g with
  | .ok (.int i) g2 => match tj (view S) g2 with
    | .ok (.int j) g3 => match S[b]? with
      | some (some (.mat rows)) => match putD rows i j d with
        | some r' => k (S.set b (some (.mat r'))) g3
        | none => .bad
      | _ => .bad
    | _ => .bad
  | _ => .bad
def sPut (b : Nat) (te ti tj : ET) : SB := fun S g => match te (view S) g with
  | .ok d g1 => if d.nol then putS b ti tj d S g1 fun S g => .nx S g else .bad
  | _ => .bad
def sPut2 (b1 b2 : Nat) (te ti1 tj1 ti2 tj2 : ET) : SB := fun S g => match te (view S) g with
  | .ok (.tup [d1, d2]) g1 => if d1.nol && d2.nol then putS b1 ti1 tj1 d1 S g1 fun S g => putS b2 ti2 tj2 d2 S g fun S g => .nx S g else .bad
  | _ => .bad
section
variable {K : PySem.W.Frag} {mg : Str → Option Value} {H0 : Hp} {ad : DA} {σ : St}
theorem Rows.at {H : Hp} : ∀ {rs : List Addr} {xs : List (List D)} {k : Nat} {row : List D}, Rows K mg ad H rs xs → xs[k]? = some row → ∃ r vs, rs[k]? = some r ∧ H r = some (.lst vs) ∧ RepAll K mg ad H vs row ∧ nolAll row = true
  | r :: rs, x :: xs, 0, row, ⟨⟨vs, h1, h2⟩, h3, _⟩, e => by
    simp only [List.getElem?_cons_zero, Option.some.injEq] at e
    subst e
    exact ⟨r, vs, rfl, h1, h2, h3⟩
  | r :: rs, x :: xs, k + 1, row, ⟨_, _, h4⟩, e => by
    obtain ⟨r', vs, q⟩ := Rows.at (k := k) (row := row) h4 (by simpa using e)
    exact ⟨r', vs, by simpa using q⟩
  | [], [], k, row, _, e => by simp at e
theorem Rows.len {H : Hp} : ∀ {rs : List Addr} {xs : List (List D)}, Rows K mg ad H rs xs → rs.length = xs.length
  | [], [], _ => rfl
  | _ :: _, _ :: _, ⟨_, _, h⟩ => by rw [List.length_cons, List.length_cons, Rows.len h]
theorem Rows.set {H : Hp} {r : Addr} {ws : List V} {y : List D} (rw' : RepAll K mg ad (upd H r (.lst ws)) ws y) (ny : nolAll y = true) (pm : Perm H (upd H r (.lst ws))) : ∀ {rs : List Addr} {xs : List (List D)} {k : Nat}, rs.Nodup → Rows K mg ad H rs xs → rs[k]? = some r → Rows K mg ad (upd H r (.lst ws)) rs (xs.set k y)
  | a :: rs, x :: xs, 0, nd, ⟨_, _, h4⟩, e => by
    simp only [List.getElem?_cons_zero, Option.some.injEq] at e
    subst e
    exact ⟨⟨ws, upd_same, rw'⟩, ny, h4.to (fun c m vs q => by rw [upd_ne (fun z => (List.nodup_cons.mp nd).1 (by rw [← z]; exact m))]; exact q) fun _ _ q => q.perm pm⟩
  | a :: rs, x :: xs, k + 1, nd, ⟨⟨vs, h1, h2⟩, h3, h4⟩, e => by
    have e' : rs[k]? = some r := by simpa using e
    have ne : a ≠ r := fun z => (List.nodup_cons.mp nd).1 (by rw [z]; exact List.mem_of_getElem? e')
    exact ⟨⟨vs, by rw [upd_ne ne]; exact h1, h2.perm pm⟩, h3, Rows.set rw' ny pm (List.nodup_cons.mp nd).2 h4 e'⟩
  | [], [], _, _, _, e => by simp at e
theorem nolAll_set : ∀ {xs : List D} {k : Nat} {d : D}, nolAll xs = true → d.nol = true → nolAll (xs.set k d) = true
  | [], _, _, _, _ => rfl
  | x :: xs, 0, d, h, n => by
    simp only [nolAll, Bool.and_eq_true, List.set_cons_zero] at h ⊢
    exact ⟨n, h.2⟩
  | x :: xs, k + 1, d, h, n => by
    simp only [nolAll, Bool.and_eq_true, List.set_cons_succ] at h ⊢
    exact ⟨h.1, nolAll_set h.2 n⟩
theorem put_ap {b : Nat} {ti tj : ET} {d : D} {S : SS} {g : G} {H : Hp} {v : V} {k : SS → G → RS} {T : RS → Prop} {Q : St → Hp → Prop} (hT : ¬ T .bad) (sr : SRS K mg H0 ad H σ S) (dk : DrawOk ad H g) (rv : Rep K mg ad H v d) (hn : d.nol = true) (po : T (putS b ti tj d S g k))
    (q : ∀ S' g' H', Perm H H' → SRS K mg H0 ad H' σ S' → DrawOk ad H' g' → T (k S' g') → Q σ H') : gSub (tOp (rIx K) (tVar b) (rdBK K mg H0 ti)) (rdBK K mg H0 tj) rSetL v σ H Q := by
  obtain ⟨ow, sr⟩ := sr
  unfold putS at po
  cases e1 : ti (view S) g with
  | bad => rw [e1] at po; exact (hT po).elim
  | er x g' => rw [e1] at po; exact (hT po).elim
  | ok di g2 =>
  rw [e1] at po
  cases di with
  | int i =>
    simp only at po
    cases e2 : tj (view S) g2 with
    | bad => rw [e2] at po; exact (hT po).elim
    | er x g' => rw [e2] at po; exact (hT po).elim
    | ok dj g3 =>
    rw [e2] at po
    cases dj with
    | int j =>
      simp only at po
      cases e3 : S[b]? with
      | none => rw [e3] at po; exact (hT po).elim
      | some x =>
      rw [e3] at po
      cases x with
      | none => exact (hT po).elim
      | some x =>
      cases x with
      | val _ => exact (hT po).elim
      | own _ => exact (hT po).elim
      | mat rows =>
        simp only at po
        cases e4 : putD rows i j d with
        | none => rw [e4] at po; exact (hT po).elim
        | some r' =>
          rw [e4] at po
          simp only at po
          -- the places
          unfold putD at e4
          cases f1 : ixN rows.length i with
          | none => rw [f1] at e4; cases e4
          | some k1 =>
          rw [f1] at e4
          simp only [Option.bind_some] at e4
          cases f2 : rows[k1]? with
          | none => rw [f2] at e4; cases e4
          | some row =>
          rw [f2] at e4
          simp only [Option.bind_some] at e4
          cases f3 : ixN row.length j with
          | none => rw [f3] at e4; cases e4
          | some l =>
          rw [f3] at e4
          simp only [Option.map_some, Option.some.injEq] at e4
          subst e4
          obtain ⟨v0, ev, a, rs, rfl, el, ea, ra⟩ := sr.lies b _ e3
          refine ⟨_, ev, ad, S, g, _, _, sr.s, dk, e1, rfl, fun vi H1 kk1 d1 ri => ?_⟩
          have sr1 := sr.keeps kk1 dk
          obtain ⟨v0', ev', a', rs', rfl, el', ea1, ra1⟩ := sr1.lies b _ e3
          rw [ev] at ev'; cases ev'
          obtain ⟨r, us, g1, g2', g3', g4⟩ := ra1.at f2
          cases ri
          have hlen : (rs'.map V.ref).length = rows.length := by rw [List.length_map, ra1.len]
          refine .inl ⟨_, _, i, .ref r, rfl, rfl, .of ea1, ?_, ?_⟩
          · unfold atI
            rw [hlen, f1]
            simp [g1]
          · refine ⟨ad, S, g2, _, _, sr1.s, d1, e2, rfl, fun vj H2 kk2 d2 rj => ?_⟩
            have sr2 := sr1.keeps kk2 d1
            have rr : r ∈ ow b := by rw [el']; exact List.mem_cons_of_mem _ (List.mem_of_getElem? g1)
            have nr : r ≠ ad.ad := (sr1.live b r rr).2.2
            cases rj
            have g2'' : H2 r = some (.lst us) := kk2 r _ g2' nr
            have rus : RepAll K mg ad H2 us row := g3'.keep kk2 d1
            have rv2 : Rep K mg ad H2 v d := (rv.keep kk1 dk).keep kk2 d1
            refine ⟨r, us, j, l, rfl, rfl, g2'', by rw [rus.len]; exact f3, ?_⟩
            have pm : Perm H2 (upd H2 r (.lst (us.set l v))) := perm_lst g2''
            have nd : (a :: rs').Nodup := by rw [← el']; exact sr1.nd b
            have ea2 : H2 a = some (.lst (rs'.map V.ref)) := kk2 a _ ea1 (sr1.live b a (by rw [el']; exact List.mem_cons_self)).2.2
            have na : a ≠ r := fun z => (List.nodup_cons.mp nd).1 (by rw [z]; exact List.mem_of_getElem? g1)
            have ra2 : Rows K mg ad H2 rs' rows := ra1.keep kk2 d1 fun c m => (sr1.live b c (by rw [el']; exact List.mem_cons_of_mem _ m)).2.2
            refine q _ g3 _ (((kk1.trans kk2).perm dk).trans pm) (sr2.mutL (x := .mat (rows.set k1 (row.set l d))) (List.getElem?_eq_some_iff.mp e3).1 rr ev ?_).s (d2.mut g2'' nr) po
            exact ⟨a, rs', rfl, el', by rw [upd_ne na]; exact ea2, Rows.set ((rus.set rv2 l).perm pm) (nolAll_set g4 hn) pm (List.nodup_cons.mp nd).2 ra2 g1⟩
    | _ => exact (hT po).elim
  | _ => exact (hT po).elim
end
section
variable {X : Cx} {W : WX} {e : Expr} {pos : Pos} {te ti tj : ET} {Be Bi Bj : List Nat}
/-- m[i][j], as a target -/
theorem pg_put {b : Nat} {x : Str} {ei ej : Expr} {px p1 p2 : Pos} (hN : X.N[b]? = some x) (hv : Vis X.env.scope x) (hi : PE X ei (eE X.K X.mg W0 Bi ti)) (hj : PE X ej (eE X.K X.mg W0 Bj tj)) (hs : PlainIx ei := by exact fun _ _ => rfl) (hd : (x == ("__debug__" : Str)) = false := by decide) (hcd : (x == ("__classdict__" : Str)) = false := by decide)
    (ha : ∀ v, assign (.Subscript (.Subscript (.Name x px) ei p1) ej p2) X.env v = (do
      let ov ← holding [v] (eval (.Subscript (.Name x px) ei p1) X.env)
      let iv ← holding [v, ov] (eval ej X.env)
      standAt p2
      holding [v, ov, iv] (setItem ov iv v)
      release [v, ov, iv] []) := by intro _; rfl) :
    PG X (.Subscript (.Subscript (.Name x px) ei p1) ej p2) (gSub (tOp (rIx X.K) (tVar b) (rdBK X.K X.mg X.H_0 ti)) (rdBK X.K X.mg X.H_0 tj) rSetL) := pg_sub (pe_ix ix_seq (pe_var hN hv hd hcd) (brwK hi) hs) (brwK hj) set_list ha
theorem ds_put {b : Nat} {tg : Expr} (he : PE X e (eE X.K X.mg W Be te)) (hg : PG X tg (gSub (tOp (rIx X.K) (tVar b) (rdBK X.K X.mg X.H_0 ti)) (rdBK X.K X.mg X.H_0 tj) rSetL)) (hs : swapsWithSole [tg] e pos.line X.env = pure false := by rfl) (hw : swappedStores [tg] e X.env = pure none := by rfl)
    (h1 : (assignEach [tg] X.env).map (·.2) = [assign tg X.env] := by rfl) : SD X W (.Assign [tg] e pos) (sPut b te ti tj) := PS.imp (ps_asg (brwK he) hg hs hw h1) fun D σ H ⟨ad, S, g, h⟩ => by
  have p := h.po
  unfold sPut at p
  cases r : te (view S) g with
  | bad => rw [r] at p; exact p.elim
  | er x g' => rw [r] at p; exact p.elim
  | ok d g1 =>
    rw [r] at p
    simp only at p
    by_cases hn : d.nol = true
    · rw [if_pos hn] at p
      refine ⟨ad, S, g, d, g1, h.sr, h.dk, r, hn, fun v H1 k1 d1 rv => ?_⟩
      exact put_ap (T := pstS X.K X.mg X.H_0 W ad H D) id (h.sr.keeps k1 h.dk) d1 rv hn p fun S' g' H' pm s' d' q => q σ H' ((k1.perm h.dk).trans pm) s' d'
    · rw [if_neg hn] at p; exact p.elim
theorem ds_put2 {b1 b2 : Nat} {tg1 tg2 : Expr} {ti1 tj1 ti2 tj2 : ET} {kt : Nat} {pt : Pos} (hc : X.calm = true) (he : PE X e (eE X.K X.mg W Be te)) (hg1 : PG X tg1 (gSub (tOp (rIx X.K) (tVar b1) (rdBK X.K X.mg X.H_0 ti1)) (rdBK X.K X.mg X.H_0 tj1) rSetL)) (hg2 : PG X tg2 (gSub (tOp (rIx X.K) (tVar b2) (rdBK X.K X.mg X.H_0 ti2)) (rdBK X.K X.mg X.H_0 tj2) rSetL))
    (he1 : (assignEach [tg2] X.env).map (·.2) = assign tg2 X.env :: (assignEach [] X.env).map (·.2) := by rfl) (he2 : (assignEach [tg1, tg2] X.env).map (·.2) = assign tg1 X.env :: (assignEach [tg2] X.env).map (·.2) := by rfl)
    (hn : (assignEach [tg1, tg2] X.env).length = 2 := by rfl) (hst : (assignEach [tg1, tg2] X.env).findIdx? (·.1) = none := by rfl)
    (hs : swapsWithSole [.Tuple [tg1, tg2] kt pt] e pos.line X.env = pure false := by rfl) (hw : swappedStores [.Tuple [tg1, tg2] kt pt] e X.env = pure none := by rfl)
    (h1 : (assignEach [.Tuple [tg1, tg2] kt pt] X.env).map (·.2) = [assign (.Tuple [tg1, tg2] kt pt) X.env] := by rfl) : SD X W (.Assign [.Tuple [tg1, tg2] kt pt] e pos) (sPut2 b1 b2 te ti1 tj1 ti2 tj2) := PS.imp (ps_asg (brwK he) (pg_tup hc (pgs_cons hg1 (pgs_cons hg2 pgs_nil he1) he2) hn hst) hs hw h1) fun D σ H ⟨ad, S, g, h⟩ => by
  have p := h.po
  unfold sPut2 at p
  cases r : te (view S) g with
  | bad => rw [r] at p; exact p.elim
  | er x g' => rw [r] at p; exact p.elim
  | ok d g1 =>
    rw [r] at p
    split at p
    · rename_i d1 d2 g1' er
      cases er
      by_cases hn : (d1.nol && d2.nol) = true
      · rw [if_pos hn] at p
        simp only [Bool.and_eq_true] at hn
        refine ⟨ad, S, g, _, _, h.sr, h.dk, r, by simp [DI.D.nol, nolAll, hn.1, hn.2], fun v H1 k1 dd1 rv => ?_⟩
        cases rv with
        | tup st ra =>
          obtain ⟨x, y, rfl, rx, ry⟩ := ra.two
          refine ⟨_, _, rfl, st.t, rfl, x, [y], rfl, ?_⟩
          refine put_ap (T := pstS X.K X.mg X.H_0 W ad H D) id (h.sr.keeps k1 h.dk) dd1 rx hn.1 p fun S' g' H' pm s' d' q => ⟨y, [], rfl, ?_⟩
          refine put_ap (T := pstS X.K X.mg X.H_0 W ad H D) id s' d' (ry.perm pm) hn.2 q fun S'' g'' H'' pm2 s'' d'' q => ⟨rfl, q σ H'' (((k1.perm h.dk).trans pm).trans pm2) s'' d''⟩
      · rw [if_neg hn] at p; exact p.elim
    · exact p.elim
end

/-! a def that gives two matrices; x.append(y.pop(..)) -/
abbrev MM := List (List D) × List (List D)
/-- a tuple of two matrices, both just made -/
abbrev RpP (K : PySem.W.Frag) (mg : Str → Option Value) : RpT V MM := fun ad H H' v ab => ∃ t a rs b qs, v = .ref t ∧ SqT K H' t [.ref a, .ref b] ∧ H' a = some (.lst (rs.map V.ref)) ∧ Rows K mg ad H' rs ab.1 ∧ H' b = some (.lst (qs.map V.ref)) ∧ Rows K mg ad H' qs ab.2 ∧ ((a :: rs) ++ (b :: qs)).Nodup ∧ ∀ c ∈ (a :: rs) ++ (b :: qs), H c = none
theorem bkP {K : PySem.W.Frag} {mg : Str → Option Value} : Bk (RpP K mg) := fun ad H H1 H' g v ab k dk ⟨t, a, rs, b, qs, e, h0, h1, h2, h3, h4, h5, h6⟩ => ⟨t, a, rs, b, qs, e, h0, h1, h2, h3, h4, h5, fun c m => k.free (dk.ne (h6 c m)) (h6 c m)⟩
abbrev MT2 := List D → G → R MM
def spM (K : PySem.W.Frag) (mg : Str → Option Value) (n : Nat) (m : MT2) : Sp := fun vs H Q E => vs.length = n ∧ ∃ ad ds g, RepAll K mg ad H vs ds ∧ DrawOk ad H g ∧ pst (RpP K mg) K mg ad H Q E (m ds g)
structure DefOkM (P : Program) (w : World) (K : PySem.W.Frag) (mg : Str → Option Value) (base : Heap) (x : Str) (n : Nat) (m : MT2) (k : Nat) : Prop where
  ex : ∃ (f : Addr) (fd : FuncData) (ps : List Str), ps.length = n ∧ FnOk P w K mg base (L2.CX P w) k f fd ps (spM K mg n m) ∧ mg x = some (.ref f) ∧ PySem.W.keepIn K (.ref f) = true ∧ L2.Binds K fd ps []
def eCallM (n : Nat) (m : MT2) (ts : DSt → G → R (List D)) : DSt → G → R MM := fun S g => (ts S g).bind fun ds g1 => if ds.length = n then m ds g1 else .bad
section
variable {X : Cx} {W : WX} {B : List Nat} {e : Expr} {es : List Expr} {ts : DSt → G → R (List D)} {x : Str} {n k k' : Nat} {m : MT2} {p pos : Pos}
theorem de_callM (F : DefOkM X.prog X.w X.K X.mg X.base x n m k) (hr : Room k' X.A) (hk : k ≤ k') (hg : Gl X x) (tk : Takes X W) (ha : PA X (e :: es) (eA X.K X.mg W B ts)) (hdb : (x == ("__debug__" : Str)) = false := by decide)
    (he : starEach (e :: es) X.env = (false, eval e X.env) :: starEach es X.env := by rfl) (hpl : (backTo pos (starEach es X.env)).any (·.1) = false := by rfl) : PE X (.Call (.Name x p) (e :: es) [] pos) (rd (RpP X.K X.mg) X.K X.mg W B (eCallM n m ts)) := by
  obtain ⟨f, fd, ps, hn, Fn, hm, hkp, hb⟩ := F.ex
  refine PE.imp (pe_callS Fn (hr.mono hk) hg hm hkp hb (fun σ => passAt tk σ) ha hdb he hpl) fun σ H Q ⟨a0, S, g, h⟩ => ?_
  have h : At (RpP X.K X.mg) X.K X.mg W (B ++ []) (eCallM n m ts) a0 S g σ H Q := by rw [List.append_nil]; exact h
  refine .mk ((h.bind (Rp1 := RpA X.K X.mg) bkP (k := fun ds _ g1 => if ds.length = n then m ds g1 else .bad)).imp fun xs H1 ⟨ds, g1, k1, d1, r1, h2⟩ => ?_)
  have p := h2.po
  by_cases hl : ds.length = n
  · rw [if_pos hl] at p
    exact ⟨by rw [r1.len]; exact hl, a0, ds, g1, r1, d1, p⟩
  · rw [if_neg hl] at p
    exact p.elim
end
/-- a, b = two matrices -/
def sUnpM (i j : Nat) (B : List Nat) (t : DSt → G → R MM) : SB := fun S g => match t (view S) g with
  | .ok ab g' => .nx ((S.set i (some (.mat ab.1))).set j (some (.mat ab.2))) g'
  | _ => .bad
theorem ds_unpM {X : Cx} {W : WX} {B : List Nat} {i j : Nat} {e : Expr} {ns : List Expr} {kt : Nat} {pt pos : Pos} {t : DSt → G → R MM} (he : PE X e (rd (RpP X.K X.mg) X.K X.mg W B t)) (hg : TgOk X (.Tuple ns kt pt) (.tp [i, j])) (hs : swapsWithSole [.Tuple ns kt pt] e pos.line X.env = pure false := by rfl) (hw : swappedStores [.Tuple ns kt pt] e X.env = pure none := by rfl)
    (h1 : (assignEach [.Tuple ns kt pt] X.env).map (·.2) = [assign (.Tuple ns kt pt) X.env] := by rfl) : SD X W (.Assign [.Tuple ns kt pt] e pos) (sUnpM i j B t) := by
  have hps := ps_asg he hg.pg hs hw h1
  refine ⟨fun pins s σ H D I ⟨ad, S, g, hh⟩ => ?_⟩
  obtain ⟨⟨ow, sr⟩, dk, po⟩ := hh
  obtain ⟨H1, I1, s1, sr1, dk1, p1, hn0, back⟩ := lend B I sr dk
  unfold sUnpM at po
  refine thn (hps.run pins s σ H1 { nx := fun σ2 H2 => ∃ ab g' a rs b qs, t (view S) g = .ok ab g' ∧ σ2 = (σ.set i (some (.ref a))).set j (some (.ref b)) ∧ Keep ad H1 H2 ∧ DrawOk ad H2 g' ∧ H2 a = some (.lst (rs.map V.ref)) ∧ Rows X.K X.mg ad H2 rs ab.1 ∧ H2 b = some (.lst (qs.map V.ref)) ∧ Rows X.K X.mg ad H2 qs ab.2 ∧ ((a :: rs) ++ (b :: qs)).Nodup ∧ ∀ c ∈ (a :: rs) ++ (b :: qs), H1 c = none, rt := fun _ _ => False } I1 ⟨ad, view S, g, sr1, dk1, ?_⟩) fun f s' q => ?_
  · cases r : t (view S) g with
    | bad => rw [r] at po; exact po.elim
    | er x g' => rw [r] at po; exact po.elim
    | ok ab g' =>
      rintro v H2 k2 d2 ⟨t, a, rs, b, qs, rfl, h0, h1, h2, h3, h4, h5, h6⟩
      exact .inl ⟨t, _, rfl, h0, rfl, gNames_vs rfl ⟨ab, g', a, rs, b, qs, rfl, rfl, k2, d2, h1, h2, h3, h4, h5, h6⟩⟩
  · cases f with
    | brk => obtain ⟨_, _, _, z⟩ := q; exact z.elim
    | cont => obtain ⟨_, _, _, z⟩ := q; exact z.elim
    | ret u => obtain ⟨_, _, _, _, _, z⟩ := q; exact z.elim
    | next =>
      obtain ⟨σ2, H2, I2, ab, g', a, rs, b, qs, ef, rfl, k2, d2, h1, h2, h3, h4, h5, h6⟩ := q
      rw [ef] at po
      obtain ⟨H3, I3, s3, d3, p3, gT3, nn, same⟩ := back H2 s' g' _ I2 k2 d2
      have at3 : ∀ c ∈ (a :: rs) ++ (b :: qs), H3 c = H2 c := fun c m => same c (h6 c m)
      have e1 : H3 a = some (.lst (rs.map V.ref)) := by rw [at3 a (by simp)]; exact h1
      have e2 : H3 b = some (.lst (qs.map V.ref)) := by rw [at3 b (by simp)]; exact h3
      have r1 : Rows X.K X.mg ad H3 rs ab.1 := h2.toN (fun r m vs q => by rw [at3 r (by simp [m])]; exact q) gT3
      have r2 : Rows X.K X.mg ad H3 qs ab.2 := h4.toN (fun r m vs q => by rw [at3 r (by simp [m])]; exact q) gT3
      obtain ⟨n1, n2, n3⟩ := List.nodup_append.mp h5
      have f0 : ∀ c ∈ (a :: rs) ++ (b :: qs), H c = none := fun c m => hn0 c (h6 c m)
      have t1 := sr.storeM dk s3 (i := i) e1 r1 n1 (fun c m => f0 c (List.mem_append_left _ m)) fun c m j hj mj => mj
      have t2 := sr.storeM dk t1 (i := j) e2 r2 n2 (fun c m => f0 c (List.mem_append_right _ m)) fun c m l hl ml => by
        unfold owSet at ml
        by_cases hi : i = l
        · rw [if_pos hi] at ml
          exact absurd rfl (n3 c ml c m)
        · rw [if_neg hi] at ml
          exact ml
      exact ⟨_, H3, I3, po _ H3 (p3.perm dk) t2.s d3⟩

/-! ### a def's body up to its last statement -/
def rdL (K : PySem.W.Frag) (mg : Str → Option Value) (H0 : Hp) (W : WX) (b : SB) (T : TS) : TS := fun E σ H => ∃ ad S g, SRS K mg H0 ad H σ S ∧ DrawOk ad H g ∧ pstS K mg H0 W ad H { E with nx := T E } (b S g)
section
variable {X : Cx} {W : WX} {st : Stmt} {rest : List Stmt} {a b : SB} {T : TS} {pos : Pos}
theorem dl_cons (h1 : SD X W st a) (h2 : PSs X rest (rdL X.K X.mg X.H_0 W b T)) : PSs X (st :: rest) (rdL X.K X.mg X.H_0 W (sSeq a b) T) := PSs.imp (pss_cons h1 h2) fun D σ H ⟨ad, S, g, sr, dk, p⟩ => by
  refine ⟨ad, S, g, sr, dk, ?_⟩
  unfold sSeq at p
  cases r : a S g with
  | nx S1 g1 => rw [r] at p; exact fun σ' H' k sr dk => ⟨ad, S1, g1, sr, dk, p.perm k⟩
  | bk S1 g1 => rw [r] at p; exact p
  | ct S1 g1 => rw [r] at p; exact p
  | ret d g1 => rw [r] at p; exact p
  | er x S1 g1 => rw [r] at p; exact p
  | bad => rw [r] at p; exact p
theorem dl_end (h : PS X st T) : PSs X [st] (rdL X.K X.mg X.H_0 W sSkip T) := PSs.imp (pss_one h) fun D σ H ⟨ad, S, g, sr, dk, p⟩ => p σ H (.refl _) sr dk
/-- return a, b -/
def tRet2 (i j : Nat) : TS := tRet (fun σ H Q => tCons (tVar i) (tCons (tVar j) tNil) σ H fun xs H1 => xs.length ≤ sizeLine ∧ QN Q xs H1)
theorem ps_ret2 {i j : Nat} {x y : Str} {px py pt : Pos} {kt : Nat} (hi : X.N[i]? = some x) (hj : X.N[j]? = some y) (vi : Vis X.env.scope x) (vj : Vis X.env.scope y) (hd1 : (x == ("__debug__" : Str)) = false := by decide) (hc1 : (x == ("__classdict__" : Str)) = false := by decide) (hd2 : (y == ("__debug__" : Str)) = false := by decide) (hc2 : (y == ("__classdict__" : Str)) = false := by decide)
    (h1 : starEach [.Name x px, .Name y py] X.env = (false, eval (.Name x px) X.env) :: starEach [.Name y py] X.env := by rfl) (h2 : starEach [.Name y py] X.env = (false, eval (.Name y py) X.env) :: starEach [] X.env := by rfl) :
    PS X (.Return (some (.Tuple [.Name x px, .Name y py] kt pt)) pos) (tRet2 i j) := ps_ret (pe_tupN (pa_cons (pe_var hi vi hd1 hc1) (pa_cons (pe_var hj vj hd2 hc2) pa_nil h2) h1))
end
def run2 (N n i j : Nat) (b : SB) : MT2 := fun ds g => if ds.length = n then match b (startD N ds) g with
  | .nx S g' => match S[i]?, S[j]? with
    | some (some (.mat A)), some (some (.mat B)) => .ok (A, B) g'
    | _, _ => .bad
  | .er x _ g' => .er x g'
  | _ => .bad else .bad
theorem okM {P : Program} {w : World} {K : PySem.W.Frag} {mg : Str → Option Value} {base : Heap} {x qual : Str} {st : Stmt} {f : Addr} {fd : FuncData} {N ps : List Str} {k i j : Nat} {b : SB} (hij : i ≠ j) (F : Fun K x qual st f fd) (S : FnScope N ps (defScope st)) (hm : mg x = some (.ref f)) (hb : L2.Binds K fd ps [])
    (body : ∀ (cdv : Value) (A : Around) (outer : List Env) (s : Shared) (H : Hp) (E : XK), Room k (A.deeper (envOfC qual (defScope st) s.heap.objs.size f cdv)) →
      PSs (cxOf (L2.CX P w) P w K mg base N qual (defScope st) f cdv A outer s H E) (defBody st) (rdL K mg H (fun cls d _ H => E cls d H) b (tRet2 i j))) : DefOkM P w K mg base x ps.length (run2 N.length ps.length i j b) (k + 1) := by
  refine ⟨f, fd, ps, rfl, F.okX S (fun vs H Q E h => h.1) (fun cdv A outer s H vs Q E hr h => ⟨_, body cdv A outer s H E hr, ?_⟩), hm, F.kp, hb⟩
  obtain ⟨hl, ad, ds, g, ra, dk, po⟩ := h
  refine ⟨ad, startD N.length ds, g, start_ok ra, dk, ?_⟩
  unfold run2 at po
  rw [if_pos (by rw [← ra.len]; exact hl)] at po
  cases r : b (startD N.length ds) g with
  | nx S1 g1 =>
    rw [r] at po
    simp only at po
    intro σ' H' _ sr dk'
    have kk := sr.keep
    obtain ⟨ow, sr⟩ := sr
    split at po
    · rename_i A B e1 e2
      obtain ⟨v1, ev1, a, rs, rfl, l1, ea, ra'⟩ := sr.lies i _ e1
      obtain ⟨v2, ev2, b', qs, rfl, l2, eb, rb'⟩ := sr.lies j _ e2
      refine ⟨_, ev1, _, ev2, by show (2 : Nat) ≤ sizeLine; exact Nat.le_trans (by decide : 2 ≤ 1000) (by rw [sizeLine_eq]; decide), fun q o hq ho => ?_⟩
      have up : ∀ c u, H' c = some u → upd H' q (.frz o (.tup [V.ref a, V.ref b'])) c = some u := fun c u e => by rw [upd_ne (ne_of_none e hq)]; exact e
      have pm : Perm H' (upd H' q (.frz o (.tup [V.ref a, V.ref b']))) := Perm.upd hq
      refine po _ _ (kk.trans (Keep.upd hq)) (dk'.upd hq) ⟨q, a, rs, b', qs, rfl, (SqN.new ho).t, up _ _ ea, ra'.to (fun r m vs e => up _ _ e) (fun _ _ z => z.perm pm), up _ _ eb, rb'.to (fun r m vs e => up _ _ e) (fun _ _ z => z.perm pm), ?_, fun c m => ?_⟩
      · rw [← l1, ← l2]
        exact List.nodup_append.mpr ⟨sr.nd i, sr.nd j, fun c m d m' z => hij (sr.dis i j c m (by rw [z]; exact m'))⟩
      · rcases List.mem_append.mp m with m | m
        · rw [← l1] at m; exact (sr.live i c m).2.1
        · rw [← l2] at m; exact (sr.live j c m).2.1
    · exact po.elim
  | ret d g1 => rw [r] at po; exact po.elim
  | er y S1 g1 => rw [r] at po; exact fun c dd σ' H' _ sr dk ex => po c dd H' sr.keep dk ex
  | bk S1 g1 => rw [r] at po; exact po.elim
  | ct S1 g1 => rw [r] at po; exact po.elim
  | bad => rw [r] at po; exact po.elim

/-! ### xs.append(ys.pop(e)) -/
def sAppPop (i l : Nat) (t : ET) : SB := fun S g => match t (view S) g with
  | .ok (.int k) g' => match S[i]?, S[l]? with
    | some (some (.own xs)), some (some (.own ys)) => match ixN ys.length k with
      | some n => match ys[n]? with
        | some y => if i ≠ l ∧ ys.length ≤ 1000 ∧ xs.length < sizeLine then .nx ((S.set l (some (.own (ys.eraseIdx n)))).set i (some (.own (xs ++ [y])))) g' else .bad
        | none => .bad
      | none => .bad
    | _, _ => .bad
  | _ => .bad
theorem ds_appPop {X : Cx} {W : WX} {B : List Nat} {e : Expr} {t : ET} {i l : Nat} {x y : Str} {px py ap cp ap2 cp2 pos : Pos} (hi : X.N[i]? = some x) (hl : X.N[l]? = some y) (vi : Vis X.env.scope x) (vl : Vis X.env.scope y) (he : PE X e (eE X.K X.mg W B t))
    (hd1 : (x == ("__debug__" : Str)) = false := by decide) (hc1 : (x == ("__classdict__" : Str)) = false := by decide) (hd2 : (y == ("__debug__" : Str)) = false := by decide) (hc2 : (y == ("__classdict__" : Str)) = false := by decide)
    (hb1 : attributeBase (.Name x px) "append" X.env (eval (.Name x px) X.env) = eval (.Name x px) X.env := by rfl) (hb2 : attributeBase (.Name y py) "pop" X.env (eval (.Name y py) X.env) = eval (.Name y py) X.env := by rfl)
    (hf1 : ((backTo cp (starEach [.Call (.Attribute (.Name y py) "pop" ap2) [e] [] cp2] X.env)).all (fun x => !x.1) && (backToKw cp (keywordEach [] X.env)).all (fun x => x.1.isSome) && decide ([e].length + ([] : List Keyword).length + (if ([] : List Keyword).isEmpty then 0 else 1) < 30)) = true := by rfl)
    (hf2 : ((backTo cp2 (starEach [e] X.env)).all (fun x => !x.1) && (backToKw cp2 (keywordEach [] X.env)).all (fun x => x.1.isSome) && decide ([e].length + ([] : List Keyword).length + (if ([] : List Keyword).isEmpty then 0 else 1) < 30)) = true := by rfl)
    (hn1 : (ap.endLine == cp.line) = true := by rfl) (hn2 : (ap2.endLine == cp2.line) = true := by rfl)
    (hs1 : starEach [.Call (.Attribute (.Name y py) "pop" ap2) [e] [] cp2] X.env = (false, eval (.Call (.Attribute (.Name y py) "pop" ap2) [e] [] cp2) X.env) :: starEach [] X.env := by rfl) (hs2 : starEach [e] X.env = (false, eval e X.env) :: starEach [] X.env := by rfl)
    (hp1 : (backTo cp (starEach [] X.env)).any (·.1) = false := by rfl) (hp2 : (backTo cp2 (starEach [] X.env)).any (·.1) = false := by rfl)
    (hsw : swapsWith (.Call (.Attribute (.Name x px) "append" ap) [.Call (.Attribute (.Name y py) "pop" ap2) [e] [] cp2] [] cp) none pos.line X.env = pure false := by rfl) :
    SD X W (.Expr (.Call (.Attribute (.Name x px) "append" ap) [.Call (.Attribute (.Name y py) "pop" ap2) [e] [] cp2] [] cp) pos) (sAppPop i l t) :=
  PS.imp (ps_expr (pe_bm PySem.F.plainAttrs_list PySem.F.slot_list_append PySem.F.type_list_append mt_append (pe_var hi vi hd1 hc1) (pa_cons (pe_bm PySem.F.plainAttrs_list PySem.F.slot_list_pop PySem.F.type_list_pop mt_popAt (pe_var hl vl hd2 hc2) (pa_cons (brwK he) pa_nil hs2) hb2 hf2 hn2 hs2 hp2) pa_nil hs1) hb1 hf1 hn1 hs1 hp1) hsw) fun D σ H ⟨ad, S, g, h⟩ => by
  have p := h.po
  unfold sAppPop at p
  cases r0 : t (view S) g with
  | bad => rw [r0] at p; exact p.elim
  | er y g' => rw [r0] at p; exact p.elim
  | ok d g' =>
    rw [r0] at p
    cases d with
    | int k =>
      simp only at p
      split at p
      · rename_i xs ys e1 e2
        split at p
        · rename_i n en
          split at p
          · rename_i yy ey
            by_cases hc : i ≠ l ∧ ys.length ≤ 1000 ∧ xs.length < sizeLine
            · rw [if_pos hc] at p
              obtain ⟨hil, hz, hx⟩ := hc
              obtain ⟨a, vs, ea, eH, rx, _⟩ := h.sr.own i xs e1
              obtain ⟨c, ws, ec, eH', ry, _⟩ := h.sr.own l ys e2
              refine ⟨.ref a, ea, .inl ⟨rfl, _, .of eH⟩, .ref c, ec, .inl ⟨rfl, _, .of eH'⟩, ad, S, g, _, g', h.sr, h.dk, r0, rfl, fun v H1 k1 d1 rv => ?_⟩
              cases rv
              have sr1 := h.sr.keeps k1 h.dk
              obtain ⟨a', vs1, ea', eH1, rx1, _, na⟩ := sr1.own i xs e1
              rw [ea] at ea'; cases ea'
              obtain ⟨c', ws1, ec', eH2, ry1, _, nc⟩ := sr1.own l ys e2
              rw [ec] at ec'; cases ec'
              obtain ⟨w, ew, rw'⟩ := ry1.get ey
              obtain ⟨q1, q2, q3, q4⟩ := ixN_seq en
              have b1 : -(2 ^ 63 : Int) ≤ k := by omega
              have b2 : k < (2 ^ 63 : Int) := by omega
              refine ⟨c, ws1, k, n, w, rfl, rfl, eH2, b1, b2, by rw [ry1.len]; exact q1, ew, ?_⟩
              have sr2 := sr1.mut e2 ec eH2 (ry1.erase n)
              have d2 := d1.mut (ws := ws1.eraseIdx n) eH2 nc
              have pm := perm_lst (ws := ws1.eraseIdx n) eH2
              have e1' : (S.set l (some (SV.own (ys.eraseIdx n))))[i]? = some (some (.own xs)) := by rw [List.getElem?_set_ne (Ne.symm hil)]; exact e1
              obtain ⟨a'', vs2, ea'', eH3, rx2, _, na2⟩ := sr2.own i xs e1'
              rw [ea] at ea''; cases ea''
              refine ⟨a, vs2, w, rfl, rfl, eH3, by rw [rx2.len]; exact hx, ?_⟩
              exact p σ _ (((k1.perm h.dk).trans pm).trans (perm_lst eH3)) (sr2.mut e1' ea eH3 (rx2.app (.cons (rw'.perm pm) .nil))) (d2.mut eH3 na2)
            · rw [if_neg hc] at p; exact p.elim
          · exact p.elim
        · exact p.elim
      · exact p.elim
    | _ => exact p.elim

/-! list(range(n)); is, is not with bools; defs by the top's facts; how things come out -/
def xLstRg (t : ET) : XT := fun S g => (t S g).bind fun d g1 => match d with
  | .int n => if 0 ≤ n ∧ n ≤ 1000 then .ok (.f (rngD n.toNat)) g1 else .bad
  | _ => .bad
section
variable {X : Cx} {W : WX} {B : List Nat} {a : Expr} {t : ET} {p p2 pos pos2 : Pos}
theorem dx_lstRg (hc : X.calm = true) (hgt : Gl X "list") (hmt : X.mg "list" = none) (hgr : Gl X "range") (hmr : X.mg "range" = none) (ha : PE X a (eE X.K X.mg W B t))
    (na : starEach [a] X.env = (false, eval a X.env) :: starEach [] X.env := by rfl) (ne : starEach [.Call (.Name "range" p2) [a] [] pos2] X.env = (false, eval (.Call (.Name "range" p2) [a] [] pos2) X.env) :: starEach [] X.env := by rfl) :
    PE X (.Call (.Name "list" p) [.Call (.Name "range" p2) [a] [] pos2] [] pos) (eX X.K X.mg W B (xLstRg t)) :=
  PE.imp (pe_listRg hc hgt hmt (prg_1 hgr hmr ha na) ne) fun σ H Q ⟨a0, S, g, h⟩ => by
    have h : At (RpX X.K X.mg) X.K X.mg W (B ++ []) (xLstRg t) a0 S g σ H Q := by rw [List.append_nil]; exact h
    refine .mk ((h.bind (Rp1 := RpE X.K X.mg) bkX (k := fun d _ g1 => match d with
      | .int n => if 0 ≤ n ∧ n ≤ 1000 then .ok (.f (rngD n.toNat)) g1 else .bad
      | _ => .bad)).imp fun x H1 ⟨d, g1, k1, d1, r1, h2⟩ => ?_)
    have p := h2.po
    cases r1 with
    | int n =>
      by_cases hn : 0 ≤ n ∧ n ≤ 1000
      · simp only [if_pos hn] at p
        refine ⟨n, rfl, .of_le (by omega) (by omega) (by omega) hn.1, fun q hq => p _ _ (Keep.upd hq) (d1.upd hq) ⟨q, _, rfl, hq, upd_same, ?_⟩⟩
        have e : rgV 0 n = (List.range n.toNat).map fun i => V.int (0 + (i : Nat)) := by unfold rgV; rw [Int.sub_zero]
        rw [e]
        exact rep_rg _
      · simp only [if_neg hn] at p
        exact p.elim
    | _ => exact p.elim
theorem un_lstRg {t : ET} (h : UnT t) : UnT (xLstRg t) := fun S => (h S).bind fun d => by
  cases d with
  | int n => exact .ite (.ok _) .bad
  | _ => exact .bad
/-- no float, bytes, type -/
def plV : V → Bool
  | .non => true | .bl _ => true | .int _ => true | .str _ => true | .ref _ => true | _ => false
abbrev rIsBX : R2 := fun x y H Q => plV x = true ∧ ∃ c : Bool, y = .bl c ∧ Q (.bl (decide (x = .bl c))) H
abbrev rNotBX : R2 := fun x y H Q => plV x = true ∧ ∃ c : Bool, y = .bl c ∧ Q (.bl (!decide (x = .bl c))) H
theorem op_isBX : OpR X (compareOp .Is) rIsBX := by
  intro pins s σ H x y v u Q I rx ry h
  obtain ⟨hp, c, rfl, q⟩ := h
  cases (show u = Value.bool c from ry)
  by_cases e : x = .bl c
  · subst e
    cases (show v = Value.bool c from rx)
    exact wpAny_is_self rfl ⟨.bl true, H, I, rfl, by simpa using q⟩
  · have : wpAny (model X.prog X.w) X.A (compareOp .Is v (.bool c)) (EP X pins σ Q) X.xe s := by
      cases x with
      | bl b =>
        cases (show v = Value.bool b from rx)
        exact wpAny_is_other rfl (fun z => e (by cases z; rfl)) ⟨.bl false, H, I, rfl, by simpa [e] using q⟩
      | non => cases rx; exact wpAny_is_other rfl (fun z => by cases z) ⟨.bl false, H, I, rfl, by simpa [e] using q⟩
      | int i => obtain ⟨t, rfl⟩ := rx; exact wpAny_is_other rfl (fun z => by cases z) ⟨.bl false, H, I, rfl, by simpa [e] using q⟩
      | str i => obtain ⟨t, rfl⟩ := rx; exact wpAny_is_other rfl (fun z => by cases z) ⟨.bl false, H, I, rfl, by simpa [e] using q⟩
      | ref i => cases rx; exact wpAny_is_other rfl (fun z => by cases z) ⟨.bl false, H, I, rfl, by simpa [e] using q⟩
      | _ => cases hp
    exact this
theorem op_notBX : OpR X (compareOp .IsNot) rNotBX := by
  intro pins s σ H x y v u Q I rx ry h
  obtain ⟨hp, c, rfl, q⟩ := h
  cases (show u = Value.bool c from ry)
  by_cases e : x = .bl c
  · subst e
    cases (show v = Value.bool c from rx)
    exact wpAny_isNot_self rfl ⟨.bl false, H, I, rfl, by simpa using q⟩
  · have : wpAny (model X.prog X.w) X.A (compareOp .IsNot v (.bool c)) (EP X pins σ Q) X.xe s := by
      cases x with
      | bl b =>
        cases (show v = Value.bool b from rx)
        exact wpAny_isNot_other rfl (fun z => e (by cases z; rfl)) ⟨.bl true, H, I, rfl, by simpa [e] using q⟩
      | non => cases rx; exact wpAny_isNot_other rfl (fun z => by cases z) ⟨.bl true, H, I, rfl, by simpa [e] using q⟩
      | int i => obtain ⟨t, rfl⟩ := rx; exact wpAny_isNot_other rfl (fun z => by cases z) ⟨.bl true, H, I, rfl, by simpa [e] using q⟩
      | str i => obtain ⟨t, rfl⟩ := rx; exact wpAny_isNot_other rfl (fun z => by cases z) ⟨.bl true, H, I, rfl, by simpa [e] using q⟩
      | ref i => cases rx; exact wpAny_isNot_other rfl (fun z => by cases z) ⟨.bl true, H, I, rfl, by simpa [e] using q⟩
      | _ => cases hp
    exact this
end
section
variable {K : PySem.W.Frag} {mg : Str → Option Value}
def isBD (a b : D) : Option D := match b with
  | .bl c => some (.bl (match a with | .bl d => d == c | _ => false))
  | _ => none
def notBD (a b : D) : Option D := match b with
  | .bl c => some (.bl (match a with | .bl d => !(d == c) | _ => true))
  | _ => none
theorem ad_isB : AdG (RpE K mg) K mg rIsBX isBD := by
  intro ad H g x y a b c dk rx ry e Q q
  unfold isBD at e
  split at e
  · cases ry
    cases e
    rename_i c
    refine ⟨by cases rx <;> rfl, c, rfl, q _ _ (.refl _ _) dk ?_⟩
    cases rx with
    | bl d =>
      have : decide (V.bl d = V.bl c) = (d == c) := by cases d <;> cases c <;> decide
      rw [this]; exact .bl _
    | _ => exact .bl false
  · cases e
theorem ad_notB : AdG (RpE K mg) K mg rNotBX notBD := by
  intro ad H g x y a b c dk rx ry e Q q
  unfold notBD at e
  split at e
  · cases ry
    cases e
    rename_i c
    refine ⟨by cases rx <;> rfl, c, rfl, q _ _ (.refl _ _) dk ?_⟩
    cases rx with
    | bl d =>
      have : decide (V.bl d = V.bl c) = (d == c) := by cases d <;> cases c <;> decide
      rw [this]; exact .bl _
    | _ => exact .bl true
  · cases e
end
section
variable {P : Program} {w : World} {K : PySem.W.Frag} {mg : Str → Option Value} {base : Heap}
theorem okFM {x : Str} {st : Stmt} {N ps : List Str} {k i j : Nat} {b : SB} (hij : i ≠ j) (F : FnF K mg x st ps) (S : FnScope N ps (defScope st))
    (body : ∀ (f : Addr) (cdv : Value) (A : Around) (outer : List Env) (s : Shared) (H : Hp) (E : XK), Room k (A.deeper (envOfC x (defScope st) s.heap.objs.size f cdv)) →
      PSs (cxOf (L2.CX P w) P w K mg base N x (defScope st) f cdv A outer s H E) (defBody st) (rdL K mg H (fun cls d _ H => E cls d H) b (tRet2 i j))) : DefOkM P w K mg base x ps.length (run2 N.length ps.length i j b) (k + 1) := by
  obtain ⟨f, fd, Fn, hm, hb⟩ := F.ex
  exact okM hij Fn S hm hb (body f)
end

/-! enumerate of a list or a tuple -/
theorem meets_enumerate_new1 {v : Value} {o : Obj} {H : Heap → Prop} (B : Begins v o H) :
    Meets (Builtin.«enumerate.__new__» ⟨[.type "enumerate", v], []⟩) (fun _ R s => H s.heap ∧
      R (.ok (.ret (.ref (s.heap.push o).objs.size))) { s with heap := (s.heap.push o).push { cls := .type "enumerate", data := .fields #[.none, .bool false, .ref s.heap.objs.size, rawInt 0, .none, .none] } }) :=
  .of_wp fun prog w A R s h => by
    obtain ⟨hp, g, d, tk, os⟩ := s; obtain ⟨h1, h⟩ := h
    have hsub := sub_enumerate
    have q1 : ∀ {A' : Around} {E : Value → Shared → Prop} {Q : Value → Shared → Prop}, Q (.ref hp.objs.size) ⟨hp.push o, g, d, tk, os⟩ → wpAny (model prog w) A' (pyIter v) Q E ⟨hp, g, d, tk, os⟩ :=
      fun q => B.iter prog w _ _ ⟨hp, g, d, tk, os⟩ _ h1 q
    wp_walk using q1
    refine wpAny_stack_any fun st => wpAny_pure ?_
    split
    · rename_i c _ _ _ _ _
      cases (c == Value.type "enumerate")
      · wp_walk using q1
        exact ⟨_, rfl, h⟩
      · wp_walk using q1
        exact ⟨_, rfl, h⟩
    · wp_walk using q1
      exact ⟨_, rfl, h⟩
theorem enum_begins1 {prog : Program} {w : World} {A : Around} {E : Value → Shared → Prop} {s : Shared} {v : Value} {o : Obj} {H : Heap → Prop} {Q : Value → Shared → Prop} (B : Begins v o H) (h1 : H s.heap)
    (h : ∀ h', IsEnum h' (s.heap.objs.size + 1) s.heap.objs.size 0 .none → h'.get? s.heap.objs.size = some o → h'.objs.size = s.heap.objs.size + 2 →
      (∀ b o, s.heap.get? b = some o → h'.get? b = some o) → Q (.ref (s.heap.objs.size + 1)) { s with heap := h' }) :
    wpAny (model prog w) A (call (.type "enumerate") [v]) Q E s := by
  refine callType_new F.called_enumerate (by decide) (F.typeCall_enumerate_1 _) (F.newCall_enumerate_1 _) (fun obj => F.args_object_init_2 obj _) F.entry_enumerate_new
    (meets_enumerate_new1 B) ⟨h1, ?_⟩
  have hz : (s.heap.push o).objs.size = s.heap.objs.size + 1 := Heap.size_push ..
  show _ ∧ _
  rw [hz]
  have he : IsEnum ((s.heap.push o).push { cls := .type "enumerate", data := .fields #[.none, .bool false, .ref s.heap.objs.size, rawInt 0, .none, .none] }) (s.heap.objs.size + 1) s.heap.objs.size 0 .none := by
    have := Heap.get?_push_size (s.heap.push o) (o := { cls := .type "enumerate", data := .fields #[.none, .bool false, .ref s.heap.objs.size, rawInt 0, .none, .none] }) rfl
    rw [hz] at this; exact this
  refine ⟨⟨_, he, rfl⟩, h _ he (Heap.get?_push_of_some _ (Heap.get?_push_size _ B.free)) (by rw [Heap.size_push, hz]) fun b o x => Heap.get?_push_of_some _ (Heap.get?_push_of_some _ x)⟩
def YEn (xa : Nat → Option V) : Nat → Hp → V → Hp → Prop := fun i H v H' => ∃ T x, v = .ref T ∧ H T = none ∧ (∃ o, o.dict = none ∧ H' = upd H T (.frz o (.tup [.int (i : Nat), x]))) ∧ xa i = some x
/-- the items as they stand at each turn, each with its place, in a new pair -/
def ItEn (b : Bool) (K : PySem.W.Frag) (a : Addr) : It :=
  ⟨fun i H => ∃ xs : List V, seqB b K H a xs ∧ i < xs.length,
   fun i H v H' => ∃ T x, v = .ref T ∧ H T = none ∧ (∃ o, o.dict = none ∧ H' = upd H T (.frz o (.tup [.int (i : Nat), x]))) ∧ ∀ xs, seqB b K H a xs → xs[i]? = some x,
   fun i H => ∃ xs : List V, seqB b K H a xs ∧ i = xs.length⟩
theorem turn_en {P : Program} {w : World} {K : PySem.W.Frag} {elts : List Expr} {kk : Nat} {tpos : Pos} {a e it : Addr} {b : Bool} (n1 : e ≠ it) (n2 : a ≠ e) (n3 : a ≠ it) :
    Turn P w K (.Tuple elts kk tpos) (ItEn b K a) [e, it] e (fun i h => (∃ old, IsEnum h e it ((i : Nat) : Int) old) ∧ itB b h it a i) := by
  refine ⟨by simp, fun i h st c hc => ?_, fun i h h' st k => ?_, ?_, ?_, fun A i s Q E st h => let ⟨⟨_, he⟩, _⟩ := st; wpAny_pyIter_enum he h⟩
  · obtain ⟨⟨old, he⟩, h1⟩ := st
    simp only [List.mem_cons, List.not_mem_nil, or_false] at hc
    rcases hc with rfl | rfl
    · exact ⟨_, he, fun v q => by cases q⟩
    · exact itB_get h1
  · obtain ⟨⟨old, he⟩, h1⟩ := st
    exact ⟨⟨old, k e (by simp) _ he⟩, itB_at h1 fun o q => k _ (by simp) o q⟩
  · intro X hP hw hK hc i pins s σ H E I hf st ⟨xs, hqx, lx⟩
    subst hP hw hK
    obtain ⟨⟨old, he⟩, h1⟩ := st
    obtain ⟨its, rv, p1, la⟩ := seqB_at I hqx
    have D1 := draws_b (prog := X.prog) (w := X.w) (A := X.A.in1) (I.ok.hd hc) b it a n3 its.toArray
    refine wpAny_pyNext_enum_itemD D1 he ⟨h1, p1⟩ (by simpa [← rv.length] using lx) n1 (by simp [n1, Ne.symm n2]) fun u h' tk e1 ho st1 hT hsz hk => ?_
    refine ⟨_, rfl, wpAny_letOwnedTupleGo_enum (s := { s with heap := h', toks := tk + 1 }) ho fun h'' he' sb => ?_⟩
    have hel : e < s.heap.objs.size := Heap.lt_size he
    obtain ⟨x, ex, rx⟩ : ∃ x, xs[i]? = some x ∧ L2.RelV x u := by
      obtain ⟨u', hu, ru⟩ := rv.get (List.getElem?_eq_getElem lx)
      have : its[i]? = some u := by simpa using e1
      rw [hu] at this; cases this
      exact ⟨_, List.getElem?_eq_getElem lx, ru⟩
    have eT := (sb.2 _ (Nat.ne_of_gt hel)).trans hT
    have I1 := I.turnedNew (t' := tk + 1) (ch := [e, it]) (ob := .frz _ (.tup [.int (i : Nat), x])) (fun c o nc q => (sb.2 c fun q' => nc (by simp [q'])).trans (hk c o (fun q' => nc (by simp [q'])) (fun q' => nc (by simp [q'])) q)) hf (Nat.le_refl s.heap.objs.size)
      ⟨eT, by show 2 ≤ sizeLine; decide, [.int i tk, u], .cons ⟨_, rfl⟩ (.cons rx .nil), ⟨_, eT, rfl, _, rfl⟩⟩
    refine ⟨.ref s.heap.objs.size, _, I1, rfl, ⟨_, x, rfl, I.hok.fresh (Nat.le_refl _), ⟨_, rfl, rfl⟩, fun l hl => by rw [seqB_inj I hl hqx]; exact ex⟩, ⟨⟨u, ?_⟩, ?_⟩, fun c hcm => ?_⟩
    · have e1 : ((i + 1 : Nat) : Int) = (i : Int) + 1 := by omega
      rw [e1]; exact he'
    · exact itB_at st1.1 fun o q => (sb.2 _ (Ne.symm n1)).trans q
    · have lt : c < s.heap.objs.size := by
        simp only [List.mem_cons, List.not_mem_nil, or_false] at hcm
        rcases hcm with rfl | rfl
        · exact hel
        · obtain ⟨_, e, _⟩ := itB_get h1; exact Heap.lt_size e
      rw [upd_ne (Nat.ne_of_lt lt)]
      exact (hf c hcm).1
  · intro X hP hw hK hc i pins s σ H E I hf st ⟨xs, hqx, hend⟩
    subst hP hw hK
    obtain ⟨⟨old, he⟩, h1⟩ := st
    obtain ⟨its, rv, p1, la⟩ := seqB_at I hqx
    have D1 := draws_b (prog := X.prog) (w := X.w) (A := X.A.in1) (I.ok.hd hc) b it a n3 its.toArray
    have hi : i = its.toArray.size := by rw [hend, rv.length]; simp
    refine wpAny_pyNext_enum_endD D1 he ⟨by rw [← hi]; exact h1, p1⟩ fun h' hx => ⟨rfl, ?_⟩
    exact I.turnedL (t' := s.toks) (ch := [e, it]) (fun c o nc q => hx c o (fun q' => nc (by simp [q'])) q) hf
def iEnG (K : PySem.W.Frag) (ta : TA) : TI := fun σ H R => ta σ H fun vs H1 => ∃ a b xs, vs = [V.ref a] ∧ seqB b K H1 a xs ∧ (xs.length ≤ sizeLine → R (ItEn b K a) H1)
theorem pi_enG {X : Cx} {e : Expr} {ta : TA} {p pos tpos : Pos} {elts : List Expr} {kk : Nat} (hg : Gl X "enumerate") (hm : X.mg "enumerate" = none) (ha : PA X [e] ta) (hs : starEach [e] X.env = [(false, eval e X.env)] := by rfl) :
    PI X (.Tuple elts kk tpos) (.Call (.Name "enumerate" p) [e] [] pos) (iEnG X.K ta) := by
  refine ⟨fun pins s σ H R I h => ?_⟩
  refine Call_ (ld_blt I hg hm boot_enumerate (PyProof.Rows.callWith_type1 (thn (ha.run pos pins s σ H _ I h) fun us s1 ⟨vs, H1, I1, r1, a, b, xs, ex, hq, q⟩ => ?_) hs rfl))
  subst ex
  cases r1 with
  | cons r rr =>
    cases rr
    cases r
    obtain ⟨its, rv, p1, la⟩ := seqB_at I1 hq
    refine enum_begins1 (begins_b b a its.toArray) p1 fun h' he hit hsz hk => wpAny_pyIter_enum he ?_
    have I2 : Inv X pins σ H1 { s1 with heap := h' } := I1.kept (t' := s1.toks) hk
    refine ⟨s1.heap.objs.size + 1, [s1.heap.objs.size + 1, s1.heap.objs.size], _, _, H1, rfl, I2, turn_en (Nat.succ_ne_self _) (Nat.ne_of_lt (Nat.lt_succ_of_lt la)) (Nat.ne_of_lt la), ⟨⟨.none, he⟩, itB_new hit⟩, fun c hb => ?_, q (seqB_size I1 hq)⟩
    have e' : c = s1.heap.objs.size + 1 ∨ c = s1.heap.objs.size := by simpa using hb
    have hle : s1.heap.objs.size ≤ c := by
      rcases e' with z | z
      · rw [z]; exact Nat.le_add_right _ _
      · rw [z]; exact Nat.le_refl _
    exact I1.fpOk hle (I1.hok.fresh hle)
theorem walk_en {K : PySem.W.Frag} {a : Addr} {b : Bool} {xs : List V} : Walk (ItEn b K a) xs.length (fun H => seqB b K H a xs) (YEn (fun i => xs[i]?)) :=
  ⟨fun i H hi q => ⟨xs, q, hi⟩, fun H q => ⟨xs, q, rfl⟩, fun i H v H' hi q y => by
    obtain ⟨T, x, h1, h2, h3, h4⟩ := y
    exact ⟨T, x, h1, h2, h3, h4 xs q⟩⟩
/-- each with its place -/
def enumD : Nat → List D → List D
  | _, [] => []
  | k, x :: xs => .tup [.int (k : Nat), x] :: enumD (k + 1) xs
theorem enumD_len : ∀ (k : Nat) (xs : List D), (enumD k xs).length = xs.length
  | _, [] => rfl
  | k, _ :: xs => by simp [enumD, enumD_len (k + 1) xs]
theorem enumD_get : ∀ {k : Nat} {xs : List D} {i : Nat} {x : D}, xs[i]? = some x → (enumD k xs)[i]? = some (.tup [.int ((k + i : Nat) : Nat), x])
  | _, [], _, _, h => by simp at h
  | k, x :: xs, 0, _, h => by simp at h; subst h; rfl
  | k, x :: xs, i + 1, _, h => by
    simp only [enumD, List.getElem?_cons_succ]
    rw [enumD_get (k := k + 1) (by simpa using h), show k + 1 + i = k + (i + 1) by omega]
def iEnumD (t : ET) : DSt → G → R (List D) := fun S g => (t S g).bind fun d g1 => lift ((itemsD d).map (enumD 0)) g1
theorem di_enum {X : Cx} {W : WX} {B : List Nat} {e : Expr} {t : ET} {p pos tpos : Pos} {elts : List Expr} {kk : Nat} (hg : Gl X "enumerate") (hm : X.mg "enumerate" = none) (he : PE X e (eE X.K X.mg W B t)) (hs : starEach [e] X.env = (false, eval e X.env) :: starEach [] X.env := by rfl) (hs2 : starEach [e] X.env = [(false, eval e X.env)] := by rfl) :
    PI X (.Tuple elts kk tpos) (.Call (.Name "enumerate" p) [e] [] pos) (rdI X.K X.mg W (B ++ []) (iEnumD t)) := PI.imp (pi_enG hg hm (da_cons he da_nil hs) hs2) fun σ H Q ⟨ad, S, g, sr, dk, po⟩ => by
  refine ⟨ad, S, g, sr, dk, ?_⟩
  unfold iEnumD at po
  unfold aCons aNil
  cases r : t S g with
  | bad => rw [r] at po; exact po
  | er x g' => rw [r] at po; exact po
  | ok d g' =>
    rw [r] at po
    show pst (RpA X.K X.mg) X.K X.mg ad H _ _ (.ok [d] g')
    intro vs H' k d' rv
    obtain ⟨x, rfl, rx⟩ := rv.one
    cases ei : itemsD d with
    | none => simp only [R.bind, ei, Option.map_none, lift_none] at po; exact po.elim
    | some xs =>
      simp only [R.bind, ei, Option.map_some, lift_some] at po
      obtain ⟨a, b, us, rfl, q1, ra, p1⟩ := itemsD_seq rx ei
      refine ⟨a, b, us, rfl, q1, fun hz => po _ H' k d' ⟨by rw [enumD_len, ← ra.len]; exact hz, fun H2 => seqB b X.K H2 a us, YEn (fun i => us[i]?), by rw [enumD_len, ← ra.len]; exact walk_en, p1, fun i H2 x H3 hi p yy => ?_⟩⟩
      obtain ⟨T, x1, rfl, hT, ⟨o, ho, rfl⟩, g1⟩ := yy
      obtain ⟨d1, f1, r1⟩ := ra.getV g1
      refine ⟨.inr ⟨T, _, hT, rfl⟩, _, by rw [enumD_get f1, Nat.zero_add], .tup (.new ho) (.cons (.int _) (.cons ((r1.perm p).perm (Perm.upd hT)) .nil))⟩
theorem un_enum {t : ET} (h : UnT t) : UnT (iEnumD t) := fun S => (h S).bind fun d => by
  cases e : itemsD d with
  | none => exact .bad
  | some xs => exact .ok _
theorem enum_ok {t : ET} {S : DSt} {g g1 : G} {d : D} {xs : List D} (h : t S g = .ok d g1) (h2 : itemsD d = some xs) : iEnumD t S g = .ok (enumD 0 xs) g1 := by
  unfold iEnumD; rw [h, R.bind_ok, h2]; rfl

/-! x[i] = e, x a list of one's own -/
/-- an expression within a statement that leaves the own lists as they are; what it gives is laid by -/
def rdBF (K : PySem.W.Frag) (mg : Str → Option Value) (H0 : Hp) (t : XT) : TE := fun σ H Q => ∃ ad S g f g' ow, SRo ow K mg H0 ad H σ S ∧ DrawOk ad H g ∧ t (view S) g = .ok f g' ∧ f.nol = true ∧ ∀ v H', Perm H H' → SRo ow K mg H0 ad H' σ S → DrawOk ad H' g' → Rep K mg ad H' v f.d → Q v H'
theorem brwF {X : Cx} {W : WX} {B : List Nat} {e : Expr} {t : XT} (h : PE X e (eX X.K X.mg W B t)) : PE X e (rdBF X.K X.mg X.H_0 t) := by
  refine ⟨fun pins s σ H Q I hq => ?_⟩
  obtain ⟨ad, S, g, f, g', ow, sr, dk, ef, hn, po⟩ := hq
  obtain ⟨H1, I1, s1, sr1, dk1, p1, hn0, back⟩ := lend B I sr dk
  refine thn (h.run pins s σ H1 (fun v H2 => Keep ad H1 H2 ∧ DrawOk ad H2 g' ∧ FRep X.K X.mg ad H1 H2 v f) I1 ⟨ad, view S, g, sr1, dk1, by rw [ef]; exact fun v H2 k d q => ⟨k, d, q⟩⟩) fun u s2 ⟨v, H2, I2, r, k2, d2, fr⟩ => ?_
  obtain ⟨H3, I3, s3, d3, p3, gT3, nn, same⟩ := back H2 s2 g' σ I2 k2 d2
  have fr3 := fr.back hn gT3 same hn0
  cases f with
  | v d => exact ⟨v, H3, I3, r, po v H3 (p3.perm dk) s3 d3 fr3⟩
  | f ds =>
    obtain ⟨a, vs, rfl, na, ea, ra⟩ := fr3
    have ne : a ≠ ad.ad := dk.ne na
    obtain ⟨ob, eo⟩ : ∃ ob, s2.heap.get? a = some ob := objOk_get (I3.hok a _ ea)
    have ht : ∀ b xs, SqN X.K H3 b xs → SqN X.K (fzSet (fun c => c = a) s2.heap H3) b xs := fun b xs q => q.to fun c o u q => fz_other q (by intro xs z; cases z)
    have hl : ∀ b xs, SqP X.K H3 b xs → SqP X.K (fzSet (fun c => c = a) s2.heap H3) b xs := fun b xs q => by
      obtain ⟨o, q⟩ := q
      exact ⟨o, fz_other q (by intro xs z; cases z)⟩
    have no : ∀ b, b ≠ a → fzSet (fun c => c = a) s2.heap H3 b = H3 b := fun b n => fz_no (S := fun c => c = a) n
    have nw : ∀ i, a ∉ ow i := fun i m => by
      obtain ⟨⟨ws, e⟩, _⟩ := sr.live i a m
      rw [na] at e; cases e
    have s4 : SRo ow X.K X.mg X.H_0 ad (fzSet (fun c => c = a) s2.heap H3) σ S := by
      refine ⟨fun b o e n => ?_, fun i x e => ?_, fun i b m => ?_, s3.dis, s3.nd, s3.len⟩
      · rw [no b (fun z => by rw [z, sr.keep.free ne na] at e; cases e)]
        exact s3.keep b o e n
      · obtain ⟨w, e1, r1⟩ := s3.lies i x e
        exact ⟨w, e1, r1.to (fun b m us q => by rw [no b (fun z => nw i (by rw [← z]; exact m))]; exact q) (fun _ _ q => Rep.map ht hl (fun _ _ _ q => q.to fun c o u q => fz_other q (by intro xs z; cases z)) _ _ q) fun _ _ q => RepAll.map ht hl (fun _ _ _ q => q.to fun c o u q => fz_other q (by intro xs z; cases z)) _ _ q⟩
      · obtain ⟨⟨us, e⟩, l2, l3⟩ := s3.live i b m
        exact ⟨⟨us, by rw [no b (fun z => nw i (by rw [← z]; exact m))]; exact e⟩, l2, l3⟩
    refine ⟨.ref a, fzSet (fun c => c = a) s2.heap H3, freeze I3 _, r, po _ _ ((p3.perm dk).trans ⟨fun b xs e => fz_other e (by intro xs z; cases z), fun b o u e => fz_other e (by intro xs z; cases z)⟩) s4 (d3.at_ (fun xs e => by rw [no _ (Ne.symm ne)]; exact e) fun o u e => fz_other e (by intro xs z; cases z)) ?_⟩
    exact .lst ⟨ob, fz_yes (S := fun c => c = a) rfl ea eo⟩ (RepAll.map ht hl (fun _ _ _ q => q.to fun c o u q => fz_other q (by intro xs z; cases z)) ds vs ra)
def sIx (x : Nat) (te : XT) (ti : ET) : SB := fun S g => match te (view S) g with
  | .ok f g1 => if f.nol then match ti (view S) g1 with
    | .ok (.int i) g2 => match S[x]? with
      | some (some (.own ds)) => match ixN ds.length i with
        | some k => .nx (S.set x (some (.own (ds.set k f.d)))) g2
        | none => .bad
      | _ => .bad
    | _ => .bad
    else .bad
  | _ => .bad
theorem ds_ix {X : Cx} {W : WX} {Be Bi : List Nat} {x : Nat} {y : Str} {e ei : Expr} {te : XT} {ti : ET} {py p1 pos : Pos} (hN : X.N[x]? = some y) (hv : Vis X.env.scope y) (he : PE X e (eX X.K X.mg W Be te)) (hi : PE X ei (eE X.K X.mg W0 Bi ti)) (hd : (y == ("__debug__" : Str)) = false := by decide) (hcd : (y == ("__classdict__" : Str)) = false := by decide)
    (ha : ∀ v, assign (.Subscript (.Name y py) ei p1) X.env v = (do
      let ov ← holding [v] (eval (.Name y py) X.env)
      let iv ← holding [v, ov] (eval ei X.env)
      standAt p1
      holding [v, ov, iv] (setItem ov iv v)
      release [v, ov, iv] []) := by intro _; rfl)
    (hs : swapsWithSole [.Subscript (.Name y py) ei p1] e pos.line X.env = pure false := by rfl) (hw : swappedStores [.Subscript (.Name y py) ei p1] e X.env = pure none := by rfl)
    (h1 : (assignEach [.Subscript (.Name y py) ei p1] X.env).map (·.2) = [assign (.Subscript (.Name y py) ei p1) X.env] := by rfl) : SD X W (.Assign [.Subscript (.Name y py) ei p1] e pos) (sIx x te ti) :=
  PS.imp (ps_asg (brwF he) (pg_sub (pe_var hN hv hd hcd) (brwK hi) set_list ha) hs hw h1) fun D σ H ⟨ad, S, g, h⟩ => by
  have p := h.po
  obtain ⟨ow, sr⟩ := h.sr
  unfold sIx at p
  cases r : te (view S) g with
  | bad => rw [r] at p; exact p.elim
  | er x g' => rw [r] at p; exact p.elim
  | ok f g1 =>
    rw [r] at p
    simp only at p
    by_cases hn : f.nol = true
    · rw [if_pos hn] at p
      refine ⟨ad, S, g, f, g1, ow, sr, h.dk, r, hn, fun v H1 k1 s1 d1 rv => ?_⟩
      cases r2 : ti (view S) g1 with
      | bad => rw [r2] at p; exact p.elim
      | er x g' => rw [r2] at p; exact p.elim
      | ok di g2 =>
        rw [r2] at p
        cases di with
        | int i =>
          simp only at p
          split at p
          · rename_i ds e1
            split at p
            · rename_i k ek
              obtain ⟨a, vs, ea, eH, ra, _, na, _⟩ := s1.own x ds e1
              refine ⟨_, ea, ad, S, g1, _, _, s1.s, d1, r2, rfl, fun vi H2 k2 d2 ri => ?_⟩
              cases ri
              have s2 := s1.keeps k2 d1
              obtain ⟨a', ws, ea', eH2, rw', _, na', _⟩ := s2.own x ds e1
              rw [ea] at ea'; cases ea'
              refine ⟨a, ws, i, k, rfl, rfl, eH2, by rw [rw'.len]; exact ek, ?_⟩
              have pm := perm_lst (ws := ws.set k v) eH2
              exact p σ _ ((k1.trans (k2.perm d1)).trans pm) (s2.s.mut e1 ea eH2 (rw'.set (rv.keep k2 d1) k)) (d2.mut eH2 na')
            · exact p.elim
          · exact p.elim
        | _ => exact p.elim
    · rw [if_neg hn] at p; exact p.elim
theorem sIx_ok {x : Nat} {te : XT} {ti : ET} {S : SS} {g g1 g2 : G} {f : Fv} {i : Nat} {ds : List D} (h : te (view S) g = .ok f g1) (hn : f.nol = true) (h1 : ti (view S) g1 = .ok (.int (i : Nat)) g2) (hs : S[x]? = some (some (.own ds))) (hi : i < ds.length) : sIx x te ti S g = .nx (S.set x (some (.own (ds.set i f.d)))) g2 := by
  have e : ixN ds.length ((i : Nat) : Int) = some i := by
    unfold ixN
    rw [if_pos (by omega), if_pos (by omega)]
    simp
  unfold sIx
  rw [h]
  dsimp only
  rw [if_pos hn, h1]
  dsimp only
  rw [hs]
  dsimp only
  rw [e]
theorem us_ix {x : Nat} {te : XT} {ti : ET} (h1 : UnT te) (h2 : UnT ti) : UnS (sIx x te ti) := fun S => by
  unfold sIx
  rcases h1 (view S) with ⟨a, h⟩ | ⟨y, h⟩ | h
  · simp only [h]
    by_cases hn : a.nol = true
    · simp only [if_pos hn]
      rcases h2 (view S) with ⟨d, h'⟩ | ⟨y, h'⟩ | h'
      · simp only [h']
        cases d with
        | int i =>
          simp only
          split
          · rename_i ds _
            cases ixN ds.length i with
            | none => exact .bad
            | some k => exact .nx _
          · exact .bad
        | _ => exact .bad
      · simp only [h']; exact .bad
      · simp only [h']; exact .bad
    · simp only [if_neg hn]; exact .bad
  · simp only [h]; exact .bad
  · simp only [h]; exact .bad

/-! sums of lists and tuples of whole numbers -/
section
variable {prog : Program} {w : World} {A : Around} {E : Value → Shared → Prop} {s : Shared} {l : Addr} {its : List Value} {ns : List Int} {Q : Value → Shared → Prop}
theorem sumT_raw (hh : A.handled = none) (hl : s.heap.IsTuple l its.toArray) (hi : IntsAre its ns)
    (h : ∀ h' tk t', (∀ b o, s.heap.get? b = some o → h'.get? b = some o) → Q (.int ns.sum t') { s with heap := h', toks := tk }) : wpAny (model prog w) A (call (.builtin "sum") [.ref l]) Q E s := by
  obtain ⟨xs, e⟩ := hi.allInts.items
  have hn : numsOf (intItems xs).toList = ns := by rw [← e]; exact hi.numsOf
  rw [nums_intItems] at hn
  rw [e] at hl
  refine PySem.W.ktm_sumG hh hl fun h' tk t' hk => ?_
  have := h h' tk t' hk
  rw [preSum_eq, List.take_of_length_le (by simp), hn]; exact this
end
section
variable {X : Cx} {K : PySem.W.Frag} {mg : Str → Option Value}
def rSumA (K : PySem.W.Frag) : List V → Hp → VK → Prop := fun vs H Q => ∃ (a : Addr) (ns : List Int), vs = [V.ref a] ∧ (SqL K H a (ns.map V.int) ∨ SqT K H a (ns.map V.int)) ∧ Q (.int ns.sum) H
theorem cr_sumA (hc : X.calm = true) : CallR X (.builtin "sum") (rSumA X.K) := by
  intro pins s σ H vs us Q I r h
  obtain ⟨a, ns, rfl, hs, q⟩ := h
  rcases hs with hs | hs
  · exact cr_sum hc _ _ _ _ _ _ _ I r ⟨a, ns, rfl, hs, q⟩
  · obtain ⟨its, rv, hl, _⟩ := I.tuple hs
    rw [Vals.ref1 r]
    exact sumT_raw (I.ok.hd hc) hl rv.ints fun h' tk t' hk => ⟨.int _, H, I.kept hk, ⟨_, rfl⟩, q⟩
def sumA : List D → Option D
  | [.lst ds] => (intL ds).map fun ns => .int ns.sum
  | [.tup ds] => (intL ds).map fun ns => .int ns.sum
  | _ => none
theorem ad_sumA : AdC (RpE K mg) K mg (rSumA K) sumA := by
  intro ad H g xs ds c dk r e Q q
  unfold sumA at e
  split at e
  · obtain ⟨x, rfl, rx⟩ := r.one
    rw [Option.map_eq_some_iff] at e
    obtain ⟨ns, e, rfl⟩ := e
    cases rx with
    | lst s ra =>
      rw [ints_eq e] at ra
      have := rep_ints ra
      subst this
      exact ⟨_, ns, rfl, .inl s.l, q _ _ (.refl _ _) dk (.int _)⟩
  · obtain ⟨x, rfl, rx⟩ := r.one
    rw [Option.map_eq_some_iff] at e
    obtain ⟨ns, e, rfl⟩ := e
    cases rx with
    | tup s ra =>
      rw [ints_eq e] at ra
      have := rep_ints ra
      subst this
      exact ⟨_, ns, rfl, .inr s.t, q _ _ (.refl _ _) dk (.int _)⟩
  · cases e
theorem sum_lst (ns : List Int) : sumA [.lst (ns.map D.int)] = some (.int ns.sum) := by show (intL _).map _ = _; rw [ints_map]; rfl
theorem sum_tup (ns : List Int) : sumA [.tup (ns.map D.int)] = some (.int ns.sum) := by show (intL _).map _ = _; rw [ints_map]; rfl
end

/-! xs.count(y) of a list -/
section
variable {X : Cx} {K : PySem.W.Frag} {mg : Str → Option Value}
def rCountD (K : PySem.W.Frag) : V → List V → Hp → VK → Prop := fun x xs H Q => ∃ (a : Addr) (y : V) (d : PyData) (ds : List PyData), x = V.ref a ∧ xs = [y] ∧ Dp K H (V.ref a) (.list ds) ∧ Dp K H y d ∧
  SeqAt.shaped (.list ds) = true ∧ SeqAt.shaped d = true ∧ Q (.int (ds.countP fun z => PyData.eqv z d : Nat)) H
theorem mt_countD (hu : X.A.units + 65 < cLine) : MtR X "list.count" (rCountD X.K) := by
  intro pins s σ H x xs v us Q I rx rxs h
  obtain ⟨a, y, d, ds, rfl, rfl, hl, hy, sl, sd, q⟩ := h
  cases rx
  cases rxs with
  | cons ry rt =>
    rename_i uy ut
    cases rt
    obtain ⟨bs, r1⟩ := Dp.reads I d y uy hy ry
    have hxs : PyData.canLayAll0 ds = true := SeqAt.canLay_of_shaped sl
    have hroom : X.A.units + 1 + min (PyData.depthAll ds) d.depth < cLine := room_in_shaped sd hu
    cases hl with
    | lst hs ha =>
      obtain ⟨its, rv, ⟨⟨cls, dd, data, sls⟩, n, ho, hc, hdn, hdt⟩, hlen⟩ := I.list hs
      simp only at hc hdt
      subst hc hdt
      obtain ⟨as, h4⟩ := Dp.readsAll I ds _ its ha rv
      have hmap : its.map (SeqAt.readOf s.heap) = ds := SeqAt.readsAll_map ds its as hxs h4
      refine call_meets PySem.F.slot_list_count ⟨_, ho, rfl⟩ PySem.F.entry_list_count (PySem.F.args_list_count_2 _ _)
        (SeqAt.list_countAt a its.toArray n dd sls uy (fun u => PyData.eqv (SeqAt.readOf s.heap u) d)) ⟨ho, SeqAt.items_eqAt (vs := its.toArray) (show ReadsAll s.heap its.toArray.toList ds as from h4) r1 hxs (SeqAt.canLay_of_shaped sd) hroom, ?_⟩
      have e : (its.toArray.toList.countP fun u => PyData.eqv (SeqAt.readOf s.heap u) d) = ds.countP fun z => PyData.eqv z d := by
        rw [← hmap, List.countP_map]
        rfl
      rw [e]
      exact ⟨.int (ds.countP fun z => PyData.eqv z d : Nat), H, I.tok _, ⟨_, rfl⟩, q⟩
def countD (a : D) (bs : List D) : Option D := match a, bs with
  | .lst ds, [d] => if SeqAt.shaped (D.lst ds).py = true ∧ SeqAt.shaped d.py = true then some (.int ((ds.countP fun z => PyData.eqv z.py d.py : Nat) : Nat)) else none
  | _, _ => none
theorem ad_count : AdM (RpE K mg) K mg (rCountD K) countD := by
  intro ad H g x xs d ds c dk rx rs e Q q
  unfold countD at e
  split at e
  · obtain ⟨y, rfl, ry⟩ := rs.one
    split at e
    · rename_i es d h
      cases e
      have hx := rx.dp _ _ (SeqAt.canLay_of_shaped h.1)
      cases rx with
      | lst s ra =>
        refine ⟨_, y, d.py, pyAll es, rfl, rfl, hx, ry.dp _ _ (SeqAt.canLay_of_shaped h.2), h.1, h.2, ?_⟩
        rw [show (pyAll es).countP (fun z => PyData.eqv z d.py) = es.countP fun z => PyData.eqv z.py d.py by rw [pyAll_map, List.countP_map]; rfl]
        exact q _ _ (.refl _ _) dk (.int _)
    · cases e
  · cases e
theorem count_ints (ns : List Int) (m : Int) : countD (.lst (ns.map D.int)) [.int m] = some (.int (ns.count m : Nat)) := by
  unfold countD
  dsimp only
  rw [if_pos ⟨(sh_lst (n := 0) (ds := ns.map D.int) fun d hd => by
    obtain ⟨i, _, rfl⟩ := List.mem_map.mp hd
    exact ⟨rfl, Nat.le_refl _⟩).ok (by omega), (show Sh 0 (D.int m) from ⟨rfl, Nat.le_refl _⟩).ok (by omega)⟩, List.countP_map]
  rfl
end

/-! sorted(set(xs)) of pairs of small whole numbers; x += e of whole numbers -/
def cpD (c : Nat × Nat) : D := .tup [.int (c.1 : Nat), .int (c.2 : Nat)]
def leQ (c e : Nat × Nat) : Bool := decide (c.1 < e.1 ∨ (c.1 = e.1 ∧ c.2 ≤ e.2))
def toQ : D → Option (Nat × Nat)
  | .tup [.int i, .int j] => if (0 ≤ i ∧ i < 64) ∧ (0 ≤ j ∧ j < 64) then some (i.toNat, j.toNat) else none
  | _ => none
def allQ : List D → Option (List (Nat × Nat))
  | [] => some []
  | d :: ds => (toQ d).bind fun c => (allQ ds).map (c :: ·)
def dd : List (Nat × Nat) → List (Nat × Nat)
  | [] => []
  | c :: cs => if c ∈ cs then dd cs else c :: dd cs
theorem mem_dd : ∀ {cs : List (Nat × Nat)} {c : Nat × Nat}, c ∈ dd cs ↔ c ∈ cs
  | [], _ => Iff.rfl
  | e :: cs, c => by
    unfold dd
    split
    · rename_i h
      rw [mem_dd, List.mem_cons]
      constructor
      · exact .inr
      · rintro (rfl | h2)
        · exact h
        · exact h2
    · rw [List.mem_cons, List.mem_cons, mem_dd]
theorem nodup_dd : ∀ cs : List (Nat × Nat), (dd cs).Nodup
  | [] => List.nodup_nil
  | c :: cs => by
    unfold dd
    split
    · exact nodup_dd cs
    · rename_i h
      exact List.nodup_cons.mpr ⟨fun z => h (mem_dd.mp z), nodup_dd cs⟩
def uniq (cs : List (Nat × Nat)) : List (Nat × Nat) := (dd cs).mergeSort leQ
theorem leQ_tr : ∀ a b c : Nat × Nat, leQ a b = true → leQ b c = true → leQ a c = true := fun a b c h1 h2 => by
  unfold leQ at *
  rw [decide_eq_true_iff] at *
  omega
theorem leQ_tot : ∀ a b : Nat × Nat, (leQ a b || leQ b a) = true := fun a b => by
  unfold leQ
  rw [Bool.or_eq_true, decide_eq_true_iff, decide_eq_true_iff]
  omega
theorem leQ_anti {a b : Nat × Nat} (h1 : leQ a b = true) (h2 : leQ b a = true) : a = b := by
  unfold leQ at *
  rw [decide_eq_true_iff] at *
  exact Prod.ext (by omega) (by omega)
theorem perm_eqQ : ∀ {xs ys : List (Nat × Nat)}, xs.Perm ys → xs.Pairwise (fun a b => leQ a b = true) → ys.Pairwise (fun a b => leQ a b = true) → xs = ys
  | [], ys, p, _, _ => (List.nil_perm.mp p).symm
  | x :: xs, [], p, _, _ => absurd p.length_eq (by simp)
  | x :: xs, y :: ys, p, h1, h2 => by
    have e : x = y := by
      have a : x ∈ y :: ys := p.mem_iff.mp List.mem_cons_self
      have b : y ∈ x :: xs := p.mem_iff.mpr List.mem_cons_self
      rcases List.mem_cons.mp a with a | a
      · exact a
      · rcases List.mem_cons.mp b with b | b
        · exact b.symm
        · exact leQ_anti ((List.pairwise_cons.mp h1).1 y b) ((List.pairwise_cons.mp h2).1 x a)
    subst e
    rw [perm_eqQ p.cons_inv (List.pairwise_cons.mp h1).2 (List.pairwise_cons.mp h2).2]
theorem mem_uniq {cs : List (Nat × Nat)} {c : Nat × Nat} : c ∈ uniq cs ↔ c ∈ cs := by unfold uniq; rw [List.mem_mergeSort, mem_dd]
theorem nodup_uniq (cs : List (Nat × Nat)) : (uniq cs).Nodup := (List.mergeSort_perm _ _).nodup_iff.mpr (nodup_dd cs)
theorem sorted_uniq (cs : List (Nat × Nat)) : (uniq cs).Pairwise fun a b => leQ a b = true := List.pairwise_mergeSort leQ_tr leQ_tot _
theorem is_uniq {cs es : List (Nat × Nat)} (hn : es.Nodup) (hs : es.Pairwise fun a b => leQ a b = true) (hm : ∀ c, c ∈ es ↔ c ∈ cs) : es = uniq cs :=
  perm_eqQ ((List.perm_ext_iff_of_nodup hn (nodup_uniq cs)).mpr fun c => by rw [hm, mem_uniq]) hs (sorted_uniq cs)
def sortSetD : List D → Option Fv
  | [.lst ds] => (allQ ds).bind fun cs => if cs.length < 64 then some (.f ((uniq cs).map cpD)) else none
  | _ => none
def encQ (c : Nat × Nat) : List Int := [(c.1 : Int), (c.2 : Int)]
section
variable {X : Cx} {K : PySem.W.Frag} {mg : Str → Option Value}
def rSS (K : PySem.W.Frag) (P : Program) (w : World) : List V → Hp → VK → Prop := fun vs H Q => rSetOfT K P w vs H fun x H1 => rSortedT K P w [x] H1 Q
theorem toQ_some {d : D} {c : Nat × Nat} (h : toQ d = some c) : d = cpD c ∧ c.1 < 64 ∧ c.2 < 64 := by
  unfold toQ at h
  split at h
  · rename_i i j
    split at h
    · rename_i hb
      cases h
      refine ⟨?_, by show i.toNat < 64; omega, by show j.toNat < 64; omega⟩
      show D.tup [.int i, .int j] = .tup [.int ((i.toNat : Nat) : Int), .int ((j.toNat : Nat) : Int)]
      rw [Int.toNat_of_nonneg hb.1.1, Int.toNat_of_nonneg hb.2.1]
    · cases h
  · cases h
theorem reps_q {ad : DA} {H : Hp} : ∀ {ds : List D} {cs : List (Nat × Nat)} {vs : List V}, allQ ds = some cs → RepAll K mg ad H vs ds →
    ∃ ks : List (Addr × List Int), vs = ks.map (fun p => V.ref p.1) ∧ ks.map (·.2) = cs.map encQ ∧ (∀ p ∈ ks, SqT K H p.1 (p.2.map V.int) ∧ ∃ c ∈ cs, p.2 = encQ c ∧ (c.1 < 64 ∧ c.2 < 64) ∧ Rep K mg ad H (.ref p.1) (cpD c)) ∧ ds.length = cs.length
  | [], _, _, e, r => by
    cases e
    cases r
    exact ⟨[], rfl, rfl, fun _ h => (nomatch h), rfl⟩
  | d :: ds, _, _, e, r => by
    unfold allQ at e
    obtain ⟨c, e1, e2⟩ := Option.bind_eq_some_iff.mp e
    obtain ⟨cs, e3, rfl⟩ := Option.map_eq_some_iff.mp e2
    cases r with
    | cons r1 r2 =>
      obtain ⟨ks, h1, h2, h3, h4⟩ := reps_q e3 r2
      obtain ⟨rfl, b1, b2⟩ := toQ_some e1
      have r1' := r1
      cases r1 with
      | tup s ra =>
        rename_i a xs
        have ex : xs = [V.int (c.1 : Nat), V.int (c.2 : Nat)] := rep_ints (ns := [(c.1 : Int), (c.2 : Int)]) ra
        subst ex
        refine ⟨(a, encQ c) :: ks, by rw [List.map_cons, ← h1], by rw [List.map_cons, List.map_cons, h2], fun p hp => ?_, by rw [List.length_cons, List.length_cons, h4]⟩
        rcases List.mem_cons.mp hp with rfl | hp
        · exact ⟨s.t, c, List.mem_cons_self, rfl, ⟨b1, b2⟩, r1'⟩
        · obtain ⟨q1, c', q2, q3⟩ := h3 p hp
          exact ⟨q1, c', List.mem_cons_of_mem _ q2, q3⟩
theorem encQ_inj {a b : Nat × Nat} (h : encQ a = encQ b) : a = b := by
  unfold encQ at h
  injection h with h1 h2
  injection h2 with h2 _
  exact Prod.ext (by omega) (by omega)
theorem snds {α β : Type} {f : β → List Int} {ks : List (Addr × List Int)} (h : ∀ p ∈ ks, ∃ c : β, p.2 = f c) : ∃ cs : List β, ks.map (·.2) = cs.map f := by
  induction ks with
  | nil => exact ⟨[], rfl⟩
  | cons p ks ih =>
    obtain ⟨c, hc⟩ := h p List.mem_cons_self
    obtain ⟨cs, hcs⟩ := ih fun q hq => h q (List.mem_cons_of_mem _ hq)
    exact ⟨c :: cs, by rw [List.map_cons, List.map_cons, hc, hcs]⟩
theorem reps_back {ad : DA} {H : Hp} : ∀ {ks : List (Addr × List Int)} {es : List (Nat × Nat)}, ks.map (·.2) = es.map encQ → (∀ p ∈ ks, ∀ c, p.2 = encQ c → Rep K mg ad H (.ref p.1) (cpD c)) → RepAll K mg ad H (ks.map fun p => V.ref p.1) (es.map cpD)
  | [], [], _, _ => .nil
  | [], _ :: _, h, _ => by cases h
  | _ :: _, [], h, _ => by cases h
  | p :: ks, c :: es, h, hr => by
    rw [List.map_cons, List.map_cons] at h
    injection h with h1 h2
    exact .cons (hr p List.mem_cons_self c h1) (reps_back h2 fun q hq => hr q (List.mem_cons_of_mem _ hq))
theorem ad_ss {P : Program} {w : World} : AdC (RpX K mg) K mg (rSS K P w) sortSetD := by
  intro ad H g xs ds c dk r e Q q
  unfold sortSetD at e
  split at e
  · obtain ⟨x, rfl, rx⟩ := r.one
    rename_i ds
    obtain ⟨cs, e1, e2⟩ := Option.bind_eq_some_iff.mp e
    split at e2
    · rename_i hlen
      cases e2
      cases rx with
      | lst s ra =>
        rename_i l vs
        obtain ⟨ks, rfl, h2, h3, h4⟩ := reps_q e1 ra
        refine ⟨l, ks, rfl, s.l, fun p hp => (h3 p hp).1, ?_, fun a L ha hL1 hL2 => ?_⟩
        · have := congrArg List.length h2
          rw [List.length_map, List.length_map] at this
          omega
        · have k1 : Keep ad H (upd H a (SetTO P w a L)) := Keep.upd ha
          have d1 : DrawOk ad (upd H a (SetTO P w a L)) g := dk.upd ha
          have hB : ∀ p ∈ L, ∃ c ∈ cs, p.2 = encQ c ∧ (c.1 < 64 ∧ c.2 < 64) ∧ Rep K mg ad H (.ref p.1) (cpD c) := fun p hp => (h3 p (hL1 p hp)).2
          refine ⟨a, L, 2, 64, rfl, upd_same, fun p hp => ?_, by omega, fun p hp => ?_, fun L' p hperm hnd hfew hpw hp => ?_⟩
          · obtain ⟨c, _, hc, _, hr⟩ := hB p hp
            obtain ⟨b, ns⟩ := p
            dsimp only at hc hr ⊢
            have hr := hr.keep k1 dk
            rw [hc]
            cases hr with
            | tup s' ra' =>
              rename_i zs
              have ez : zs = [V.int (c.1 : Nat), V.int (c.2 : Nat)] := rep_ints (ns := [(c.1 : Int), (c.2 : Int)]) ra'
              subst ez
              exact s'.t
          · obtain ⟨c, _, hc, hb, _⟩ := hB p hp
            rw [hc]
            refine ⟨rfl, fun n hn => ?_⟩
            simp only [encQ, List.mem_cons, List.not_mem_nil, or_false] at hn
            rcases hn with rfl | rfl <;> omega
          · have hB' : ∀ p ∈ L', ∃ c ∈ cs, p.2 = encQ c ∧ (c.1 < 64 ∧ c.2 < 64) ∧ Rep K mg ad H (.ref p.1) (cpD c) := fun p hp => hB p (hperm.mem_iff.mp hp)
            obtain ⟨es, hes⟩ := snds (α := Unit) (f := encQ) (ks := L') fun p hp => (hB' p hp).imp fun c h => h.2.1
            have hesb : ∀ c ∈ es, c.1 < 64 ∧ c.2 < 64 := fun c hc => by
              have : encQ c ∈ L'.map (·.2) := by rw [hes]; exact List.mem_map.mpr ⟨c, hc, rfl⟩
              obtain ⟨p, hp, e⟩ := List.mem_map.mp this
              obtain ⟨c', _, hc', hb, _⟩ := hB' p hp
              rw [encQ_inj (e.symm.trans hc')]
              exact hb
            have eu : es = uniq cs := by
              refine is_uniq ?_ ?_ fun c => ⟨fun hc => ?_, fun hc => ?_⟩
              · rw [hes] at hnd
                exact (List.pairwise_map.mp hnd).imp fun h z => h (by rw [z])
              · have hpw2 : (L'.map (·.2)).Pairwise fun n m => TS.code 64 n ≤ TS.code 64 m := List.pairwise_map.mpr hpw
                rw [hes, List.pairwise_map] at hpw2
                refine List.Pairwise.imp_of_mem (fun {a b} ha hb h => ?_) hpw2
                have h : TS.code 64 [(a.1 : Int), (a.2 : Int)] ≤ TS.code 64 [(b.1 : Int), (b.2 : Int)] := h
                rw [code_pair, code_pair] at h
                have := hesb a ha
                have := hesb b hb
                unfold leQ
                rw [decide_eq_true_iff]
                omega
              · have : encQ c ∈ L'.map (·.2) := by rw [hes]; exact List.mem_map.mpr ⟨c, hc, rfl⟩
                obtain ⟨p, hp, e⟩ := List.mem_map.mp this
                obtain ⟨c', hm, hc', _⟩ := hB' p hp
                rw [encQ_inj (e.symm.trans hc')]
                exact hm
              · have : encQ c ∈ ks.map (·.2) := by rw [h2]; exact List.mem_map.mpr ⟨c, hc, rfl⟩
                obtain ⟨p, hp, e⟩ := List.mem_map.mp this
                have := hL2 p hp
                rw [e] at this
                have : encQ c ∈ L'.map (·.2) := (hperm.map (·.2)).mem_iff.mpr this
                rw [hes] at this
                obtain ⟨c', hc', e'⟩ := List.mem_map.mp this
                rw [← encQ_inj e']
                exact hc'
            have rr : RepAll K mg ad (upd H a (SetTO P w a L)) (L'.map fun p => V.ref p.1) ((uniq cs).map cpD) := by
              rw [← eu]
              refine reps_back hes fun p hp c hc => ?_
              obtain ⟨c', _, hc', _, hr⟩ := hB' p hp
              rw [encQ_inj (hc.symm.trans hc')]
              exact hr.keep k1 dk
            have hpH : H p = none := by
              by_cases z : p = a
              · subst z
                rw [upd_same] at hp
                cases hp
              · rw [upd_ne z] at hp
                exact hp
            exact q _ _ (k1.trans (Keep.upd hp)) (d1.upd hp) ⟨p, _, rfl, hpH, upd_same, rr.keep (Keep.upd hp) d1⟩
    · cases e2
  · cases e
variable {Rp : RpT V Fv} {e : Expr} {W : WX} {B : List Nat}
theorem dr_ss {p p2 pos q : Pos} {ts : DSt → G → DI.R (List D)} (hc : X.calm = true) (hu : X.A.units + 64 < cLine) (hg : Gl X "sorted") (hm : X.mg "sorted" = none) (hv : bootBuiltins "sorted" = some (.builtin "sorted")) (hg2 : Gl X "set") (hm2 : X.mg "set" = none) (hv2 : bootBuiltins "set" = some (.type "set")) (ha : PA X [e] (eA X.K X.mg W B ts))
    (he : starEach [e] X.env = (false, eval e X.env) :: starEach [] X.env := by rfl)
    (he2 : starEach [.Call (.Name "set" p2) [e] [] q] X.env = (false, eval (.Call (.Name "set" p2) [e] [] q) X.env) :: starEach [] X.env := by rfl) :
    PE X (.Call (.Name "sorted" p) [.Call (.Name "set" p2) [e] [] q] [] pos) (eX X.K X.mg W B (dCB sortSetD ts)) :=
  PE.imp (PE.imp (t' := tCB (rSS X.K X.prog X.w) _) (pe_callB (cr_sortedT hc) hg hm hv (pa_cons (pe_callTy (cr_setOfT hc hu) hg2 hm2 hv2 ha (by decide) (by decide) he rfl) pa_nil he2) (by decide) (by decide) he2 rfl) fun σ H Q h => h) (ad_ss.ap bkX)
end
theorem allQ_map {cs : List (Nat × Nat)} (h : ∀ c ∈ cs, c.1 < 64 ∧ c.2 < 64) : allQ (cs.map cpD) = some cs := by
  induction cs with
  | nil => rfl
  | cons c cs ih =>
    obtain ⟨h1, h2⟩ := h c List.mem_cons_self
    rw [List.map_cons]
    unfold allQ
    rw [ih fun e he => h e (List.mem_cons_of_mem _ he)]
    have : toQ (cpD c) = some c := by
      show (if (0 ≤ (c.1 : Int) ∧ (c.1 : Int) < 64) ∧ (0 ≤ (c.2 : Int) ∧ (c.2 : Int) < 64) then _ else _) = _
      rw [if_pos (by omega)]
      rfl
    rw [this]
    rfl
theorem sortSet_ok {cs : List (Nat × Nat)} (h : ∀ c ∈ cs, c.1 < 64 ∧ c.2 < 64) (hl : cs.length < 64) : sortSetD [.lst (cs.map cpD)] = some (.f ((uniq cs).map cpD)) := by
  show (allQ _).bind _ = _
  rw [allQ_map h, Option.bind_some]
  exact if_pos hl
theorem lt64 {n : Nat} (h : n + 65 < cLine) : n + 64 < cLine := by omega
/-! x += e, whole numbers -/
def sAugI (i : Nat) (B : List Nat) (t : ET) : SB := fun S g => match S[i]? with
  | some (some (.val (.int x))) => match t (view S) g with
    | .ok (.int y) g' => .nx (S.set i (some (.val (.int (x + y))))) g'
    | .ok _ _ => .bad
    | .er x g' => .er x (frzB B S) g'
    | .bad => .bad
  | _ => .bad
section
variable {X : Cx} {W : WX} {B : List Nat} {e : Expr} {t : ET} {pos : Pos}
theorem ds_augI {i : Nat} {x : Str} {pos' : Pos} (hN : X.N.Nodup) (hi : X.N[i]? = some x) (hx : Loc X.env.scope x) (he : PE X e (eE X.K X.mg W B t)) (hf : X.fn x = true ∨ X.env.scope.names.lookup x = some .local := by first | exact .inl rfl | exact .inr rfl | assumption) :
    SD X W (.AugAssign (.Name x pos') .Add e pos) (sAugI i B t) := PS.imp (ps_aug hN hi hx (brw (dx_of he)) ip_add hf) fun D σ H ⟨ad, S, g, h⟩ => by
  have p := h.po
  unfold sAugI at p
  split at p
  · rename_i x hS
    obtain ⟨v, hv, rv⟩ := h.sr.val i (.int x) hS
    cases rv
    refine ⟨.int x, hv, ad, S, g, h.sr, h.dk, ?_⟩
    show pstB X.K X.mg X.H_0 ad H σ S B _ _ ((t (view S) g).map Fv.v)
    cases r : t (view S) g with
    | bad => rw [r] at p; exact p
    | er x g' => rw [r] at p; exact fun c dd H' k sr dk q => p c dd _ H' k sr dk q
    | ok d g' =>
      rw [r] at p
      cases d with
      | int y =>
        intro v H' k sr dk q
        have q := q.rep
        cases q
        exact ⟨x, y, rfl, rfl, p _ H' k (sr.setVal (.int _)) dk⟩
      | _ => exact p.elim
  · exact p.elim
theorem us_augI {i : Nat} (h : UnT t) : UnS (sAugI i B t) := fun S => by
  unfold sAugI
  split
  · rcases h (view S) with ⟨a, h⟩ | ⟨x, h⟩ | h
    · simp only [h]
      cases a <;> first | exact .nx _ | exact .bad
    · simp only [h]; exact .er _ _
    · simp only [h]; exact .bad
  · exact .bad
theorem sAugI_ok {i : Nat} {S : SS} {g g' : G} {x y : Int} (hS : S[i]? = some (some (.val (.int x)))) (h : t (view S) g = .ok (.int y) g') : sAugI i B t S g = .nx (S.set i (some (.val (.int (x + y))))) g' := by
  unfold sAugI
  rw [hS]
  dsimp only
  rw [h]
end

/-! an expression that is never reached -/
def eBad : ET := fun _ _ => .bad
section
variable {X : Cx} {W : WX}
theorem de_bad {e : Expr} : PE X e (eE X.K X.mg W [] eBad) := ⟨fun pins s σ H Q I hq => by
  obtain ⟨ad, S, g, sr, dk, po⟩ := hq
  exact po.elim⟩
end

/-! x[i], y[j] = a, b and x[i] op= a, lists of one's own -/
/-- d is put into the list at b -/
def ixS (b : Nat) (ti : ET) (d : D) (S : SS) (g : G) (k : SS → G → RS) : RS := match ti (view S) g with
  | .ok (.int i) g2 => match S[b]? with
    | some (some (.own ds)) => match ixN ds.length i with
      | some j => k (S.set b (some (.own (ds.set j d)))) g2
      | none => .bad
    | _ => .bad
  | _ => .bad
def sIx2 (b1 b2 : Nat) (te ti1 ti2 : ET) : SB := fun S g => match te (view S) g with
  | .ok (.tup [d1, d2]) g1 => if d1.nol && d2.nol then ixS b1 ti1 d1 S g1 fun S g => ixS b2 ti2 d2 S g fun S g => .nx S g else .bad
  | _ => .bad
section
variable {K : PySem.W.Frag} {mg : Str → Option Value} {H0 : Hp} {ad : DA} {σ : St}
theorem ix_ap {b : Nat} {ti : ET} {d : D} {S : SS} {g : G} {H : Hp} {v : V} {k : SS → G → RS} {T : RS → Prop} {Q : St → Hp → Prop} (hT : ¬ T .bad) (sr : SRS K mg H0 ad H σ S) (dk : DrawOk ad H g) (rv : Rep K mg ad H v d) (po : T (ixS b ti d S g k))
    (q : ∀ S' g' H', Perm H H' → SRS K mg H0 ad H' σ S' → DrawOk ad H' g' → T (k S' g') → Q σ H') : gSub (tVar b) (rdBK K mg H0 ti) rSetL v σ H Q := by
  obtain ⟨ow, sr⟩ := sr
  unfold ixS at po
  cases e1 : ti (view S) g with
  | bad => rw [e1] at po; exact (hT po).elim
  | er x g' => rw [e1] at po; exact (hT po).elim
  | ok di g2 =>
  rw [e1] at po
  cases di with
  | int i =>
    simp only at po
    cases e3 : S[b]? with
    | none => rw [e3] at po; exact (hT po).elim
    | some x =>
    rw [e3] at po
    cases x with
    | none => exact (hT po).elim
    | some x =>
    cases x with
    | val _ => exact (hT po).elim
    | mat _ => exact (hT po).elim
    | own ds =>
      simp only at po
      cases e4 : ixN ds.length i with
      | none => rw [e4] at po; exact (hT po).elim
      | some j =>
        rw [e4] at po
        simp only at po
        obtain ⟨a, vs, ea, eH, ra, _, na, _⟩ := sr.own b ds e3
        refine ⟨_, ea, ad, S, g, _, _, sr.s, dk, e1, rfl, fun vi H2 k2 d2 ri => ?_⟩
        cases ri
        have s2 := sr.keeps k2 dk
        obtain ⟨a', ws, ea', eH2, rw', _, na', _⟩ := s2.own b ds e3
        rw [ea] at ea'; cases ea'
        refine ⟨a, ws, i, j, rfl, rfl, eH2, by rw [rw'.len]; exact e4, ?_⟩
        have pm := perm_lst (ws := ws.set j v) eH2
        exact q _ g2 _ ((k2.perm dk).trans pm) (s2.s.mut e3 ea eH2 (rw'.set (rv.keep k2 dk) j)) (d2.mut eH2 na') po
  | _ => exact (hT po).elim
end
section
variable {X : Cx} {W : WX} {e : Expr} {pos : Pos} {te ti : ET} {Be Bi : List Nat}
theorem pg_ix {b : Nat} {x : Str} {ei : Expr} {px p1 : Pos} (hN : X.N[b]? = some x) (hv : Vis X.env.scope x) (hi : PE X ei (eE X.K X.mg W0 Bi ti)) (hd : (x == ("__debug__" : Str)) = false := by decide) (hcd : (x == ("__classdict__" : Str)) = false := by decide)
    (ha : ∀ v, assign (.Subscript (.Name x px) ei p1) X.env v = (do
      let ov ← holding [v] (eval (.Name x px) X.env)
      let iv ← holding [v, ov] (eval ei X.env)
      standAt p1
      holding [v, ov, iv] (setItem ov iv v)
      release [v, ov, iv] []) := by intro _; rfl) :
    PG X (.Subscript (.Name x px) ei p1) (gSub (tVar b) (rdBK X.K X.mg X.H_0 ti) rSetL) := pg_sub (pe_var hN hv hd hcd) (brwK hi) set_list ha
theorem ds_ix2 {b1 b2 : Nat} {tg1 tg2 : Expr} {ti1 ti2 : ET} {kt : Nat} {pt : Pos} (hc : X.calm = true) (he : PE X e (eE X.K X.mg W Be te)) (hg1 : PG X tg1 (gSub (tVar b1) (rdBK X.K X.mg X.H_0 ti1) rSetL)) (hg2 : PG X tg2 (gSub (tVar b2) (rdBK X.K X.mg X.H_0 ti2) rSetL))
    (he1 : (assignEach [tg2] X.env).map (·.2) = assign tg2 X.env :: (assignEach [] X.env).map (·.2) := by rfl) (he2 : (assignEach [tg1, tg2] X.env).map (·.2) = assign tg1 X.env :: (assignEach [tg2] X.env).map (·.2) := by rfl)
    (hn : (assignEach [tg1, tg2] X.env).length = 2 := by rfl) (hst : (assignEach [tg1, tg2] X.env).findIdx? (·.1) = none := by rfl)
    (hs : swapsWithSole [.Tuple [tg1, tg2] kt pt] e pos.line X.env = pure false := by rfl) (hw : swappedStores [.Tuple [tg1, tg2] kt pt] e X.env = pure none := by rfl)
    (h1 : (assignEach [.Tuple [tg1, tg2] kt pt] X.env).map (·.2) = [assign (.Tuple [tg1, tg2] kt pt) X.env] := by rfl) : SD X W (.Assign [.Tuple [tg1, tg2] kt pt] e pos) (sIx2 b1 b2 te ti1 ti2) := PS.imp (ps_asg (brwK he) (pg_tup hc (pgs_cons hg1 (pgs_cons hg2 pgs_nil he1) he2) hn hst) hs hw h1) fun D σ H ⟨ad, S, g, h⟩ => by
  have p := h.po
  unfold sIx2 at p
  cases r : te (view S) g with
  | bad => rw [r] at p; exact p.elim
  | er x g' => rw [r] at p; exact p.elim
  | ok d g1 =>
    rw [r] at p
    split at p
    · rename_i d1 d2 g1' er
      cases er
      by_cases hn : (d1.nol && d2.nol) = true
      · rw [if_pos hn] at p
        simp only [Bool.and_eq_true] at hn
        refine ⟨ad, S, g, _, _, h.sr, h.dk, r, by simp [DI.D.nol, nolAll, hn.1, hn.2], fun v H1 k1 dd1 rv => ?_⟩
        cases rv with
        | tup st ra =>
          obtain ⟨x, y, rfl, rx, ry⟩ := ra.two
          refine ⟨_, _, rfl, st.t, rfl, x, [y], rfl, ?_⟩
          refine ix_ap (T := pstS X.K X.mg X.H_0 W ad H D) id (h.sr.keeps k1 h.dk) dd1 rx p fun S' g' H' pm s' d' q => ⟨y, [], rfl, ?_⟩
          refine ix_ap (T := pstS X.K X.mg X.H_0 W ad H D) id s' d' (ry.perm pm) q fun S'' g'' H'' pm2 s'' d'' q => ⟨rfl, q σ H'' (((k1.perm h.dk).trans pm).trans pm2) s'' d''⟩
      · rw [if_neg hn] at p; exact p.elim
    · exact p.elim
/-- a list's place, from its front -/
def rGetL (K : PySem.W.Frag) : V → V → Hp → VK → Prop := fun x y H Q => ∃ p xs i v, x = .ref p ∧ y = .int i ∧ SqL K H p xs ∧ 0 ≤ i ∧ L2.atI xs i = some v ∧ Q v H
theorem get_list : PGet X (rGetL X.K) := by
  intro pins s σ H x y v u Q I rx ry h
  obtain ⟨p, xs, i, z, rfl, rfl, hq, h0, he, q⟩ := h
  cases rx
  obtain ⟨t, rfl⟩ := ry
  obtain ⟨its, r, pl, hz⟩ := I.list hq
  obtain ⟨j, h1, h2, h3, h4, h5⟩ := atI_get he
  obtain ⟨w, ew, rw'⟩ := r.get h2
  have hl := r.length
  have hn := line63
  have hj : i.toNat = j := by
    rw [seqIndex_of h0 h5] at h1
    exact Option.some.inj h1
  exact wpAny_getItem_list pl.isList h0 (by omega) (by rw [hj]; simpa using ew) ⟨z, H, I, rw', q⟩
def sAugIx (x : Nat) (f : Int → Int → Int) (te ti : ET) : SB := fun S g => match ti (view S) g with
  | .ok (.int i) g1 => match S[x]? with
    | some (some (.own ds)) => if 0 ≤ i then match ixN ds.length i with
      | some k => match ds[k]? with
        | some (.int a) => match te (view S) g1 with
          | .ok (.int b) g2 => .nx (S.set x (some (.own (ds.set k (.int (f a b)))))) g2
          | _ => .bad
        | _ => .bad
      | none => .bad
      else .bad
    | _ => .bad
  | _ => .bad
theorem ds_augIx {x : Nat} {y : Str} {ei : Expr} {op : Operator} {f : Int → Int → Int} {py p1 : Pos} (hN : X.N[x]? = some y) (hv : Vis X.env.scope y) (he : PE X e (eE X.K X.mg W0 Be te)) (hi : PE X ei (eE X.K X.mg W0 Bi ti)) (ho : PIp X op (ipI f)) (hd : (y == ("__debug__" : Str)) = false := by decide) (hcd : (y == ("__classdict__" : Str)) = false := by decide)
    (ha : ∀ ov iv new, augStore ei ov iv new = (do holding [new, ov, iv] (setItem ov iv new); release [new, ov, iv] []; pure .next) := by intros; rfl) : SD X W (.AugAssign (.Subscript (.Name y py) ei p1) op e pos) (sAugIx x f te ti) :=
  PS.imp (ps_augS (pe_var hN hv hd hcd) (brwK hi) get_list (brwK he) ho set_list ha) fun D σ H ⟨ad, S, g, h⟩ => by
  have p := h.po
  obtain ⟨ow, sr⟩ := h.sr
  unfold sAugIx at p
  cases r : ti (view S) g with
  | bad => rw [r] at p; exact p.elim
  | er x g' => rw [r] at p; exact p.elim
  | ok di g1 =>
    rw [r] at p
    cases di with
    | int i =>
      simp only at p
      split at p
      · rename_i ds e1
        by_cases h0 : 0 ≤ i
        · rw [if_pos h0] at p
          split at p
          · rename_i k ek
            split at p
            · rename_i a0 e5
              cases r2 : te (view S) g1 with
              | bad => rw [r2] at p; exact p.elim
              | er x g' => rw [r2] at p; exact p.elim
              | ok db g2 =>
                rw [r2] at p
                cases db with
                | int b =>
                  simp only at p
                  obtain ⟨a, vs, ea, eH, ra, _, na, _⟩ := sr.own x ds e1
                  refine ⟨_, ea, ad, S, g, _, _, sr.s, h.dk, r, rfl, fun vi H2 k2 d2 ri => ?_⟩
                  cases ri
                  have s2 := sr.keeps k2 h.dk
                  obtain ⟨a', ws, ea', eH2, rw', _, na', _⟩ := s2.own x ds e1
                  rw [ea] at ea'; cases ea'
                  obtain ⟨z, hz, rz⟩ := rw'.get e5
                  refine ⟨a, ws, i, z, rfl, rfl, .of eH2, h0, ?_, ?_⟩
                  · unfold L2.atI
                    rw [rw'.len, ek]
                    simp [hz]
                  · refine ⟨ad, S, g1, _, _, s2.s, d2, r2, rfl, fun vy H3 k3 d3 ry => ?_⟩
                    cases ry
                    cases rz
                    have s3 := s2.keeps k3 d2
                    obtain ⟨a', us, ea', eH3, ru', _, na3, _⟩ := s3.own x ds e1
                    rw [ea] at ea'; cases ea'
                    refine ⟨a0, b, rfl, rfl, a, us, i, k, rfl, rfl, eH3, by rw [ru'.len]; exact ek, ?_⟩
                    have pm := perm_lst (ws := us.set k (.int (f a0 b))) eH3
                    exact p σ _ (((k2.trans k3).perm h.dk).trans pm) (s3.s.mut e1 ea eH3 (ru'.set (d := .int (f a0 b)) (.int _) k)) (d3.mut eH3 na3)
                | _ => exact p.elim
            · exact p.elim
          · exact p.elim
        · rw [if_neg h0] at p; exact p.elim
      · exact p.elim
    | _ => exact p.elim
end
theorem ixN_nt {n i : Nat} (hi : i < n) : ixN n ((i : Nat) : Int) = some i := by
  unfold ixN
  rw [if_pos (by omega), if_pos (by omega)]
  simp
theorem sAugIx_ok {x : Nat} {f : Int → Int → Int} {te ti : ET} {S : SS} {g g1 g2 : G} {i : Nat} {ds : List D} {a b : Int} (h1 : ti (view S) g = .ok (.int (i : Nat)) g1) (hs : S[x]? = some (some (.own ds))) (hi : ds[i]? = some (.int a)) (h : te (view S) g1 = .ok (.int b) g2) : sAugIx x f te ti S g = .nx (S.set x (some (.own (ds.set i (.int (f a b)))))) g2 := by
  unfold sAugIx
  rw [h1]
  dsimp only
  rw [hs]
  dsimp only
  rw [if_pos (by omega), ixN_nt (List.getElem?_eq_some_iff.mp hi).1]
  dsimp only
  rw [hi]
  dsimp only
  rw [h]
theorem us_augIx {x : Nat} {f : Int → Int → Int} {te ti : ET} (h1 : UnT te) (h2 : UnT ti) : UnS (sAugIx x f te ti) := fun S => by
  unfold sAugIx
  rcases h2 (view S) with ⟨d, h⟩ | ⟨y, h⟩ | h
  · simp only [h]
    cases d with
    | int i =>
      simp only
      split
      · rename_i ds _
        by_cases h0 : 0 ≤ i
        · simp only [if_pos h0]
          cases ixN ds.length i with
          | none => exact .bad
          | some k =>
            simp only
            split
            · rcases h1 (view S) with ⟨d, h'⟩ | ⟨y, h'⟩ | h'
              · simp only [h']
                cases d with
                | int b => exact .nx _
                | _ => exact .bad
              · simp only [h']; exact .bad
              · simp only [h']; exact .bad
            · exact .bad
        · simp only [if_neg h0]; exact .bad
      · exact .bad
    | _ => exact .bad
  · simp only [h]; exact .bad
  · simp only [h]; exact .bad
theorem us_ixS {b : Nat} {ti : ET} {d : D} {k : SB} (h1 : UnT ti) (h2 : UnS k) : UnS (fun S g => ixS b ti d S g k) := fun S => by
  unfold ixS
  rcases h1 (view S) with ⟨d, h⟩ | ⟨y, h⟩ | h
  · simp only [h]
    cases d with
    | int i =>
      simp only
      split
      · rename_i ds _
        cases ixN ds.length i with
        | none => exact .bad
        | some k => exact h2 _
      · exact .bad
    | _ => exact .bad
  · simp only [h]; exact .bad
  · simp only [h]; exact .bad
theorem us_ix2 {b1 b2 : Nat} {te ti1 ti2 : ET} (h : UnT te) (h1 : UnT ti1) (h2 : UnT ti2) : UnS (sIx2 b1 b2 te ti1 ti2) := fun S => by
  unfold sIx2
  rcases h (view S) with ⟨d, h⟩ | ⟨y, h⟩ | h
  · simp only [h]
    cases d with
    | tup xs =>
      match xs with
      | [d1, d2] =>
        by_cases hn : (d1.nol && d2.nol) = true
        · simp only [if_pos hn]
          exact us_ixS h1 (us_ixS h2 fun S => .nx _) S
        · simp only [if_neg hn]; exact .bad
      | [] => exact .bad
      | [_] => exact .bad
      | _ :: _ :: _ :: _ => exact .bad
    | _ => exact .bad
  · simp only [h]; exact .bad
  · simp only [h]; exact .bad
theorem sIx2_ok {b1 b2 : Nat} {te ti1 ti2 : ET} {S : SS} {g g1 g2 g3 : G} {d1 d2 : D} {i1 i2 : Nat} {ds es : List D} (h : te (view S) g = .ok (.tup [d1, d2]) g1) (n1 : d1.nol = true) (n2 : d2.nol = true) (h1 : ti1 (view S) g1 = .ok (.int (i1 : Nat)) g2) (hs : S[b1]? = some (some (.own ds))) (l1 : i1 < ds.length)
    (h2 : ti2 (view (S.set b1 (some (.own (ds.set i1 d1))))) g2 = .ok (.int (i2 : Nat)) g3) (hs2 : (S.set b1 (some (.own (ds.set i1 d1))))[b2]? = some (some (.own es))) (l2 : i2 < es.length) : sIx2 b1 b2 te ti1 ti2 S g = .nx ((S.set b1 (some (.own (ds.set i1 d1)))).set b2 (some (.own (es.set i2 d2)))) g3 := by
  unfold sIx2
  rw [h]
  dsimp only
  rw [if_pos (by rw [n1, n2]; rfl)]
  unfold ixS
  rw [h1]
  dsimp only
  rw [hs]
  dsimp only
  rw [ixN_nt l1]
  dsimp only
  rw [h2]
  dsimp only
  rw [hs2]
  dsimp only
  rw [ixN_nt l2]

/-! a tuple taken no time -/
theorem tuple_mul0 (l : Addr) (items : Array Value) (n : Nat) (dd : Option Addr) (sl : Array (Option Value)) (x : Int) (u : Tok) (c0 : (decide (x < -(2 ^ 63)) || decide (x ≥ 2 ^ 63)) = false) (c1 : (items.isEmpty || x == 1) = false) (c2 : (decide (x ≤ 0) || items.isEmpty) = true) :
    Meets (Builtin.«tuple.__mul__» ⟨[.ref l, .int x u], []⟩) (fun _ R s => s.heap.get? l = some { cls := .type "tuple", dict := dd, data := .seq items n, slots := sl } ∧
      R (.ok (.ret (Value.ref s.heap.objs.size))) { s with heap := s.heap.push { cls := Value.type "tuple", data := Data.seq #[] }, toks := s.toks }) :=
  .of_wp fun prog w A R s h => by
    obtain ⟨hp, g, d, tk, os⟩ := s
    obtain ⟨hl, h⟩ := h
    have f1 := AutoSeq1.idx_int
    wp_walk using wpAny_loadPart' hl
    repeat (first
      | (refine wpAny_ite_false (decide_eq_false (by rw [c0]; exact Bool.false_ne_true)) ?_; wp_walk using wpAny_loadPart' hl)
      | (refine wpAny_ite_false (decide_eq_false (by rw [c1]; exact Bool.false_ne_true)) ?_; wp_walk using wpAny_loadPart' hl)
      | (refine wpAny_ite_true (decide_eq_true c2) ?_; wp_walk using wpAny_loadPart' hl))
    exact ⟨_, rfl, h⟩
section
variable {X : Cx}
def rRep0 (K : PySem.W.Frag) : R2 := fun x y H Q => ∃ l xs, x = .ref l ∧ y = .int 0 ∧ SqT K H l xs ∧ xs ≠ [] ∧ QN Q [] H
theorem op_rep0 : OpR X (binaryOp .Mult) (rRep0 X.K) := by
  intro pins s σ H x y v u Q I rx ry ⟨l, xs, ex, ey, hT, hne, q⟩
  subst ex ey
  cases rx
  obtain ⟨t, et⟩ := ry
  subst et
  obtain ⟨its, r, ⟨⟨cls, dd, data, sl⟩, ho, hc, n, hd⟩, _⟩ := I.tuple hT
  dsimp only at hc hd
  subst hc hd
  have hle : its.length = xs.length := r.length.symm
  have hpos : 0 < xs.length := List.length_pos_iff.mpr hne
  have hi : its.toArray.isEmpty = false := by
    rw [Array.isEmpty_eq_false_iff]
    intro z
    have := congrArg Array.size z
    simp at this
    rw [this] at hle
    simp at hle
    omega
  have c0 : (decide ((0 : Int) < -(2 ^ 63)) || decide ((0 : Int) ≥ 2 ^ 63)) = false := by decide
  have c1 : (its.toArray.isEmpty || (0 : Int) == 1) = false := by rw [hi]; rfl
  have c2 : (decide ((0 : Int) ≤ 0) || its.toArray.isEmpty) = true := by rw [decide_eq_true (by omega)]; rfl
  have isT : s.TypeIs (.ref l) "tuple" := ⟨_, ho, rfl⟩
  refine wpAny_binaryOp_repeat_ref (T := "tuple") (U := "int") (by decide) isT (fun s' => typeIs_int s' 0 t) noFill_tuple_mul F.fills_int_mul F.slot_int_rmul repeat_tuple F.slot_int_index.lookup
    (call_meets F.slot_int_rmul (typeIs_int s 0 t) F.entry_int_rmul (F.args_int_rmul_2 _ _) (int_rmul_tuple 0 t l its.toArray n dd sl)
      ⟨ho, rfl, isT, call_meets F.slot_tuple_mul isT F.entry_tuple_mul (F.args_tuple_mul_2 _ _) (tuple_mul0 l its.toArray n dd sl 0 t c0 c1 c2) ⟨ho, ?_⟩⟩)
  exact laidN I (.nil : Vals [] []) (Nat.zero_le _) q
def rMulZ (K : PySem.W.Frag) : R2 := fun x y H Q => rMulT K x y H Q ∨ rRep0 K x y H Q
theorem op_mulZ : OpR X (binaryOp .Mult) (rMulZ X.K) := OpR.or op_mulT op_rep0
end
/-- a product, or a tuple several times, or no time -/
def mulZ (a b : D) : Option D := match a, b with
  | .tup (_ :: _), .int 0 => some (.tup [])
  | a, b => mulT a b
theorem ad_mulZ {K : PySem.W.Frag} {mg : Str → Option Value} : AdG (RpE K mg) K mg (rMulZ K) mulZ := by
  intro ad H g x y a b c dk rx ry e Q q
  unfold mulZ at e
  split at e
  · rename_i d ds
    cases ry
    cases rx with
    | tup s r =>
      cases e
      exact .inr ⟨_, _, rfl, rfl, s.t, fun z => (by subst z; cases r), fun p o hp ho => q _ _ (Keep.upd hp) (dk.upd hp) (.tup (.new ho) .nil)⟩
  · exact .inl (ad_mulT ad H g x y _ _ c dk rx ry e Q q)
theorem mulZ_rep (d : D) {n : Nat} (h : n ≤ 1000) : mulZ (.tup [d]) (.int (n : Nat)) = some (.tup (List.replicate n d)) := by
  cases n with
  | zero => rfl
  | succ n =>
    have : mulZ (.tup [d]) (.int ((n + 1 : Nat) : Nat)) = mulT (.tup [d]) (.int ((n + 1 : Nat) : Nat)) := by
      unfold mulZ
      split
      · rename_i e1 e2
        exfalso
        injection e2 with e2
        omega
      · rfl
    rw [this]
    unfold mulT
    dsimp only
    rw [if_pos ⟨⟨by omega, by omega⟩, by simp⟩, Int.toNat_natCast, List.flatten_replicate_singleton]

/-! dicts that stay: by comprehensions; d[k] -/

/-! ### tables -/
def putG {α : Type} (kvs : List (Key × α)) (k : Key) (v : α) : List (Key × α) :=
  if (kvs.any fun kv => decide (kv.1 = k)) = true then kvs.map (fun kv => if kv.1 = k then (kv.1, v) else kv) else kvs ++ [(k, v)]
theorem putG_new {α : Type} {kvs : List (Key × α)} {k : Key} (v : α) (h : ∀ kv ∈ kvs, kv.1 ≠ k) : putG kvs k v = kvs ++ [(k, v)] := by
  unfold putG
  rw [if_neg]
  intro z
  obtain ⟨kv, hm, e⟩ := List.any_eq_true.mp z
  exact h kv hm (of_decide_eq_true e)
def keyOf : D → Option Key
  | .int i => some (.inl i)
  | .str x => some (.inr x)
  | _ => none
theorem keyOf_D (k : Key) : keyOf (keyD k) = some k := by cases k <;> rfl
theorem keyOf_eq {d : D} {k : Key} (e : keyOf d = some k) : d = keyD k := by
  cases d <;> first | (cases e; rfl) | cases e
def dlook : List D → List D → Key → Option D
  | k' :: ks, v :: vs, k => if keyOf k' = some k then some v else dlook ks vs k
  | _, _, _ => none
/-- d[k], k there -/
def dgetD : D → D → Option D
  | .dct ks vs, kd => match keyOf kd with
    | some k => dlook ks vs k
    | none => none
  | _, _ => none
section
variable {K : PySem.W.Frag} {mg : Str → Option Value} {ad : DA} {H : Hp}
theorem rep_key {v : V} {d : D} {k : Key} (r : Rep K mg ad H v d) (e : keyOf d = some k) : v = kV k := by
  have e := keyOf_eq e
  subst e
  cases k with
  | inl i => cases r with | int _ => rfl
  | inr x => cases r with | str _ => rfl
theorem dlook_val : ∀ (kvs : List (Key × V)) (ds : List D) (k : Key) (c : D), RepAll K mg ad H (kvs.map Prod.snd) ds → dlook (kvs.map fun p => keyD p.1) ds k = some c → ∃ v, valV kvs k = some v ∧ Rep K mg ad H v c
  | [], _, _, _, _, e => by simp [dlook] at e
  | p :: kvs, ds, k, c, r, e => by
    rw [List.map_cons] at r
    cases r with
    | cons a b =>
      rw [List.map_cons] at e
      unfold dlook at e
      rw [keyOf_D] at e
      by_cases h : p.1 = k
      · rw [if_pos (congrArg some h)] at e
        cases e
        exact ⟨p.2, valV_pos h, a⟩
      · rw [if_neg fun z => h (Option.some.inj z)] at e
        obtain ⟨v, e1, r1⟩ := dlook_val kvs _ k c b e
        exact ⟨v, by rw [valV_neg h]; exact e1, r1⟩
/-- entries that stand for data -/
def Ent (K : PySem.W.Frag) (mg : Str → Option Value) (ad : DA) (H : Hp) (kvs : List (Key × V)) (acc : List (Key × D)) : Prop := kvs.map Prod.fst = acc.map Prod.fst ∧ RepAll K mg ad H (kvs.map Prod.snd) (acc.map Prod.snd)
theorem Ent.len {kvs : List (Key × V)} {acc : List (Key × D)} (h : Ent K mg ad H kvs acc) : kvs.length = acc.length := by
  have := congrArg List.length h.1
  simpa using this
theorem Ent.any {k : Key} : ∀ {kvs : List (Key × V)} {acc : List (Key × D)}, Ent K mg ad H kvs acc → (kvs.any fun kv => decide (kv.1 = k)) = acc.any fun kv => decide (kv.1 = k)
  | [], [], _ => rfl
  | [], _ :: _, h => by simp [Ent] at h
  | _ :: _, [], h => by simp [Ent] at h
  | p :: kvs, q :: acc, ⟨h1, h2⟩ => by
    simp only [List.map_cons, List.cons.injEq] at h1
    rw [List.map_cons, List.map_cons] at h2
    cases h2 with
    | cons a b => rw [List.any_cons, List.any_cons, h1.1, Ent.any ⟨h1.2, b⟩]
theorem Ent.repl {k : Key} {v : V} {d : D} (r : Rep K mg ad H v d) : ∀ {kvs : List (Key × V)} {acc : List (Key × D)}, Ent K mg ad H kvs acc → Ent K mg ad H (kvs.map fun kv => if kv.1 = k then (kv.1, v) else kv) (acc.map fun kv => if kv.1 = k then (kv.1, d) else kv)
  | [], [], _ => ⟨rfl, .nil⟩
  | [], _ :: _, h => by simp [Ent] at h
  | _ :: _, [], h => by simp [Ent] at h
  | p :: kvs, q :: acc, ⟨h1, h2⟩ => by
    simp only [List.map_cons, List.cons.injEq] at h1
    rw [List.map_cons, List.map_cons] at h2
    cases h2 with
    | cons a b =>
      have ih := Ent.repl r (k := k) ⟨h1.2, b⟩
      have e := h1.1
      by_cases hk : p.1 = k
      · have hq : q.1 = k := e ▸ hk
        refine ⟨?_, ?_⟩
        · rw [List.map_cons, List.map_cons, List.map_cons, List.map_cons, if_pos hk, if_pos hq, ih.1, e]
        · rw [List.map_cons, List.map_cons, List.map_cons, List.map_cons, if_pos hk, if_pos hq]
          exact .cons r ih.2
      · have hq : ¬ q.1 = k := e ▸ hk
        refine ⟨?_, ?_⟩
        · rw [List.map_cons, List.map_cons, List.map_cons, List.map_cons, if_neg hk, if_neg hq, ih.1, e]
        · rw [List.map_cons, List.map_cons, List.map_cons, List.map_cons, if_neg hk, if_neg hq]
          exact .cons a ih.2
theorem Ent.put {kvs : List (Key × V)} {acc : List (Key × D)} {k : Key} {v : V} {d : D} (h : Ent K mg ad H kvs acc) (r : Rep K mg ad H v d) : Ent K mg ad H (putK kvs k v) (putG acc k d) := by
  unfold putK putG
  rw [h.any]
  split
  · exact h.repl r
  · refine ⟨?_, ?_⟩
    · rw [List.map_append, List.map_append, h.1]; rfl
    · rw [List.map_append, List.map_append]
      exact h.2.app (.cons r .nil)
theorem Ent.map {H' : Hp} {kvs : List (Key × V)} {acc : List (Key × D)} (h : Ent K mg ad H kvs acc) (f : RepAll K mg ad H (kvs.map Prod.snd) (acc.map Prod.snd) → RepAll K mg ad H' (kvs.map Prod.snd) (acc.map Prod.snd)) : Ent K mg ad H' kvs acc := ⟨h.1, f h.2⟩
end

/-! ### a dict is laid by -/
section
variable {X : Cx} {pins : List (Addr × Obj)} {σ : St} {H : Hp} {s : Shared}
theorem freezeD (I : Inv X pins σ H s) {a : Addr} {kvs : List (Key × V)} (e : H a = some (.dK kvs)) : ∃ o, Inv X pins σ (upd H a (.frz o (.dK kvs))) s := by
  obtain ⟨ob, eo⟩ : ∃ ob, s.heap.get? a = some ob := objOk_get (I.hok a _ e)
  have oth : ∀ b x, H b = some x → x ≠ .dK kvs → upd H a (.frz ob (.dK kvs)) b = some x := fun b x q n => by
    rw [upd_ne (fun z => by rw [z, e] at q; exact n (Option.some.inj q).symm)]; exact q
  have stay : ∀ {c : Addr} {o : HO}, ObjOk X.prog X.w H s.heap c o → ObjOk X.prog X.w (upd H a (.frz ob (.dK kvs))) s.heap c o := fun {c o} x =>
    x.stay (fun _ _ _ q => q) (fun _ q => oth _ _ q (by intro z; cases z)) (fun _ _ q => oth _ _ q (by intro z; cases z))
  refine ⟨ob, ghost I (fun c o q => ?_) (fun b q => ?_) (fun b xs q => oth _ _ (I.base.tups b xs q) (by intro z; cases z)) (fun b o u q => oth _ _ (I.base.frzs b o u q) (by intro z; cases z)) (fun b ps q => ?_)⟩
  · by_cases hc : c = a
    · subst hc
      rw [upd_same] at q
      cases q
      exact ⟨eo, stay (I.hok c _ e)⟩
    · rw [upd_ne hc] at q
      exact stay (I.hok c o q)
  · by_cases hc : b = a
    · subst hc; rw [e] at q; cases q
    · rw [upd_ne hc]; exact q
  · obtain ⟨m, q⟩ := I.base.tbls b ps q
    exact ⟨m, oth _ _ q (by intro z; cases z)⟩
end
/-- a new dict, not laid by yet -/
def RpD (K : PySem.W.Frag) (mg : Str → Option Value) : RpT V (List (Key × D)) := fun ad H H' v acc => ∃ a kvs, v = .ref a ∧ H a = none ∧ H' a = some (.dK kvs) ∧ Ent K mg ad H' kvs acc
def dctOf (acc : List (Key × D)) : D := .dct (acc.map fun p => keyD p.1) (acc.map Prod.snd)
section
variable {X : Cx} {W : WX} {B : List Nat}
theorem dE {e : Expr} {t : DSt → G → R (List (Key × D))} (h : PE X e (rd (RpD X.K X.mg) X.K X.mg W B t)) : PE X e (eE X.K X.mg W B (fun S g => (t S g).map dctOf)) := by
  refine ⟨fun pins s σ H Q I hq => ?_⟩
  obtain ⟨ad, S, g, sr, dk, po⟩ := hq
  refine thn (h.run pins s σ H (fun v H1 => ∃ f g', t S g = .ok f g' ∧ Keep ad H H1 ∧ DrawOk ad H1 g' ∧ RpD X.K X.mg ad H H1 v f) I ⟨ad, S, g, sr, dk, ?_⟩) fun u s1 ⟨v, H1, I1, r, f, g', ef, k1, d1, fr⟩ => ?_
  · cases r : t S g with
    | bad => simp only [r, R.map] at po; exact po
    | er x g' => simp only [r, R.map] at po; exact po
    | ok f g' => exact fun v H1 k1 d1 q => ⟨f, g', rfl, k1, d1, q⟩
  · rw [ef] at po
    obtain ⟨a, kvs, rfl, na, ea, en⟩ := fr
    have ne : a ≠ ad.ad := dk.ne na
    obtain ⟨ob, I2⟩ := freezeD I1 ea
    have up : ∀ b x, H1 b = some x → x ≠ .dK kvs → upd H1 a (.frz ob (.dK kvs)) b = some x := fun b x q n => by
      rw [upd_ne (fun z => by rw [z, ea] at q; exact n (Option.some.inj q).symm)]; exact q
    have pm : Perm H1 (upd H1 a (.frz ob (.dK kvs))) := ⟨fun b xs q => up _ _ q (by intro z; cases z), fun b o u q => up _ _ q (by intro z; cases z)⟩
    refine ⟨.ref a, _, I2, r, po _ _ (fun b o e n => ?_) (d1.at_ (fun xs e => by rw [upd_ne (Ne.symm ne)]; exact e) fun o u e => pm.frz _ _ _ e) ?_⟩
    · rw [upd_ne (fun z => by rw [z, na] at e; cases e)]; exact k1 b o e n
    · refine .dct ⟨ob, kvs, upd_same, ?_, rfl⟩ (en.2.perm pm)
      have := congrArg (List.map keyD) en.1
      rw [List.map_map, List.map_map] at this
      exact this.symm
end

/-! ### comprehensions -/
theorem dc_it {J : It} {n : Nat} {G : Hp → Prop} {Y : Nat → Hp → V → Hp → Prop} (w : Walk J n G Y) {g : TG} {tt : TT} {tk tv : TE} {vs : List Nat} {σ : St} {H1 : Hp} {D : Addr} {Qd : Hp → Prop} (Pv : Nat → Hp → Prop) (h0 : Pv 0 (upd H1 D (.dK []))) (hG : ∀ i H, i ≤ n → Pv i H → G H)
    (hs : ∀ i x H H', i < n → Pv i H → Y i H x H' → g x (wipe σ vs) H' fun σ2 H2 => wipe σ2 vs = wipe σ vs ∧ tt σ2 H2 fun b H3 =>
      if b = true then tk σ2 H3 fun y H4 => tv σ2 H4 fun z H5 => ∃ kvs k, y = kV k ∧ H5 D = some (.dK kvs) ∧ kvs.length < sizeLine ∧ Pv (i + 1) (upd H5 D (.dK (putK kvs k z))) else Pv (i + 1) H3) (hd : ∀ H, Pv n H → Qd H) :
    ∃ W : Nat → Nat → Hp → Prop, (∃ m, W 0 m (upd H1 D (.dK []))) ∧ ∀ i m H, W i m H →
      (J.stop i H ∧ Qd H) ∨ (J.go i H ∧ ∃ Nx : Hp → Prop, (∀ H', Nx H' → ∃ m', m' < m ∧ W (i + 1) m' H') ∧ ∀ x H', J.yld i H x H' → g x (wipe σ vs) H' fun σ2 H2 => wipe σ2 vs = wipe σ vs ∧ tt σ2 H2 fun b H3 =>
        if b = true then tk σ2 H3 fun y H4 => tv σ2 H4 fun z H5 => ∃ kvs k, y = kV k ∧ H5 D = some (.dK kvs) ∧ kvs.length < sizeLine ∧ Nx (upd H5 D (.dK (putK kvs k z))) else Nx H3) := by
  refine ⟨fun i m H => m = n - i ∧ i ≤ n ∧ Pv i H, ⟨n, by simp, Nat.zero_le _, h0⟩, ?_⟩
  rintro i m H ⟨rfl, hi, p⟩
  have q := hG i H hi p
  by_cases hlt : i < n
  · refine .inr ⟨w.goes i H hlt q, Pv (i + 1), fun H' p' => ⟨n - (i + 1), by omega, rfl, hlt, p'⟩, fun x H' y => hs i x H H' hlt p (w.yields i H x H' hlt q y)⟩
  · have e : i = n := by omega
    subst e
    exact .inl ⟨w.stops H q, hd H p⟩
/-- {k: v for tg in items if c}, keys ints or texts -/
def dctL (own : List Nat) (tg : Tgt) (c : BT) (ek ev : ET) (S : DSt) : List (Key × D) → List D → G → R (List (Key × D))
  | acc, [], g => .ok acc g
  | acc, d :: ds, g => match setD tg d (wipeD S own) with
    | none => .bad
    | some S1 => match c S1 g with
      | .ok true g1 => match ek S1 g1 with
        | .ok kd g2 => match keyOf kd with
          | some k => match ev S1 g2 with
            | .ok y g3 => dctL own tg c ek ev S (putG acc k y) ds g3
            | _ => .bad
          | none => .bad
        | _ => .bad
      | .ok false g1 => dctL own tg c ek ev S acc ds g1
      | _ => .bad
def xDct (own : List Nat) (tg : Tgt) (it : DSt → G → R (List D)) (c : BT) (ek ev : ET) : DSt → G → R (List (Key × D)) := fun S g => (it S g).bind fun ds g1 => dctL own tg c ek ev S [] ds g1
def eDct (own : List Nat) (tg : Tgt) (it : DSt → G → R (List D)) (c : BT) (ek ev : ET) : ET := fun S g => (xDct own tg it c ek ev S g).map dctOf
theorem dctL_er {own : List Nat} {tg : Tgt} {c : BT} {ek ev : ET} {S : DSt} : ∀ (ds : List D) (acc : List (Key × D)) (g : G) x g', dctL own tg c ek ev S acc ds g ≠ .er x g' := by
  intro ds
  induction ds with
  | nil => intro acc g x g' z; cases z
  | cons d ds ih =>
    intro acc g x g' z
    unfold dctL at z
    split at z
    · cases z
    · split at z
      · split at z
        · split at z
          · split at z
            · exact ih _ _ _ _ z
            · cases z
          · cases z
        · cases z
      · exact ih _ _ _ _ z
      · cases z
section
variable {K : PySem.W.Frag} {mg : Str → Option Value} {W : WX} {B Bi Bc Bk Bv : List Nat} {own : List Nat} {t : Tgt} {it : DSt → G → R (List D)} {c : BT} {ek ev : ET}
theorem dct_ap (hown : ∀ i ∈ t.is, i ∈ own) (hB : ∀ i ∈ Bc ++ (Bk ++ Bv), i ∈ own ∨ i ∈ B) : ∀ σ H Q, rd (RpD K mg) K mg W (Bi ++ B) (xDct own t it c ek ev) σ H Q →
    tDc (rdI K mg W Bi it) (gT K t) (eT K mg W0 Bc c) (eE K mg W0 Bk ek) (eE K mg W0 Bv ev) own σ H Q := fun σ H Q ⟨ad, S, g, h⟩ => by
  refine ⟨ad, S, g, h.sr.left, h.dk, ?_⟩
  have p := h.po
  unfold xDct at p
  cases r : it S g with
  | bad => simp only [r, R.bind] at p; exact p
  | er x g' => simp only [r, R.bind] at p; exact p
  | ok ds g1 =>
    simp only [r, R.bind] at p
    intro J H1 k1 d1 io Dd hDd
    obtain ⟨hz, Gd, Y, w, hG, hY⟩ := io
    cases rc : dctL own t c ek ev S [] ds g1 with
    | bad => simp only [rc] at p; exact p.elim
    | er x g' => exact absurd rc (dctL_er _ _ _ _ _)
    | ok ys gz =>
      simp only [rc] at p
      refine dc_it w (tt := eT K mg W0 Bc c) (tk := eE K mg W0 Bk ek) (tv := eE K mg W0 Bv ev) (fun i H2 => ∃ g2 kvs acc, H2 Dd = some (.dK kvs) ∧ Ent K mg ad H2 kvs acc ∧ kvs.length ≤ i ∧ DrawOk ad H2 g2 ∧ Keep ad H1 H2 ∧ dctL own t c ek ev S acc (ds.drop i) g2 = .ok ys gz)
        ⟨g1, [], [], upd_same, ⟨rfl, .nil⟩, Nat.le_refl _, d1.upd hDd, Keep.upd hDd, by rw [List.drop_zero]; exact rc⟩ (fun i H2 hi ⟨g2, kvs, acc, _, _, _, _, k2, _⟩ => hG H2 (k2.perm d1)) (fun i x H2 H3 hi ⟨g2, kvs, acc, eD, en, la, d2, k2, ec⟩ y => ?_) (fun H2 ⟨g2, kvs, acc, eD, en, la, d2, k2, ec⟩ => ?_)
      · obtain ⟨hH, d, ed, rdd⟩ := hY i H2 x H3 hi (k2.perm d1) y
        have k3 : Keep ad H2 H3 := by
          rcases hH with rfl | ⟨T, o, hT, rfl⟩
          · exact .refl _ _
          · exact Keep.upd hT
        have d3 : DrawOk ad H3 g2 := by
          rcases hH with rfl | ⟨T, o, hT, rfl⟩
          · exact d2
          · exact d2.upd hT
        have nD : Dd ≠ ad.ad := d1.ne hDd
        have edr : ds.drop i = d :: ds.drop (i + 1) := by
          obtain ⟨hl, e⟩ := List.getElem?_eq_some_iff.mp ed
          rw [List.drop_eq_getElem_cons hl, e]
        rw [edr] at ec
        unfold dctL at ec
        cases es : setD t d (wipeD S own) with
        | none => rw [es] at ec; cases ec
        | some S1 =>
          rw [es] at ec
          simp only at ec
          -- the slots of the block
          have srW : SR K mg ad H3 (B ++ own) (wipe σ own) (wipeD S own) := ⟨by rw [wipe_length, wipeD_len]; exact h.sr.1, fun j hj d' e' => by
            rw [wipeD_get] at e'
            by_cases hm : j ∈ own
            · rw [if_pos hm] at e'
              cases q : S[j]? with
              | none => rw [q] at e'; cases e'
              | some z => rw [q] at e'; cases e'
            · rw [if_neg hm] at e'
              have hjB : j ∈ B := (List.mem_append.mp hj).elim id fun z => absurd z hm
              obtain ⟨v, e1, r1⟩ := h.sr.right.2 j hjB d' e'
              exact ⟨v, by rw [wipe_get, if_neg hm]; exact e1, (r1.keep (k1.trans k2) h.dk).keep k3 d2⟩⟩
          refine gT_keep (gT_D rdd srW es (Q := fun σ' H' => H' = H3 ∧ ∃ C, (∀ i, i ∈ t.is ∨ i ∈ B ++ own → i ∈ C) ∧ SR K mg ad H3 C σ' S1) fun σ' C hC s => ⟨rfl, C, hC, s⟩) fun σ2 hk hl2 ⟨_, C, hC, s2⟩ => ⟨?_, ?_⟩
          · apply List.ext_getElem?
            intro j
            rw [wipe_get, wipe_get]
            by_cases hm : j ∈ own
            · rw [if_pos hm, if_pos hm]
              have e1 : σ2.length = σ.length := by rw [hl2, wipe_length]
              by_cases hj : j < σ.length
              · rw [List.getElem?_eq_getElem hj, List.getElem?_eq_getElem (by rw [e1]; exact hj)]
                rfl
              · rw [List.getElem?_eq_none (by omega), List.getElem?_eq_none (by omega)]
            · rw [if_neg hm, if_neg hm, hk j fun z => hm (hown j z), wipe_get, if_neg hm]
          · have hs : ∀ C', (∀ i ∈ C', i ∈ Bc ++ (Bk ++ Bv)) → SR K mg ad H3 C' σ2 S1 := fun C' hC' => ⟨s2.1, fun j hj => s2.2 j (hC j (.inr (by
              rcases hB j (hC' j hj) with z | z
              · exact List.mem_append_right _ z
              · exact List.mem_append_left _ z)))⟩
            refine ⟨ad, S1, g2, hs Bc (fun i hi => List.mem_append_left _ hi), d3, ?_⟩
            cases rcc : c S1 g2 with
            | bad => rw [rcc] at ec; cases ec
            | er x g' => rw [rcc] at ec; cases ec
            | ok bv g3 =>
              rw [rcc] at ec
              intro bv' H4 k4 d4 ebv
              subst ebv
              have kD : H4 Dd = some (.dK kvs) := k4 _ _ (k3 _ _ eD nD) nD
              cases bv' with
              | false =>
                refine iteF (A := eE K mg W0 Bk ek σ2 H4 _) ⟨g3, kvs, acc, kD, en.map fun ra => (ra.keep k3 d2).keep k4 d3, Nat.le_succ_of_le la, d4, (k2.trans k3).trans k4, ec⟩
              | true =>
                refine iteT (B := ∃ g2 kvs acc, _) ⟨ad, S1, g3, (hs Bk fun i hi => List.mem_append_right _ (List.mem_append_left _ hi)).keep k4 d3, d4, ?_⟩
                simp only at ec
                cases re : ek S1 g3 with
                | bad => rw [re] at ec; cases ec
                | er x g' => rw [re] at ec; cases ec
                | ok kd g5 =>
                  rw [re] at ec
                  simp only at ec
                  cases rk : keyOf kd with
                  | none => rw [rk] at ec; cases ec
                  | some k =>
                    rw [rk] at ec
                    simp only at ec
                    intro v H5 k5 d5 rv
                    refine ⟨ad, S1, g5, ((hs Bv fun i hi => List.mem_append_right _ (List.mem_append_right _ hi)).keep k4 d3).keep k5 d4, d5, ?_⟩
                    cases rz : ev S1 g5 with
                    | bad => rw [rz] at ec; cases ec
                    | er x g' => rw [rz] at ec; cases ec
                    | ok yv g6 =>
                      rw [rz] at ec
                      simp only at ec
                      intro z H6 k6 d6 rz
                      have kD5 : H6 Dd = some (.dK kvs) := k6 _ _ (k5 _ _ kD nD) nD
                      refine ⟨kvs, k, rep_key rv rk, kD5, by omega, ?_⟩
                      -- the dict grows
                      have up : ∀ {b o}, H6 b = some o → o ≠ .dK kvs → upd H6 Dd (.dK (putK kvs k z)) b = some o := fun {b o} e' n => by
                        rw [upd_ne (fun z => by rw [z, kD5] at e'; exact n (Option.some.inj e').symm)]; exact e'
                      have pm : Perm H6 (upd H6 Dd (.dK (putK kvs k z))) := ⟨fun a xs e' => up e' (by intro z; cases z), fun a o u e' => up e' (by intro z; cases z)⟩
                      have en6 : Ent K mg ad H6 kvs acc := en.map fun ra => ((ra.keep k3 d2).keep k4 d3).keep k5 d4 |>.keep k6 d5
                      refine ⟨g6, putK kvs k z, putG acc k yv, upd_same, (en6.put rz).map fun ra => ra.perm pm, by have := length_putK kvs k z; omega, d6.at_ (fun xs e' => by rw [upd_ne (Ne.symm nD)]; exact e') (fun o u e' => pm.frz _ _ _ e'), fun b o e' n => ?_, ec⟩
                      have bD : b ≠ Dd := fun z => by rw [z, hDd] at e'; cases e'
                      rw [upd_ne bD]
                      exact k6 _ _ (k5 _ _ (k4 _ _ (k3 _ _ (k2 _ _ e' n) n) n) n) n
      · rw [List.drop_length] at ec
        cases ec
        exact p _ H2 (k1.trans k2) d2 ⟨Dd, kvs, rfl, k1.free (d1.ne hDd) hDd, eD, en⟩
end
section
variable {X : Cx} {W : WX} {kx vx tg iter : Expr} {ifs : List Expr} {scope : Scope} {own : List (Str × Nat)} {pos : Pos} {Bi B Bc Bk Bv : List Nat} {t : Tgt} {it : DSt → G → R (List D)} {c : BT} {ek ev : ET}
theorem de_dct (hc : X.calm = true) (hN : X.N.Nodup) (ok : BlkOk X.N X.env.scope scope own) (hown : ∀ i ∈ t.is, i ∈ own.map (·.2)) (hB : ∀ i ∈ Bc ++ (Bk ++ Bv), i ∈ own.map (·.2) ∨ i ∈ B)
    (hi : PI X tg iter (rdI X.K X.mg W Bi it)) (hg : ∀ s H C cl fp, TgOk (Cx.bk X scope s H C cl fp) tg t) (ht : ∀ s H C cl fp, PTs (Cx.bk X scope s H C cl fp) ifs (eT X.K X.mg W0 Bc c)) (hk : ∀ s H C cl fp, PE (Cx.bk X scope s H C cl fp) kx (eE X.K X.mg W0 Bk ek)) (hv : ∀ s H C cl fp, PE (Cx.bk X scope s H C cl fp) vx (eE X.K X.mg W0 Bv ev))
    (hs : ∀ x, foldedSetIterable iter X.env x = pure x := by intro _; rfl) : PE X (.DictComp kx vx [⟨tg, iter, ifs, 0⟩] scope pos) (eE X.K X.mg W (Bi ++ B) (eDct (own.map (·.2)) t it c ek ev)) :=
  dE (PE.imp (pe_dc hc hN hi ok (fun s H C cl fp => (hg s H C cl fp).pg) ht hk hv hs) (dct_ap hown hB))
/-! ### d[k] -/
theorem ad_dget : ∀ (ad : DA) (H : Hp) (x y : V) (a b cd : D), Rep X.K X.mg ad H x a → Rep X.K X.mg ad H y b → dgetD a b = some cd → ∃ p v, x = .ref p ∧ DGet H p y (some v) ∧ Rep X.K X.mg ad H v cd := by
  intro ad H x y a b cd rx ry e
  cases rx with
  | dct s ra =>
    obtain ⟨o, kvs, h1, h2, h3⟩ := s
    subst h2 h3
    simp only [dgetD] at e
    cases hk : keyOf b with
    | none => rw [hk] at e; cases e
    | some k =>
      rw [hk] at e
      obtain ⟨v, e1, r1⟩ := dlook_val kvs _ k cd ra e
      exact ⟨_, v, rfl, .inl ⟨kvs, k, .inr ⟨o, h1⟩, rep_key ry hk, e1.symm⟩, r1⟩
  | _ => cases e
theorem de_dget {a b : Expr} {Ba Bb : List Nat} {ta tb : ET} {k : Nat} (hr : Room k X.A) (ha : PE X a (eE X.K X.mg W Ba ta)) (hb : PE X b (eE X.K X.mg W Bb tb)) (hs : NoSl b) : PE X (.Subscript a b pos) (eE X.K X.mg W (Ba ++ Bb) (dBin dgetD ta tb)) :=
  PE.imp (pe_dget (by have := hu_65 hr; omega) ha hb hs) fun σ H Q ⟨a0, S, g, h⟩ => by
    refine .mk ((h.bind (Rp1 := RpE X.K X.mg) bkE).imp fun x H1 ⟨a, g1, k1, d1, r1, h2⟩ => ?_)
    have h2 : At (RpE X.K X.mg) X.K X.mg W (Bb ++ []) (fun S g => (tb S g).bind fun b g1 => (fun b (_ : DSt) g => DI.lift (dgetD a b) g) b S g1) a0 S g1 σ H1 Q := by rw [List.append_nil]; exact h2
    refine .mk ((h2.bind (Rp1 := RpE X.K X.mg) bkE).imp fun y H2 ⟨c, g2, k2, d2, r2, h3⟩ => ?_)
    obtain ⟨z, e, q⟩ := At.lift (o := fun _ => dgetD a c) h3
    obtain ⟨p, v, e1, e2, r3⟩ := ad_dget a0 H2 x y a c z (r1.keep k2 d1) r2 e
    exact ⟨p, v, e1, e2, q v H2 (.refl _ _) d2 r3⟩
end
/-! ### draws nothing; how things come out -/
section
variable {t u : ET} {s : BT} {ts : DSt → G → R (List D)}
theorem un_dctL {own : List Nat} {tg : Tgt} {S : DSt} (hc : UnT s) (hk : UnT t) (hv : UnT u) : ∀ ds acc, UnR (dctL own tg s t u S acc ds)
  | [], _ => .ok _
  | d :: ds, acc => by
    show UnR fun g => dctL own tg s t u S acc (d :: ds) g
    unfold dctL
    cases setD tg d (wipeD S own) with
    | none => exact .bad
    | some S1 =>
      dsimp only
      rcases hc S1 with ⟨a, h⟩ | ⟨x, h⟩ | h
      · cases a with
        | false => simp only [h]; exact un_dctL hc hk hv ds acc
        | true =>
          simp only [h]
          rcases hk S1 with ⟨b, h2⟩ | ⟨x, h2⟩ | h2
          · simp only [h2]
            cases keyOf b with
            | none => exact .bad
            | some k =>
              dsimp only
              rcases hv S1 with ⟨y, h3⟩ | ⟨x, h3⟩ | h3
              · simp only [h3]; exact un_dctL hc hk hv ds _
              · simp only [h3]; exact .bad
              · simp only [h3]; exact .bad
          · simp only [h2]; exact .bad
          · simp only [h2]; exact .bad
      · simp only [h]; exact .bad
      · simp only [h]; exact .bad
theorem un_dct {own : List Nat} {tg : Tgt} (hi : UnT ts) (hc : UnT s) (hk : UnT t) (hv : UnT u) : UnT (eDct own tg ts s t u) := fun S => by
  show UnR fun g => (xDct own tg ts s t u S g).map dctOf
  unfold xDct
  exact ((hi S).bind fun ds => un_dctL hc hk hv ds []).map
end
theorem dctL_ok {α : Type} {own : List Nat} {tg : Tgt} {c : BT} {ek ev : ET} {S : DSt} {g : G} (dat : α → D) (f : α → Key × D) : ∀ (xs : List α) (acc : List (Key × D)), (∀ x ∈ xs, ∃ S1, setD tg (dat x) (wipeD S own) = some S1 ∧ c S1 g = .ok true g ∧ ek S1 g = .ok (keyD (f x).1) g ∧ ev S1 g = .ok (f x).2 g) →
    ((acc ++ xs.map f).map Prod.fst).Nodup → dctL own tg c ek ev S acc (xs.map dat) g = .ok (acc ++ xs.map f) g
  | [], acc, _, _ => by rw [List.map_nil, List.map_nil, List.append_nil]; rfl
  | x :: xs, acc, h, nd => by
    obtain ⟨S1, h1, h2, h3, h4⟩ := h x List.mem_cons_self
    rw [List.map_cons]
    unfold dctL
    simp only [h1, h2, h3, h4, keyOf_D]
    have hn : putG acc (f x).1 (f x).2 = acc ++ [f x] := putG_new _ fun kv hm e => by
      rw [List.map_append, List.nodup_append] at nd
      exact nd.2.2 _ (List.mem_map_of_mem hm) (f x).1 (by simp) e
    rw [hn, dctL_ok dat f xs (acc ++ [f x]) (fun y hy => h y (List.mem_cons_of_mem _ hy)) (by simpa using nd)]
    simp
theorem eDct_ok {α : Type} {own : List Nat} {tg : Tgt} {it : DSt → G → R (List D)} {c : BT} {ek ev : ET} {S : DSt} {g : G} (dat : α → D) (f : α → Key × D) {xs : List α} (hi : it S g = .ok (xs.map dat) g) (h : ∀ x ∈ xs, ∃ S1, setD tg (dat x) (wipeD S own) = some S1 ∧ c S1 g = .ok true g ∧ ek S1 g = .ok (keyD (f x).1) g ∧ ev S1 g = .ok (f x).2 g)
    (nd : (xs.map fun x => (f x).1).Nodup) : eDct own tg it c ek ev S g = .ok (dctOf (xs.map f)) g := by
  unfold eDct xDct
  rw [hi, R.bind_ok, dctL_ok dat f xs [] h (by simpa [List.map_map, Function.comp_def] using nd)]
  rfl
theorem dlook_nodup : ∀ (acc : List (Key × D)) (k : Key) (d : D), (acc.map Prod.fst).Nodup → (k, d) ∈ acc → dlook (acc.map fun p => keyD p.1) (acc.map Prod.snd) k = some d
  | [], _, _, _, h => by cases h
  | p :: acc, k, d, nd, h => by
    rw [List.map_cons, List.map_cons]
    unfold dlook
    rw [keyOf_D]
    rw [List.map_cons, List.nodup_cons] at nd
    rcases List.mem_cons.mp h with e | h
    · subst e; rw [if_pos rfl]
    · have hne : p.1 ≠ k := fun z => nd.1 (by rw [z]; exact List.mem_map_of_mem (f := Prod.fst) h)
      rw [if_neg fun z => hne (Option.some.inj z)]
      exact dlook_nodup acc k d nd.2 h

/-! len(set(xs)), xs a list or a tuple of tuples of whole numbers -/
section
variable {P : Program} {w : World} {A : Around} {E : Value → Shared → Prop} {s : Shared}
set_option maxHeartbeats 3200000 in
/-- set(xs), xs a tuple: as L2.call_set_tups for lists -/
theorem set_of_tup {l : Addr} {items : Array Value} (ks : List (Addr × List Int)) {Q : Value → Shared → Prop} (hh : A.handled = none) (hl : s.heap.IsTuple l items) (hit : items.toList = ks.map fun p => Value.ref p.1)
    (hk : ∀ p ∈ ks, IsT P w s.heap p.2 p.1) (hfew : ks.length < 64) (hu : A.units + 3 < cLine)
    (h : ∀ (h' : Heap) (tk : Nat) L es ep t, SetTR P w h' s.heap.objs.size L es ep t → Got ks ks.length L → (∀ b o, s.heap.get? b = some o → h'.get? b = some o) → Q (.ref s.heap.objs.size) { s with heap := h', toks := tk }) :
    wpAny (model P w) A (call (.type "set") [.ref l]) Q E s := by
  have nsz : items.size = ks.length := by
    rw [← Array.length_toList, hit, List.length_map]
  obtain ⟨c, tl, hmro⟩ := F.called_set.mro
  have hmade := F.called_set.made
  have hsub := F.called_set.sub
  refine wpAny_call (codeAny_of_tree ?_)
  show wpAny _ _ (callAny (.type "set") _) _ _ _
  refine wpAny_pure ⟨Code.quiet_builtin _ (by decide +kernel), codeAny_builtin F.entry_type_call ?_⟩
  rw [Around.under_plain (weight_type_call_type "set" [.ref l] []) rfl]
  have h1 := F.called_set.notType
  have h2 := F.called_set.canCreate
  have hct := F.typeCall_set_1 (.ref l)
  repeat (any_goals (first | assumption | wp_step))
  refine codeAny_mono (code_set_led1 (.ref l) (E := E) (Q₁ := fun ob s₁ => ob = .ref s.heap.objs.size ∧ s₁ = { s with heap := s.heap.push ({ cls := .type "set", dict := none, data := .set #[] 0 (.fresh 0 0 (!w.params.followText "set-order")) } : Obj) }) ⟨rfl, rfl⟩) fun r s₁ hr => ?_
  cases r with
  | error e => exact hr
  | ok fl =>
    cases fl with
    | ret ob =>
      obtain ⟨rfl, rfl⟩ := hr
      have gS : (s.heap.push ({ cls := .type "set", dict := none, data := .set #[] 0 (.fresh 0 0 (!w.params.followText "set-order")) } : Obj)).get? s.heap.objs.size = some ({ cls := .type "set", dict := none, data := .set #[] 0 (.fresh 0 0 (!w.params.followText "set-order")) } : Obj) := Heap.get?_push_size _ rfl
      have tS : Shared.TypeIs { s with heap := s.heap.push ({ cls := .type "set", dict := none, data := .set #[] 0 (.fresh 0 0 (!w.params.followText "set-order")) } : Obj) } (.ref s.heap.objs.size) "set" := ⟨_, gS, rfl⟩
      have hli := F.called_set.init.lookup
      have hbi := F.called_set.init.bind (.ref s.heap.objs.size)
      repeat (any_goals (first | assumption | wp_step))
      refine codeAny_mono (codeAny_call_builtin (R := wants (fun r s₂ => r = .none ∧ ∃ h' tk L es ep t, s₂ = { s with heap := h', toks := tk } ∧ SetTR P w h' s.heap.objs.size L es ep t ∧
          Got ks ks.length L ∧ (∀ b o, s.heap.get? b = some o → h'.get? b = some o)) E) F.called_set.init.plain F.entry_set_init (check_set_init_1 tS ?_)) fun r₂ s₂ hr₂ => ?_
      · obtain ⟨ol, hol, hcl, nl, hdl⟩ := hl
        obtain ⟨ocls, odict, odata, oslots⟩ := ol
        simp only at hcl hdl
        subst hcl; subst hdl
        have hol' : (s.heap.push ({ cls := .type "set", dict := none, data := .set #[] 0 (.fresh 0 0 (!w.params.followText "set-order")) } : Obj)).get? l = some { cls := .type "tuple", dict := odict, data := .seq items nl, slots := oslots } := Heap.get?_push_of_some _ hol
        have a1 := F.sub_tuple_set
        have a2 := F.sub_tuple_frozenset
        have a3 : (Value.type "tuple" == Value.type "dict") = false := by decide
        have tl1 : (s.heap.push ({ cls := .type "set", dict := none, data := .set #[] 0 (.fresh 0 0 (!w.params.followText "set-order")) } : Obj)).IsTuple l items := ⟨_, hol', rfl, nl, rfl⟩
        unfold Builtin.«set.__init__» noKeywords Builtin.Frozenset.updateFrom
        generalize hPI : pyIter = PI
        wp_walk
        subst hPI
        refine wpAny_pyIter_tuple tl1 ?_
        refine wpAny_bind (wpAny_runValue ?_)
        have lS : l < s.heap.objs.size := Heap.lt_size hol
        have hh3 : A.in1.in1.in1.handled = none := by simp [hh]
        have lI : l ≠ (s.heap.push ({ cls := .type "set", dict := none, data := .set #[] 0 (.fresh 0 0 (!w.params.followText "set-order")) } : Obj)).objs.size := by
          rw [Heap.size_push]
          exact Nat.ne_of_lt (Nat.lt_succ_of_lt lS)
        have nf : s.heap.objs.size ∉ [(s.heap.push ({ cls := .type "set", dict := none, data := .set #[] 0 (.fresh 0 0 (!w.params.followText "set-order")) } : Obj)).objs.size, l] := by
          rw [Heap.size_push]
          simp only [List.mem_cons, List.mem_singleton, List.not_mem_nil, or_false, not_or]
          exact ⟨Nat.ne_of_lt (Nat.lt_succ_self _), Nat.ne_of_gt lS⟩
        have vals : ∀ (i : Nat) (v : Value), items[i]? = some v → ∃ p, ks[i]? = some p ∧ v = .ref p.1 := fun i v hv => by
          rw [← Array.getElem?_toList, hit, List.getElem?_map] at hv
          cases q : ks[i]? with
          | none => rw [q] at hv; cases hv
          | some p => rw [q] at hv; cases hv; exact ⟨p, rfl, rfl⟩
        have behind : ∀ b, s.heap.objs.size ≤ b → s.heap.get? b = none := fun b hb => by
          cases q : s.heap.get? b with
          | none => rfl
          | some o => exact (Nat.lt_irrefl _ (Nat.lt_of_lt_of_le (Heap.lt_size q) hb)).elim
        refine set_update_tups ((Walks.tuple hh3 _ l lI items).toS) s.heap.objs.size
          nf ks nsz hfew vals s.heap hk (behind _ (Nat.le_refl _)) (fun b hb => behind b (by rw [List.mem_singleton.mp hb, Heap.size_push]; exact Nat.le_succ _)) hu (items.size - 0) 0 _ (by omega) (Nat.zero_le _)
          ⟨⟨_, Heap.get?_push_size _ rfl, rfl, rfl⟩, (tl1.push _)⟩ (fun b o e => Heap.get?_push_of_some _ (Heap.get?_push_of_some _ e)) ?S0 ?RR
        case S0 =>
          have gS2 : ((s.heap.push ({ cls := .type "set", dict := none, data := .set #[] 0 (.fresh 0 0 (!w.params.followText "set-order")) } : Obj)).push { cls := .type "tuple_iterator", data := .fields #[.ref l, .int 0 0] }).get? s.heap.objs.size = some ({ cls := .type "set", dict := none, data := .set #[] 0 (.fresh 0 0 (!w.params.followText "set-order")) } : Obj) := Heap.get?_push_of_some _ gS
          exact ⟨[], #[], 0, _, setTR_fresh gS2, Got.zero ks⟩
        case RR =>
          intro s' L es ep t hm sT got kp
          obtain ⟨h', g2, d', tk', os'⟩ := s'
          have q1 : g2 = s.gens := hm.gens
          have q2 : d' = s.drawn := hm.drawn
          have q3 : os' = s.os := hm.os
          subst q1; subst q2; subst q3
          show wpAny _ _ _ _ _ _
          refine wpAny_pure ?_
          show wpAny _ _ (ret Value.none) _ _ _
          rw [nsz] at got
          exact wpAny_pure ⟨rfl, h', tk', L, es, ep, t, rfl, sT, got, kp⟩
      · cases r₂ with
        | error e => exact hr₂
        | ok fl₂ =>
          cases fl₂ with
          | ret r =>
            obtain ⟨rfl, h', tk, L, es, ep, t, rfl, sT, got, kp⟩ := hr₂
            repeat (any_goals (first | assumption | wp_step))
            exact h _ _ _ _ _ _ sT got kp
          | _ => exact hr₂.elim
    | _ => exact hr.elim
end
section
variable {X : Cx}
/-- set(xs), xs a list or a tuple of tuples of ints -/
def rSetAny (K : PySem.W.Frag) (P : Program) (w : World) : List V → Hp → VK → Prop := fun xs H Q => ∃ (l : Addr) (ks : List (Addr × List Int)), xs = [V.ref l] ∧ (SqL K H l (ks.map fun p => V.ref p.1) ∨ SqT K H l (ks.map fun p => V.ref p.1)) ∧ (∀ p ∈ ks, SqT K H p.1 (p.2.map V.int)) ∧ ks.length < 64 ∧
  ∀ a L, H a = none → (∀ p ∈ L, p ∈ ks) → (∀ p ∈ ks, p.2 ∈ L.map (·.2)) → Q (.ref a) (upd H a (SetTO P w a L))
theorem cr_setAny (hc : X.calm = true) (hu : X.A.units + 64 < cLine) : CallR X (.type "set") (rSetAny X.K X.prog X.w) := by
  intro pins s σ H xs us Q I r h
  obtain ⟨l, ks, rfl, hl, hk, hf, q⟩ := h
  rcases hl with hl | hl
  · exact cr_setOfT hc hu pins s σ H _ us Q I r ⟨l, ks, rfl, hl, hk, hf, q⟩
  · rw [Vals.ref1 r]
    obtain ⟨its, rv, ⟨o, ho, hcl, n, hd⟩, hz⟩ := I.tuple hl
    have hn : H s.heap.objs.size = none := I.hok.fresh (Nat.le_refl _)
    refine set_of_tup (P := X.prog) (w := X.w) ks (I.ok.hd hc) (items := its.toArray) ⟨o, ho, hcl, n, hd⟩ (by simpa using refs_of_vals rv) (fun p hp => I.isT (hk p hp)) hf (by omega) fun h' tk L es ep t R g k => ?_
    refine ⟨.ref s.heap.objs.size, upd H s.heap.objs.size (SetTO X.prog X.w s.heap.objs.size L), I.laid (t' := tk) k (Nat.le_refl _) (setTO_new R.t0), rfl, q _ L hn (fun p hp => ?_) fun p hp => ?_⟩
    · exact List.mem_of_mem_take (g.sub p hp)
    · exact g.all p (by rw [List.take_length]; exact hp)
def rLenS (K : PySem.W.Frag) (P : Program) (w : World) : List V → Hp → VK → Prop := fun vs H Q => ∃ (a : Addr) (L : List (Addr × List Int)), vs = [V.ref a] ∧ H a = some (SetTO P w a L) ∧ (∀ p ∈ L, SqT K H p.1 (p.2.map V.int)) ∧ ((L.map (·.2)).Nodup → Q (.int L.length) H)
theorem cr_lenS : CallR X (.builtin "len") (rLenS X.K X.prog X.w) := by
  intro pins s σ H vs us Q I r h
  obtain ⟨a, L, rfl, ha, hk, q⟩ := h
  have R0 : SetT0 X.prog X.w s.heap a L := (I.hok a _ ha).1
  obtain ⟨es, ep, t, R⟩ := R0.full fun p hp => I.isT (hk p hp)
  rw [Vals.ref1 r]
  obtain ⟨o, ho, hex, hd⟩ := R.ob
  have hs := R.size
  have hf := R.few
  exact call_len_set ho hex hd R.fits (by rw [hs]; omega) ⟨.int L.length, H, I.tok _, ⟨_, by rw [hs]⟩, q R.nd⟩
end
/-! ### on data -/
def rowQ : D → Option (List Int)
  | .tup xs => intL xs
  | _ => none
def allRows : List D → Option (List (List Int))
  | [] => some []
  | d :: ds => (rowQ d).bind fun c => (allRows ds).map (c :: ·)
def ddR : List (List Int) → List (List Int)
  | [] => []
  | c :: cs => if c ∈ cs then ddR cs else c :: ddR cs
theorem mem_ddR : ∀ {cs : List (List Int)} {c : List Int}, c ∈ ddR cs ↔ c ∈ cs
  | [], _ => Iff.rfl
  | e :: cs, c => by
    unfold ddR
    split
    · rename_i h
      rw [mem_ddR, List.mem_cons]
      exact ⟨.inr, fun h2 => h2.elim (fun z => z ▸ h) id⟩
    · rw [List.mem_cons, List.mem_cons, mem_ddR]
theorem nodup_ddR : ∀ cs : List (List Int), (ddR cs).Nodup
  | [] => List.nodup_nil
  | c :: cs => by
    unfold ddR
    split
    · exact nodup_ddR cs
    · rename_i h
      exact List.nodup_cons.mpr ⟨fun z => h (mem_ddR.mp z), nodup_ddR cs⟩
theorem ddR_id : ∀ {cs : List (List Int)}, cs.Nodup → ddR cs = cs
  | [], _ => rfl
  | c :: cs, h => by
    rw [List.nodup_cons] at h
    unfold ddR
    rw [if_neg h.1, ddR_id h.2]
theorem ddR_le : ∀ cs : List (List Int), (ddR cs).length ≤ cs.length
  | [] => Nat.le_refl _
  | c :: cs => by
    unfold ddR
    have := ddR_le cs
    split
    · rw [List.length_cons]; omega
    · rw [List.length_cons, List.length_cons]; omega
theorem ddR_nodup : ∀ {cs : List (List Int)}, (ddR cs).length = cs.length → cs.Nodup
  | [], _ => List.nodup_nil
  | c :: cs, h => by
    unfold ddR at h
    have := ddR_le cs
    split at h
    · rw [List.length_cons] at h; omega
    · rename_i hn
      rw [List.length_cons, List.length_cons] at h
      exact List.nodup_cons.mpr ⟨hn, ddR_nodup (by omega)⟩
theorem len_same {l m : List (List Int)} (h1 : l.Nodup) (h2 : m.Nodup) (h : ∀ x, x ∈ l ↔ x ∈ m) : l.length = m.length := ((List.perm_ext_iff_of_nodup h1 h2).mpr h).length_eq
def lenSetL (ds : List D) : Option D := (allRows ds).bind fun cs => if cs.length < 64 then some (.int ((ddR cs).length : Nat)) else none
def lenSetD : List D → Option D
  | [.lst ds] => lenSetL ds
  | [.tup ds] => lenSetL ds
  | _ => none
section
variable {X : Cx} {K : PySem.W.Frag} {mg : Str → Option Value}
def rLS (K : PySem.W.Frag) (P : Program) (w : World) : List V → Hp → VK → Prop := fun vs H Q => rSetAny K P w vs H fun x H1 => rLenS K P w [x] H1 Q
theorem rows_of {ad : DA} {H : Hp} : ∀ {ds : List D} {cs : List (List Int)} {vs : List V}, allRows ds = some cs → RepAll K mg ad H vs ds →
    ∃ ks : List (Addr × List Int), vs = ks.map (fun p => V.ref p.1) ∧ ks.map (·.2) = cs ∧ ∀ p ∈ ks, SqT K H p.1 (p.2.map V.int) ∧ Rep K mg ad H (.ref p.1) (.tup (p.2.map D.int))
  | [], _, _, e, r => by
    cases e
    cases r
    exact ⟨[], rfl, rfl, fun _ h => (nomatch h)⟩
  | d :: ds, _, _, e, r => by
    unfold allRows at e
    obtain ⟨c, e1, e2⟩ := Option.bind_eq_some_iff.mp e
    obtain ⟨cs, e3, rfl⟩ := Option.map_eq_some_iff.mp e2
    cases r with
    | cons r1 r2 =>
      obtain ⟨ks, h1, h2, h3⟩ := rows_of e3 r2
      have r1' := r1
      cases d with
      | tup xs =>
        have ex : xs = c.map D.int := ints_eq e1
        subst ex
        cases r1 with
        | tup s ra =>
          rename_i a vs
          have ev : vs = c.map V.int := rep_ints ra
          subst ev
          refine ⟨(a, c) :: ks, by rw [List.map_cons, ← h1], by rw [List.map_cons, h2], fun p hp => ?_⟩
          rcases List.mem_cons.mp hp with rfl | hp
          · exact ⟨s.t, r1'⟩
          · exact h3 p hp
      | _ => cases e1
theorem ad_ls {P : Program} {w : World} : AdC (RpE K mg) K mg (rLS K P w) lenSetD := by
  have main : ∀ ad H g a xs ds c, DrawOk ad H g → (SqL K H a xs ∨ SqT K H a xs) → RepAll K mg ad H xs ds → lenSetL ds = some c → ∀ Q, (∀ v H', Keep ad H H' → DrawOk ad H' g → RpE K mg ad H H' v c → Q v H') → rLS K P w [.ref a] H Q := by
    intro ad H g a xs ds c dk hs ra e Q q
    obtain ⟨cs, e1, e2⟩ := Option.bind_eq_some_iff.mp e
    split at e2
    · rename_i hlen
      cases e2
      obtain ⟨ks, rfl, h2, h3⟩ := rows_of e1 ra
      refine ⟨a, ks, rfl, hs, fun p hp => (h3 p hp).1, ?_, fun b L hb hL1 hL2 => ?_⟩
      · have := congrArg List.length h2
        rw [List.length_map] at this
        omega
      · have k1 : Keep ad H (upd H b (SetTO P w b L)) := Keep.upd hb
        have d1 : DrawOk ad (upd H b (SetTO P w b L)) g := dk.upd hb
        refine ⟨b, L, rfl, upd_same, fun p hp => ?_, fun hnd => ?_⟩
        · have hr := (h3 p (hL1 p hp)).2.keep k1 dk
          obtain ⟨b2, ns⟩ := p
          dsimp only at hr ⊢
          cases hr with
          | tup s' ra' =>
            rename_i zs
            have ez : zs = ns.map V.int := rep_ints ra'
            subst ez
            exact s'.t
        · have el : L.length = (ddR cs).length := by
            rw [← List.length_map (f := fun p : Addr × List Int => p.2)]
            refine len_same hnd (nodup_ddR cs) fun x => ?_
            rw [mem_ddR]
            constructor
            · intro hx
              obtain ⟨p, hp, rfl⟩ := List.mem_map.mp hx
              rw [← h2]
              exact List.mem_map_of_mem (f := fun p : Addr × List Int => p.2) (hL1 p hp)
            · intro hx
              rw [← h2] at hx
              obtain ⟨p, hp, rfl⟩ := List.mem_map.mp hx
              exact hL2 p hp
          rw [el]
          exact q _ _ k1 d1 (.int _)
    · cases e2
  intro ad H g xs ds c dk r e Q q
  unfold lenSetD at e
  split at e
  · obtain ⟨x, rfl, rx⟩ := r.one
    cases rx with
    | lst s ra => exact main ad H g _ _ _ c dk (.inl s.l) ra e Q q
  · obtain ⟨x, rfl, rx⟩ := r.one
    cases rx with
    | tup s ra => exact main ad H g _ _ _ c dk (.inr s.t) ra e Q q
  · cases e
variable {e : Expr} {W : WX} {B : List Nat}
theorem dr_ls {p p2 pos q : Pos} {ts : DSt → G → DI.R (List D)} (hc : X.calm = true) (hu : X.A.units + 64 < cLine) (hg : Gl X "len") (hm : X.mg "len" = none) (hv : bootBuiltins "len" = some (.builtin "len")) (hg2 : Gl X "set") (hm2 : X.mg "set" = none) (hv2 : bootBuiltins "set" = some (.type "set")) (ha : PA X [e] (eA X.K X.mg W B ts))
    (he : starEach [e] X.env = (false, eval e X.env) :: starEach [] X.env := by rfl)
    (he2 : starEach [.Call (.Name "set" p2) [e] [] q] X.env = (false, eval (.Call (.Name "set" p2) [e] [] q) X.env) :: starEach [] X.env := by rfl) :
    PE X (.Call (.Name "len" p) [.Call (.Name "set" p2) [e] [] q] [] pos) (eE X.K X.mg W B (dCB lenSetD ts)) :=
  PE.imp (PE.imp (t' := tCB (rLS X.K X.prog X.w) _) (pe_callB cr_lenS hg hm hv (pa_cons (pe_callTy (cr_setAny hc hu) hg2 hm2 hv2 ha (by decide) (by decide) he rfl) pa_nil he2) (by decide) (by decide) he2 rfl) fun σ H Q h => h) (ad_ls.ap bkE)
end
theorem allRows_map : ∀ cs : List (List Int), allRows (cs.map fun c => .tup (c.map D.int)) = some cs
  | [] => rfl
  | c :: cs => by
    rw [List.map_cons]
    unfold allRows
    rw [allRows_map cs]
    show (intL (c.map D.int)).bind _ = _
    rw [ints_map]
    rfl
theorem lenSet_ok {cs : List (List Int)} (h : cs.length < 64) : lenSetD [.tup (cs.map fun c => .tup (c.map D.int))] = some (.int ((ddR cs).length : Nat)) := by
  show (allRows _).bind _ = _
  rw [allRows_map]
  show (if cs.length < 64 then _ else _) = _
  rw [if_pos h]

/-! xs.extend(e), e a list just made that may read xs -/
def sExt (i : Nat) (B : List Nat) (t : XT) : SB := fun S g => if isOwn S[i]? then match t (view S) g with
  | .ok f g' => match (post f B S)[i]? with
    | some (some (.own ds)) => match extD ds f.d with
      | some es => .nx ((post f B S).set i (some (.own es))) g'
      | none => .bad
    | _ => .bad
  | .er x g' => .er x (frzB B S) g'
  | .bad => .bad else .bad
/-- xs.extend(ys) -/
def rExtF (K : PySem.W.Frag) : V → List V → Hp → VK → Prop := fun x vs H Q => ∃ l b xs zs, x = .ref l ∧ vs = [.ref b] ∧ H l = some (.lst xs) ∧ (H b = some (.lst zs) ∨ SqP K H b zs) ∧ xs.length + zs.length ≤ sizeLine ∧ Q .non (upd H l (.lst (xs ++ zs)))
section
variable {X : Cx}
theorem mt_extF : MtR X "list.extend" (rExtF X.K) := by
  intro pins s σ H x vs v us Q I rx rv h
  obtain ⟨l, b, xs, zs, rfl, rfl, hH, hB, hz, q⟩ := h
  rcases hB with hB | hB
  · cases rx
    obtain ⟨u, rfl, ru⟩ := rv.one
    cases ru
    obtain ⟨z, its, n, r, hl, e⟩ := I.lstM hH
    obtain ⟨z2, its2, n2, r2, hl2, e2⟩ := I.lstM hB
    have hsz : its.toArray.size + its2.toArray.size ≤ sizeLine := by rw [List.size_toArray, List.size_toArray]; omega
    have hlong : ¬ (!its.toArray.isEmpty && Builtin.List.listTooLong (its.toArray.size + its2.toArray.size)) = true := by
      rw [notLongL hsz, Bool.and_false]
      exact Bool.false_ne_true
    refine call_meets F.slot_list_extend ⟨_, e, rfl⟩ F.entry_list_extend (F.args_list_extend_2 _ _)
      (AutoSeq1.list_extend_list_list_0 l its.toArray n b its2.toArray n2 hlong (by rw [List.size_toArray]; omega) (by omega)) ⟨e, e2, ?_⟩
    refine ⟨.non, _, I.lset (its' := its ++ its2) hH e (by simp) (r.append r2) ?_, rfl, q⟩
    rw [List.length_append]
    omega
  · exact mt_extP pins s σ H _ _ v us Q I rx rv ⟨l, b, xs, zs, rfl, rfl, hH, hB, hz, q⟩
variable {W : WX} {B : List Nat} {e : Expr} {u : XT} {pos : Pos}
theorem ds_ext {i : Nat} {x : Str} {px apos cpos : Pos} (hN : X.N[i]? = some x) (hv : Vis X.env.scope x) (he : PE X e (eX X.K X.mg W B u)) (hd : (x == ("__debug__" : Str)) = false := by decide) (hcd : (x == ("__classdict__" : Str)) = false := by decide)
    (hbase : attributeBase (.Name x px) "extend" X.env (eval (.Name x px) X.env) = eval (.Name x px) X.env := by rfl)
    (hfew : ((backTo cpos (starEach [e] X.env)).all (fun x => !x.1) && (backToKw cpos (keywordEach [] X.env)).all (fun x => x.1.isSome)
      && decide ([e].length + ([] : List Keyword).length + (if ([] : List Keyword).isEmpty then 0 else 1) < 30)) = true := by rfl)
    (hline : (apos.endLine == cpos.line) = true := by rfl) (hs : starEach [e] X.env = (false, eval e X.env) :: starEach [] X.env := by rfl) (hplain : (backTo cpos (starEach [] X.env)).any (·.1) = false := by rfl) (hsw : swapsWith (.Call (.Attribute (.Name x px) "extend" apos) [e] [] cpos) none pos.line X.env = pure false := by rfl) :
    SD X W (.Expr (.Call (.Attribute (.Name x px) "extend" apos) [e] [] cpos) pos) (sExt i B u) := PS.imp (ps_expr (pe_bm PySem.F.plainAttrs_list PySem.F.slot_list_extend PySem.F.type_list_extend mt_extF (pe_var hN hv hd hcd) (pa_cons (brw he) pa_nil hs) hbase hfew hline hs hplain) hsw) fun D σ H ⟨a0, S, g, h⟩ => by
  have p := h.po
  unfold sExt at p
  cases ho : isOwn S[i]? with
  | false => rw [ho, if_neg Bool.false_ne_true] at p; exact p.elim
  | true =>
  rw [ho, if_pos rfl] at p
  obtain ⟨ds0, e0⟩ : ∃ ds, S[i]? = some (some (SV.own ds)) := by
    unfold isOwn at ho
    split at ho
    · exact ⟨_, by assumption⟩
    · cases ho
  obtain ⟨a, vs0, ea, eH, _⟩ := h.sr.own i ds0 e0
  refine ⟨.ref a, ea, .inl ⟨rfl, _, .of eH⟩, a0, S, g, h.sr, h.dk, ?_⟩
  show pstB X.K X.mg X.H_0 a0 H σ S B _ _ (u (view S) g)
  cases r0 : u (view S) g with
  | bad => rw [r0] at p; exact p.elim
  | er y g' => rw [r0] at p; exact fun c dd H' k sr dk q => p c dd _ H' k sr dk q
  | ok f g' =>
    rw [r0] at p
    simp only at p
    split at p
    · rename_i ds eds
      split at p
      · rename_i es ef
        intro v H1 k1 sr1 dk1 fr
        obtain ⟨a', vs, f1, f2, f3, f4, f5⟩ := sr1.own i ds eds
        rw [ea] at f1; cases f1
        have fin : ∀ (b : Addr) (zs : List V) (qs : List DI.D), v = .ref b → (H1 b = some (.lst zs) ∨ SqP X.K H1 b zs) → RepAll X.K X.mg a0 H1 zs qs → extD ds (.lst qs) = some es → ∀ Q : VK, (D.nx σ (upd H1 a (.lst (vs ++ zs))) → Q .non (upd H1 a (.lst (vs ++ zs)))) → rExtF X.K (.ref a) [v] H1 Q := fun b zs qs ev hb rz eq Q hQ => by
          unfold extD at eq
          dsimp only at eq
          split at eq
          · rename_i hlen
            cases eq
            exact ⟨a, b, vs, zs, rfl, by rw [ev], f2, hb, by rw [f3.len, rz.len]; exact hlen, hQ (p σ _ (k1.trans (perm_lst f2)) (sr1.mut eds ea f2 (f3.app rz)) (dk1.mut f2 f5))⟩
          · cases eq
        cases f with
        | f qs =>
          obtain ⟨_, _, b, zs, ev, hb, rz, _⟩ := fr
          exact fin b zs qs ev (.inl hb) rz ef (fun _ H1 => D.nx σ H1) fun z => z
        | v d =>
          cases d with
          | lst qs =>
            cases fr.rep with
            | lst sq rz =>
              exact fin _ _ qs rfl (.inr sq) rz ef (fun _ H1 => D.nx σ H1) fun z => z
          | _ => cases ef
      · exact p.elim
    · exact p.elim
end
theorem us_ext {i : Nat} {B : List Nat} {u : XT} (h : UnT u) : UnS (sExt i B u) := fun S => by
  unfold sExt
  cases isOwn S[i]? with
  | false => exact .bad
  | true =>
    simp only [if_true]
    rcases h (view S) with ⟨f, h⟩ | ⟨y, h⟩ | h
    · simp only [h]
      cases (post f B S)[i]? with
      | none => exact .bad
      | some x =>
        cases x with
        | none => exact .bad
        | some x =>
          cases x with
          | own ds =>
            dsimp only
            cases extD ds f.d with
            | none => exact .bad
            | some es => exact .nx _
          | _ => exact .bad
    · simp only [h]; exact .er _ _
    · simp only [h]; exact .bad
theorem sExt_ok {i : Nat} {B : List Nat} {t : XT} {S : SS} {g g' : G} {ds es : List D} (h : t (view S) g = .ok (.f es) g') (hn : nolAll es = true) (hS : S[i]? = some (some (.own ds))) (hl : ds.length + es.length ≤ 1000) : sExt i B t S g = .nx (S.set i (some (.own (ds ++ es)))) g' := by
  have hp : post (.f es) B S = S := by unfold post; rw [if_pos (show Fv.nol (.f es) = true from hn)]
  unfold sExt
  rw [hS, if_pos (show isOwn (some (some (SV.own ds))) = true from rfl), h]
  dsimp only
  rw [hp, hS]
  dsimp only
  have : extD ds (Fv.f es).d = some (ds ++ es) := by
    unfold extD Fv.d
    dsimp only
    rw [if_pos (Nat.le_of_lt (small1000 hl))]
  rw [this]

def tp (i : Nat) : Stmt := PySem.Challenge.pw_gamekinds_k78_whole_where_copying_leads.main.body.getD i (.Pass ⟨0, 0, 0, 0⟩)
def c_MOST_HOLDERS : D := (.int 6)
def c_MOST_LINES : D := (.int 4)
def c_MOST_WORTH : D := (.int 100)
def sub_Malformed : Str → Option Bool := fun y => if y = "Malformed" then some true else  none
abbrev m__law_take : MT := mTake
def b__law_table_1 : SB := (sSeq (sIf ([2] ++ []) (tOf (dBin eqD (eVar 2) (eC (.int 1))))
 (sPut 4 (dBin modD (dBin subD (eVar 6) (eVar 5)) (eVar 1)) (eVar 5) (eVar 6))
 sSkip)
 (sSeq (sIf (([2] ++ []) ++ ([5] ++ [])) (tAndD (tOf (dBin eqD (eVar 2) (eC (.int 2)))) (tOf (dBin eqD (eVar 5) (eC (.int 0)))))
 (sPut 4 (eVar 3) (eVar 5) (eVar 6))
 sSkip)
 (sSeq (sIf ([2] ++ []) (tOf (dBin eqD (eVar 2) (eC (.int 3))))
 (sPut 4 (dBin idxD (dBin idxD (eVar 4) (dCB min2D (aCons (eVar 5) (aCons (eVar 6) aNil)))) (dCB max2D (aCons (eVar 5) (aCons (eVar 6) aNil)))) (eVar 5) (eVar 6))
 sSkip)
 (sIf (([2] ++ []) ++ ([5] ++ [6])) (tAndD (tOf (dBin eqD (eVar 2) (eC (.int 4)))) (tOf (dBin eqD (eVar 5) (eVar 6))))
 (sPut 4 (dBin subD (eVar 3) (dBin mulD (eC (.int 2)) (dBin modD (eVar 5) (eC (.int 2))))) (eVar 5) (eVar 6))
 sSkip))))
def b__law_table_2 : SB := (sFor false (.nm 6) ([1] ++ []) (iRange1 (aCons (eVar 1) aNil))
 b__law_table_1)
def b__law_table : SB := (sSeq (sSetAll [1, 2] (([] ++ ([0] ++ ([] ++ []))) ++ (([0] ++ ([] ++ [])) ++ [])) (axCons (dBin addD (eC (.int 1)) (eCalls 2 m__law_take (aCons (eVar 0) (aCons (eC (.int 4)) aNil)))) (axCons (xV (eCalls 2 m__law_take (aCons (eVar 0) (aCons (eC (.int 5)) aNil)))) axNil)))
 (sSeq (sSet 3 (([] ++ ([] ++ ([] ++ ([] ++ [])))) ++ ([0] ++ ([] ++ []))) (xV (dBin idxD (eF (xLst (aCons (eC (.int 2)) (aCons (eC (.int 4)) (aCons (eC (.int 9)) (aCons (eC (.int 40)) aNil)))))) (eCalls 2 m__law_take (aCons (eVar 0) (aCons (eC (.int 4)) aNil))))))
 (sSeq (sSetM 4 (([1] ++ []) ++ [0, 1, 3]) (xCompM [5] (.nm 5) (iRange1 (aCons (eVar 1) aNil)) tTrue (xComp [6] (.nm 6) (iRange1 (aCons (eVar 1) aNil)) tTrue (dBin subD (eCalls 2 m__law_take (aCons (eVar 0) (aCons (eF (dBin addD (dBin mulD (eC (.int 2)) (eVar 3)) (eC (.int 1)))) aNil))) (eVar 3)))))
 (sSeq (sFor false (.nm 5) ([1] ++ []) (iRange1 (aCons (eVar 1) aNil))
 b__law_table_2)
 (sRet (([4] ++ []) ++ []) (dCB tupOfD (aCons (eF (xComp [7] (.nm 7) (iItems (eVar 4)) tTrue (dCB tupOfD (aCons (eVar 7) aNil)))) aNil)))))))
def m__law_table : MT := runD 8 1 b__law_table
def b__law_crowd_1 : SB := (sSeq (sSet 5 ([0] ++ ([1] ++ [])) (xV (eCalls 2 m__law_take (aCons (eVar 0) (aCons (eVar 1) aNil)))))
 (sIx 3 (dBin addD (dBin idxD (eVar 3) (eVar 5)) (eC (.int 1))) (eVar 5)))
def b__law_crowd : SB := (sSeq (sSetAll [2, 3] (([] ++ ([0] ++ ([] ++ []))) ++ ((([] ++ []) ++ [1]) ++ [])) (axCons (dBin addD (eC (.int 2)) (eCalls 2 m__law_take (aCons (eVar 0) (aCons (eC (.int 5)) aNil)))) (axCons (dBin mulX (eF (xLst (aCons (eC (.int 0)) aNil))) (eVar 1)) axNil)))
 (sSeq (sFor false (.nm 4) ([2] ++ []) (iRange1 (aCons (eVar 2) aNil))
 b__law_crowd_1)
 (sRet ([3] ++ []) (dCB tupOfD (aCons (eVar 3) aNil)))))
def m__law_crowd : MT := runD 6 2 b__law_crowd
def b__law_sum_1 : SB := (sSet 3 ([3] ++ (([1] ++ [4]) ++ (([0] ++ [2]) ++ [4]))) (dBin addD (eVar 3) (dBin mulD (dBin idxD (eVar 1) (eVar 4)) (dBin idxD (dBin idxD (eVar 0) (eVar 2)) (eVar 4)))))
def b__law_sum : SB := (sSeq (sSet 3 ([] ++ (([0] ++ [2]) ++ [2])) (xV (dBin subD (eC (.int 0)) (dBin idxD (dBin idxD (eVar 0) (eVar 2)) (eVar 2)))))
 (sSeq (sFor false (.nm 4) (([0] ++ []) ++ []) (iRange1 (aCons (dCB lenD (aCons (eVar 0) aNil)) aNil))
 b__law_sum_1)
 (sRet [3] (eVar 3))))
def m__law_sum : MT := runD 5 3 b__law_sum
def b__law_other : SB := (sRet (((([0] ++ []) ++ []) ++ [0, 1, 2]) ++ []) (dCB tupOfD (aCons (eF (xComp [3] (.nm 3) (iRange1 (aCons (dCB lenD (aCons (eVar 0) aNil)) aNil)) tTrue (eF (dBin addD (dBin subD (dBin idxD (eVar 0) (eVar 3)) (dCB intOfD (aCons (dBin eqD (eVar 3) (eVar 1)) aNil))) (dCB intOfD (aCons (dBin eqD (eVar 3) (eVar 2)) aNil)))))) aNil)))
def m__law_other : MT := runD 4 3 b__law_other
def b__law_copies_1 : SB := (sSet 3 ([3] ++ ([2] ++ [0, 1, 4])) (dBin addD (eVar 3) (eF (xComp [6] (.nm 6) (iItems (eVar 2)) (tOf (dBin (ltI fun i j => decide (j < i)) (eCalls 3 m__law_sum (aCons (eVar 0) (aCons (eVar 1) (aCons (eVar 6) aNil)))) (eCalls 3 m__law_sum (aCons (eVar 0) (aCons (eVar 1) (aCons (eVar 4) aNil)))))) (eCalls 3 m__law_other (aCons (eVar 1) (aCons (eVar 4) (aCons (eVar 6) aNil))))))))
def b__law_copies : SB := (sSeq (sSetAll [2, 3] (((([0] ++ []) ++ []) ++ [1]) ++ ([] ++ [])) (axCons (xComp [5] (.nm 5) (iRange1 (aCons (dCB lenD (aCons (eVar 0) aNil)) aNil)) (tOf (dBin (ltI fun i j => decide (j < i)) (dBin idxD (eVar 1) (eVar 5)) (eC (.int 0)))) (eVar 5)) (axCons (xLst aNil) axNil)))
 (sSeq (sFor true (.nm 4) [2] (iItems (eVar 2))
 b__law_copies_1)
 (sRet ([3] ++ []) (eF (dCB sortD (aCons (eVar 3) aNil))))))
def m__law_copies : MT := runD 7 2 b__law_copies
def b__law_spread_1 : SB := (sSeq (sSet 2 ([2] ++ (([0] ++ (([2] ++ [3]) ++ [])) ++ [2])) (dBin addD (eVar 2) (eF (xComp [4] (.nm 4) (iItems (eCalls 2 m__law_copies (aCons (eVar 0) (aCons (dBin idxD (eVar 2) (eVar 3)) aNil)))) (tOf (dBin notInD (eVar 4) (eVar 2))) (eVar 4)))))
 (sSet 3 ([3] ++ []) (dBin addD (eVar 3) (eC (.int 1)))))
def b__law_spread : SB := (sSeq (sSetAll [2, 3] (([1] ++ []) ++ ([] ++ [])) (axCons (xLst (aCons (eVar 1) aNil)) (axCons (xV (eC (.int 0))) axNil)))
 (sSeq (whileL ([3] ++ ([2] ++ [])) (tOf (dBin (ltI fun i j => decide (i < j)) (eVar 3) (dCB lenD (aCons (eVar 2) aNil))))
 b__law_spread_1 100)
 (sRet [2] (eVar 2))))
def m__law_spread : MT := runD 5 2 b__law_spread
def b_is_whole : SB := (sRet ([0] ++ [0]) (eAnd (dUn (isiD "int") (eVar 0)) (eNot (dUn (isiD "bool") (eVar 0)))))
def m_is_whole : MT := runD 1 1 b_is_whole
def b_is_table : SB := (sSeq (sIf ([0] ++ (([0] ++ []) ++ [1])) (tOrD (tNotD (tTru (dUn (isiD "tuple") (eVar 0)))) (tOf (dBin neD (dCB lenD (aCons (eVar 0) aNil)) (eVar 1))))
 (sRet [] (eC (.bl false)))
 sSkip)
 (sSeq (sIf (([0] ++ [2]) ++ []) (tNotD (tTru (dCB allD (aCons (eF (xComp [3] (.nm 3) (iItems (eVar 0)) tTrue (eAnd (dUn (isiD "tuple") (eVar 3)) (dBin eqD (dCB lenD (aCons (eVar 3) aNil)) (eVar 2))))) aNil))))
 (sRet [] (eC (.bl false)))
 sSkip)
 (sRet (([0] ++ []) ++ []) (dCB allD (aCons (eF (xComp2 [3, 4] [4] (.nm 3) (iItems (eVar 0)) tTrue (iItems (eVar 3)) (.nm 4) tTrue (eAnd (eCalls 1 m_is_whole (aCons (eVar 4) aNil)) (eChain (ltI fun i j => decide (i ≤ j)) (ltI fun i j => decide (i ≤ j)) (dUn negD (eC c_MOST_WORTH)) (eVar 4) (eC c_MOST_WORTH))))) aNil)))))
def m_is_table : MT := runD 5 3 b_is_table
def b_is_square : SB := (sSeq (sIf ([0] ++ ([] ++ (([0] ++ []) ++ []))) (tOrD (tNotD (tTru (dUn (isiD "tuple") (eVar 0)))) (tNotD (tOf (eChain (ltI fun i j => decide (i ≤ j)) (ltI fun i j => decide (i ≤ j)) (eC (.int 1)) (dCB lenD (aCons (eVar 0) aNil)) (eC c_MOST_LINES)))))
 (sRet [] (eC (.bl false)))
 sSkip)
 (sRet ([0] ++ (([0] ++ []) ++ (([0] ++ []) ++ []))) (eCalls 3 m_is_table (aCons (eVar 0) (aCons (dCB lenD (aCons (eVar 0) aNil)) (aCons (dCB lenD (aCons (eVar 0) aNil)) aNil))))))
def m_is_square : MT := runD 1 1 b_is_square
def b_check_square : SB := (sIf ([0] ++ []) (tNotD (tTru (eCalls 1 m_is_square (aCons (eVar 0) aNil))))
 (sRaise "Malformed")
 sSkip)
def m_check_square : MT := runD 1 1 b_check_square
def b_is_crowd : SB := (sSeq (sIf ([1] ++ ((([1] ++ []) ++ ([0] ++ [])) ++ (([1] ++ []) ++ []))) (tOrD (tNotD (tTru (dUn (isiD "tuple") (eVar 1)))) (tOrD (tOf (dBin neD (dCB lenD (aCons (eVar 1) aNil)) (dCB lenD (aCons (eVar 0) aNil)))) (tNotD (tTru (dCB allD (aCons (eF (xComp [2] (.nm 2) (iItems (eVar 1)) tTrue (eAnd (eCalls 1 m_is_whole (aCons (eVar 2) aNil)) (dBin (ltI fun i j => decide (j ≤ i)) (eVar 2) (eC (.int 0)))))) aNil))))))
 (sRet [] (eC (.bl false)))
 sSkip)
 (sRet ([] ++ (([1] ++ []) ++ [])) (eChain (ltI fun i j => decide (i ≤ j)) (ltI fun i j => decide (i ≤ j)) (eC (.int 2)) (dCB sumA (aCons (eVar 1) aNil)) (eC c_MOST_HOLDERS))))
def m_is_crowd : MT := runD 3 2 b_is_crowd
def b_check_crowd : SB := (sIf ([0] ++ ([1] ++ [])) (tNotD (tTru (eCalls 2 m_is_crowd (aCons (eVar 0) (aCons (eVar 1) aNil)))))
 (sRaise "Malformed")
 sSkip)
def m_check_crowd : MT := runD 2 2 b_check_crowd
def b_held : SB := (sRet (([0] ++ []) ++ []) (eF (xComp [1, 2] (.tp [1, 2]) (iEnumD (eVar 0)) (tOf (dBin (ltI fun i j => decide (j < i)) (eVar 2) (eC (.int 0)))) (eVar 1))))
def m_held : MT := runD 3 1 b_held
def b_sum_for : SB := (sRet (((([1] ++ (([0] ++ [2]) ++ [])) ++ []) ++ []) ++ (([0] ++ [2]) ++ [2])) (dBin subD (dCB sumA (aCons (eF (xComp [3, 4] (.tp [3, 4]) (iZipD (aCons (eVar 1) (aCons (dBin idxD (eVar 0) (eVar 2)) aNil))) tTrue (dBin mulD (eVar 3) (eVar 4)))) aNil)) (dBin idxD (dBin idxD (eVar 0) (eVar 2)) (eVar 2))))
def m_sum_for : MT := runD 5 3 b_sum_for
def b_moved : SB := (sSeq (sSet 3 ([0] ++ []) (dCB lstOfD (aCons (eVar 0) aNil)))
 (sSeq (sAugIx 3 (fun i j : Int => i - j) (eC (.int 1)) (eVar 1))
 (sSeq (sAugIx 3 (fun i j : Int => i + j) (eC (.int 1)) (eVar 2))
 (sRet ([3] ++ []) (dCB tupOfD (aCons (eVar 3) aNil))))))
def m_moved : MT := runD 4 3 b_moved
def b_copies_of : SB := (sSeq (sSet 2 ([1] ++ []) (xV (eCalls 1 m_held (aCons (eVar 1) aNil))))
 (sSeq (sSet 3 ([2] ++ [0, 1]) (xV (eDct [5] (.nm 5) (iItems (eVar 2)) tTrue (eVar 5) (eCalls 3 m_sum_for (aCons (eVar 0) (aCons (eVar 1) (aCons (eVar 5) aNil)))))))
 (sSeq (sSet 4 ([2] ++ [2, 3]) (xComp2 [6, 7] [7] (.nm 6) (iItems (eVar 2)) tTrue (iItems (eVar 2)) (.nm 7) (tOf (dBin (ltI fun i j => decide (j < i)) (dBin dgetD (eVar 3) (eVar 7)) (dBin dgetD (eVar 3) (eVar 6)))) (eTup (aCons (eVar 6) (aCons (eVar 7) aNil)))))
 (sRet (([4] ++ [1]) ++ []) (eF (dCB sortD (aCons (eF (xComp [6, 7] (.tp [6, 7]) (iItems (eVar 4)) tTrue (eCalls 3 m_moved (aCons (eVar 1) (aCons (eVar 6) (aCons (eVar 7) aNil)))))) aNil)))))))
def m_copies_of : MT := runD 8 2 b_copies_of
def b_reached_by_1 : SB := (sSeq (sExt 2 (([0] ++ (([2] ++ [3]) ++ [])) ++ [2]) (xComp [4] (.nm 4) (iItems (eCalls 2 m_copies_of (aCons (eVar 0) (aCons (dBin idxD (eVar 2) (eVar 3)) aNil)))) (tOf (dBin notInD (eVar 4) (eVar 2))) (eVar 4)))
 (sAugI 3 [] (eC (.int 1))))
def b_reached_by : SB := (sSeq (sSetAll [2, 3] (([1] ++ []) ++ ([] ++ [])) (axCons (xLst (aCons (eVar 1) aNil)) (axCons (xV (eC (.int 0))) axNil)))
 (sSeq (whileL ([3] ++ ([2] ++ [])) (tOf (dBin (ltI fun i j => decide (i < j)) (eVar 3) (dCB lenD (aCons (eVar 2) aNil))))
 b_reached_by_1 100)
 (sRet [2] (eVar 2))))
def m_reached_by : MT := runD 5 2 b_reached_by
def b_copy_ends : SB := (sSeq (sExpr ([0] ++ []) (eCalls 1 m_check_square (aCons (eVar 0) aNil)))
 (sSeq (sExpr ([0] ++ ([1] ++ [])) (eCalls 2 m_check_crowd (aCons (eVar 0) (aCons (eVar 1) aNil))))
 (sRet (((([0] ++ ([1] ++ [])) ++ [0]) ++ []) ++ []) (dCB tupOfD (aCons (eF (dCB sortD (aCons (eF (xComp [2] (.nm 2) (iItems (eCalls 2 m_reached_by (aCons (eVar 0) (aCons (eVar 1) aNil)))) (tOf (dBin eqD (dCB lenD (aCons (eCalls 2 m_copies_of (aCons (eVar 0) (aCons (eVar 2) aNil))) aNil)) (eC (.int 0)))) (eVar 2))) aNil))) aNil)))))
def m_copy_ends : MT := runD 3 2 b_copy_ends
def b_copy_ring_1 : SB := (sSeq (sIf ([7] ++ [2]) (tOf (dBin eqD (eVar 7) (eVar 2)))
 (sRet [6] (eVar 6))
 sSkip)
 (sIf ([7] ++ [4]) (tOf (dBin notInD (eVar 7) (eVar 4)))
 (sSeq (sMut 4 [7] (eVar 7) appD)
 (sMut 5 ([6] ++ ([7] ++ [])) (eF (dBin addD (eVar 6) (eTup (aCons (eVar 7) aNil)))) appD))
 sSkip))
def b_copy_ring_2 : SB := (sFor true (.nm 7) ([0] ++ (([6] ++ []) ++ [])) (iItems (eCalls 2 m_copies_of (aCons (eVar 0) (aCons (dBin idxD (eVar 6) (dUn negD (eC (.int 1)))) aNil))))
 b_copy_ring_1)
def b_copy_ring_3 : SB := (sSeq (sSet 5 [] (xLst aNil))
 (sSeq (sFor true (.nm 6) [3] (iItems (eVar 3))
 b_copy_ring_2)
 (sSet 3 ([5] ++ []) (dCB lstOfD (aCons (eVar 5) aNil)))))
def b_copy_ring_4 : SB := (sSeq (sSetAll [3, 4] ((([2] ++ []) ++ []) ++ ([] ++ [])) (axCons (xLst (aCons (eTup (aCons (eVar 2) aNil)) aNil)) (axCons (xLst aNil) axNil)))
 (whileL (([3] ++ []) ++ []) (tOf (dBin (ltI fun i j => decide (j < i)) (dCB lenD (aCons (eVar 3) aNil)) (eC (.int 0))))
 b_copy_ring_3 100))
def b_copy_ring : SB := (sSeq (sExpr ([0] ++ []) (eCalls 1 m_check_square (aCons (eVar 0) aNil)))
 (sSeq (sExpr ([0] ++ ([1] ++ [])) (eCalls 2 m_check_crowd (aCons (eVar 0) (aCons (eVar 1) aNil))))
 (sSeq (sFor true (.nm 2) ([0] ++ ([1] ++ [])) (iItems (eCalls 2 m_reached_by (aCons (eVar 0) (aCons (eVar 1) aNil))))
 b_copy_ring_4)
 (sRet [] (eC .non)))))
def m_copy_ring : MT := runD 8 2 b_copy_ring
def b__law_crowd_right : SB := (sSeq (sIf ([1] ++ (([1] ++ []) ++ ([0] ++ []))) (tOrD (tNotD (tTru (dUn (isiD "tuple") (eVar 1)))) (tOf (dBin neD (dCB lenD (aCons (eVar 1) aNil)) (dCB lenD (aCons (eVar 0) aNil)))))
 (sRet [] (eC (.bl false)))
 sSkip)
 (sRet ((([1] ++ []) ++ []) ++ ([] ++ (([1] ++ []) ++ []))) (eAnd (dCB allD (aCons (eF (xComp [2] (.nm 2) (iItems (eVar 1)) tTrue (eAnd (dUn (isiD "int") (eVar 2)) (eAnd (eNot (dUn (isiD "bool") (eVar 2))) (dBin (ltI fun i j => decide (j ≤ i)) (eVar 2) (eC (.int 0))))))) aNil)) (eChain (ltI fun i j => decide (i ≤ j)) (ltI fun i j => decide (i ≤ j)) (eC (.int 2)) (dCB sumA (aCons (eVar 1) aNil)) (eC (.int 6))))))
def m__law_crowd_right : MT := runD 3 2 b__law_crowd_right
def b__law_ring : SB := (sSeq (sIf ([2] ++ ((([2] ++ []) ++ []) ++ (([2] ++ [0]) ++ []))) (tOrD (tNotD (tTru (dUn (isiD "tuple") (eVar 2)))) (tOrD (tOf (dBin (ltI fun i j => decide (i < j)) (dCB lenD (aCons (eVar 2) aNil)) (eC (.int 2)))) (tNotD (tTru (dCB allD (aCons (eF (xComp [3] (.nm 3) (iItems (eVar 2)) tTrue (eCalls 2 m__law_crowd_right (aCons (eVar 0) (aCons (eVar 3) aNil))))) aNil))))))
 (sRet [] (eC (.bl false)))
 sSkip)
 (sSeq (sIf ((([2] ++ []) ++ ([2] ++ [])) ++ (([2] ++ []) ++ ([0] ++ ([1] ++ [])))) (tOrD (tOf (dBin neD (dCB lenSetD (aCons (eVar 2) aNil)) (dCB lenD (aCons (eVar 2) aNil)))) (tOf (dBin notInD (dBin idxD (eVar 2) (eC (.int 0))) (eCalls 2 m__law_spread (aCons (eVar 0) (aCons (eVar 1) aNil))))))
 (sRet [] (eC (.bl false)))
 sSkip)
 (sRet (((([2] ++ []) ++ []) ++ [0, 2]) ++ []) (dCB allD (aCons (eF (xComp [4] (.nm 4) (iRange1 (aCons (dCB lenD (aCons (eVar 2) aNil)) aNil)) tTrue (dBin inD (dBin idxD (eVar 2) (eVar 4)) (eCalls 2 m__law_copies (aCons (eVar 0) (aCons (dBin idxD (eVar 2) (dBin subD (eVar 4) (eC (.int 1)))) aNil)))))) aNil)))))
def m__law_ring : MT := runD 5 3 b__law_ring
def b__law_says : SB := (sRet ([0] ++ ([0] ++ [1])) (eAnd (dUn (isiD "bool") (eVar 0)) (dBin eqD (eVar 0) (eVar 1))))
def m__law_says : MT := runD 2 2 b__law_says
def b_takes_copy_ring : SB := (sSeq (sExpr ([0] ++ []) (eCalls 1 m_check_square (aCons (eVar 0) aNil)))
 (sSeq (sExpr ([0] ++ ([1] ++ [])) (eCalls 2 m_check_crowd (aCons (eVar 0) (aCons (eVar 1) aNil))))
 (sSeq (sIf ([2] ++ ((([2] ++ []) ++ []) ++ (([2] ++ [0]) ++ []))) (tOrD (tNotD (tTru (dUn (isiD "tuple") (eVar 2)))) (tOrD (tOf (dBin (ltI fun i j => decide (i < j)) (dCB lenD (aCons (eVar 2) aNil)) (eC (.int 2)))) (tNotD (tTru (dCB allD (aCons (eF (xComp [3] (.nm 3) (iItems (eVar 2)) tTrue (eCalls 2 m_is_crowd (aCons (eVar 0) (aCons (eVar 3) aNil))))) aNil))))))
 (sRet [] (eC (.bl false)))
 sSkip)
 (sSeq (sIf ((([2] ++ []) ++ ([2] ++ [])) ++ (([2] ++ []) ++ ([0] ++ ([1] ++ [])))) (tOrD (tOf (dBin neD (dCB lenSetD (aCons (eVar 2) aNil)) (dCB lenD (aCons (eVar 2) aNil)))) (tOf (dBin notInD (dBin idxD (eVar 2) (eC (.int 0))) (eCalls 2 m_reached_by (aCons (eVar 0) (aCons (eVar 1) aNil))))))
 (sRet [] (eC (.bl false)))
 sSkip)
 (sRet ((([2] ++ ((([2] ++ ([] ++ [])) ++ ([2] ++ ([] ++ []))) ++ [])) ++ [0]) ++ []) (dCB allD (aCons (eF (xComp [4, 5] (.tp [4, 5]) (iZipD (aCons (eVar 2) (aCons (eF (dBin addD (eF (xSlice (eVar 2) (oAt (eC (.int 1))) oNo)) (eF (xSlice (eVar 2) oNo (oAt (eC (.int 1))))))) aNil))) tTrue (dBin inD (eVar 5) (eCalls 2 m_copies_of (aCons (eVar 0) (aCons (eVar 4) aNil)))))) aNil)))))))
def m_takes_copy_ring : MT := runD 6 3 b_takes_copy_ring
def b__law_bad_table : SB := (sSeq (sSet 2 ([] ++ (([1] ++ (([1] ++ []) ++ [])) ++ (([1] ++ ([] ++ [])) ++ (([1] ++ []) ++ ([] ++ ([] ++ ((([] ++ []) ++ []) ++ ((([] ++ []) ++ []) ++ ((([1] ++ []) ++ []) ++ (((([] ++ []) ++ []) ++ []) ++ [])))))))))) (xLst (aCons (eTup aNil) (aCons (eF (dBin addD (eVar 1) (eTup (aCons (dBin idxD (eVar 1) (eC (.int 0))) aNil)))) (aCons (eF (xSlice (eVar 1) (oAt (eC (.int 1))) oNo)) (aCons (eF (xLst (aCons (eVar 1) aNil))) (aCons (eC .non) (aCons (eC (.int 0)) (aCons (eTup (aCons (eTup (aCons (eC (.int 101)) aNil)) aNil)) (aCons (eTup (aCons (eTup (aCons (eC (.bl true)) aNil)) aNil)) (aCons (dCB tupOfD (aCons (eF (xComp [3] (.nm 3) (iItems (eVar 1)) tTrue (eF (dCB lstOfD (aCons (eVar 3) aNil))))) aNil)) (aCons (dBin mulT (eTup (aCons (eTup (aCons (eC (.int 0)) aNil)) aNil)) (eC (.int 5))) aNil))))))))))))
 (sRet (([2] ++ ((([1] ++ []) ++ []) ++ ((([] ++ ([] ++ [])) ++ (([] ++ []) ++ [])) ++ []))) ++ ([0] ++ ([] ++ []))) (dBin idxD (eF (dBin addD (eVar 2) (eF (xLst (aCons (dCB tupOfD (aCons (eF (xComp [3] (.nm 3) (iItems (eVar 1)) tTrue (eF (dBin addD (eVar 3) (eTup (aCons (eC (.int 0)) aNil)))))) aNil)) (aCons (eTup (aCons (eTup (aCons (eC (.int 0)) (aCons (eC (.int 0)) aNil))) (aCons (eTup (aCons (eC (.int 0)) aNil)) aNil))) aNil)))))) (eCalls 2 m__law_take (aCons (eVar 0) (aCons (eC (.int 12)) aNil))))))
def m__law_bad_table : MT := runD 4 2 b__law_bad_table
def b__law_bad_crowd : SB := (sSeq (sSet 3 ([1] ++ []) (xV (dCB lenD (aCons (eVar 1) aNil))))
 (sRet (((([] ++ []) ++ [3]) ++ (([2] ++ ([] ++ [])) ++ (([2] ++ ([] ++ [])) ++ (([2] ++ []) ++ ((([] ++ []) ++ [3]) ++ ((([] ++ []) ++ ([2] ++ ([] ++ []))) ++ ([] ++ ([] ++ ((([] ++ []) ++ [3]) ++ ((([] ++ []) ++ (([] ++ []) ++ ([3] ++ []))) ++ [])))))))))) ++ ([0] ++ ([] ++ []))) (dBin idxD (eF (xLst (aCons (dBin mulT (eTup (aCons (eC (.int 0)) aNil)) (eVar 3)) (aCons (eF (dBin addD (eVar 2) (eTup (aCons (eC (.int 1)) aNil)))) (aCons (eF (xSlice (eVar 2) (oAt (eC (.int 1))) oNo)) (aCons (eF (dCB lstOfD (aCons (eVar 2) aNil))) (aCons (dBin mulT (eTup (aCons (eC (.int 7)) aNil)) (eVar 3)) (aCons (eF (dBin addD (eTup (aCons (dUn negD (eC (.int 1))) aNil)) (eF (xSlice (eVar 2) (oAt (eC (.int 1))) oNo)))) (aCons (eC .non) (aCons (eC (.int 0)) (aCons (dBin mulT (eTup (aCons (eC (.bl true)) aNil)) (eVar 3)) (aCons (eF (dBin addD (eTup (aCons (eC (.int 1)) aNil)) (dBin mulZ (eTup (aCons (eC (.int 0)) aNil)) (dBin subD (eVar 3) (eC (.int 1)))))) aNil)))))))))))) (eCalls 2 m__law_take (aCons (eVar 0) (aCons (eC (.int 10)) aNil))))))
def m__law_bad_crowd : MT := runD 4 3 b__law_bad_crowd
def b__law_falls : SB := (sSeq (sTry sub_Malformed
 (sIf ([0] ++ []) (tOf (dBin eqD (eVar 0) (eC (.int 0))))
 (sExpr ([1] ++ ([2] ++ [])) (eCalls 2 m_copy_ends (aCons (eVar 1) (aCons (eVar 2) aNil))))
 (sIf ([0] ++ []) (tOf (dBin eqD (eVar 0) (eC (.int 1))))
 (sExpr ([1] ++ ([2] ++ [])) (eCalls 2 m_copy_ring (aCons (eVar 1) (aCons (eVar 2) aNil))))
 (sExpr ([1] ++ ([2] ++ ([] ++ []))) (eCalls 3 m_takes_copy_ring (aCons (eVar 1) (aCons (eVar 2) (aCons (eTup aNil) aNil)))))))
 (sRet [] (eC (.bl true))))
 (sRet [] (eC (.bl false))))
def m__law_falls : MT := runD 3 3 b__law_falls
def b_law_1 : SB := (sSeq (sSet 8 ([7] ++ []) (xV (dCB lenD (aCons (eVar 7) aNil))))
 (sSet 7 ([7] ++ [3, 7]) (xComp [17] (.nm 17) (iItems (eVar 7)) (tTru (dCB anyD (aCons (eF (xComp [18] (.nm 18) (iItems (eCalls 2 m__law_copies (aCons (eVar 3) (aCons (eVar 17) aNil)))) tTrue (dBin inD (eVar 18) (eVar 7)))) aNil))) (eVar 17))))
def b_law_2 : SB := (sSeq (sSet 13 ([3] ++ (([11] ++ []) ++ [])) (xV (eCalls 2 m__law_copies (aCons (eVar 3) (aCons (dBin idxD (eVar 11) (dUn negD (eC (.int 1)))) aNil)))))
 (sSet 11 (([13] ++ []) ++ (([11] ++ (([13] ++ ([1] ++ (([13] ++ []) ++ []))) ++ [])) ++ [11])) (eIf (tOf (dBin neD (eVar 13) (eF (xLst aNil)))) (dBin addD (eVar 11) (eF (xLst (aCons (dBin idxD (eVar 13) (eCalls 2 m__law_take (aCons (eVar 1) (aCons (dCB lenD (aCons (eVar 13) aNil)) aNil)))) aNil)))) (xV (eVar 11)))))
def b_law_3 : SB := (sIf (([3] ++ ([5] ++ ([14] ++ []))) ++ (([3] ++ ([5] ++ ([14] ++ []))) ++ [])) (tNotD (tTru (eCalls 2 m__law_says (aCons (eCalls 3 m_takes_copy_ring (aCons (eVar 3) (aCons (eVar 5) (aCons (eVar 14) aNil)))) (aCons (eCalls 3 m__law_ring (aCons (eVar 3) (aCons (eVar 5) (aCons (eVar 14) aNil)))) aNil)))))
 (sRet [] (eC (.bl false)))
 sSkip)
def b_law_4 : SB := (sSeq (sSet 3 ([1] ++ []) (xV (eCalls 1 m__law_table (aCons (eVar 1) aNil))))
 (sSeq (sSet 4 ([3] ++ []) (xV (dCB lenD (aCons (eVar 3) aNil))))
 (sSeq (sSet 5 ([1] ++ ([4] ++ [])) (xV (eCalls 2 m__law_crowd (aCons (eVar 1) (aCons (eVar 4) aNil)))))
 (sSeq (sSet 6 ([3] ++ ([5] ++ [])) (xV (eCalls 2 m__law_spread (aCons (eVar 3) (aCons (eVar 5) aNil)))))
 (sSeq (sIf (([3] ++ ([5] ++ [])) ++ ((([6] ++ [3]) ++ []) ++ [])) (tOf (dBin neD (eCalls 2 m_copy_ends (aCons (eVar 3) (aCons (eVar 5) aNil))) (dCB tupOfD (aCons (eF (dCB sortD (aCons (eF (xComp [17] (.nm 17) (iItems (eVar 6)) (tOf (dBin eqD (eCalls 2 m__law_copies (aCons (eVar 3) (aCons (eVar 17) aNil))) (eF (xLst aNil)))) (eVar 17))) aNil))) aNil))))
 (sRet [] (eC (.bl false)))
 sSkip)
 (sSeq (sSetAll [7, 8] (([6] ++ []) ++ ([] ++ [])) (axCons (dCB lstOfD (aCons (eVar 6) aNil)) (axCons (xV (dUn negD (eC (.int 1)))) axNil)))
 (sSeq (whileL ([8] ++ ([7] ++ [])) (tOf (dBin neD (eVar 8) (dCB lenD (aCons (eVar 7) aNil))))
 b_law_1 100)
 (sSeq (sSet 9 ([3] ++ ([5] ++ [])) (xV (eCalls 2 m_copy_ring (aCons (eVar 3) (aCons (eVar 5) aNil)))))
 (sSeq (sIf ((([9] ++ []) ++ ([7] ++ [])) ++ (([9] ++ []) ++ ([3] ++ ([5] ++ ([9] ++ []))))) (tOrD (tOf (dBin neD (dBin notND (eVar 9) (eC .non)) (dBin neD (eVar 7) (eF (xLst aNil))))) (tAndD (tOf (dBin notND (eVar 9) (eC .non))) (tNotD (tTru (eCalls 3 m__law_ring (aCons (eVar 3) (aCons (eVar 5) (aCons (eVar 9) aNil))))))))
 (sRet [] (eC (.bl false)))
 sSkip)
 (sSeq (sSet 10 (([6] ++ ([] ++ [])) ++ ((([6] ++ ([] ++ [])) ++ []) ++ (([5] ++ []) ++ (([5] ++ ([5] ++ [])) ++ ([] ++ ([] ++ ([] ++ ((([6] ++ ([] ++ [])) ++ []) ++ [])))))))) (xLst (aCons (eF (xSlice (eVar 6) (oAt (eC (.int 0))) (oAt (eC (.int 2))))) (aCons (dCB tupOfD (aCons (eF (xSlice (eVar 6) oNo (oAt (eC (.int 2))))) aNil)) (aCons (eTup (aCons (eVar 5) aNil)) (aCons (eTup (aCons (eVar 5) (aCons (eVar 5) aNil))) (aCons (eTup aNil) (aCons (eC .non) (aCons (eC (.int 0)) (aCons (dCB tupOfD (aCons (eF (xSlice (eVar 6) oNo (oAt (eC (.int 3))))) aNil)) aNil))))))))))
 (sSeq (sIf ([9] ++ []) (tOf (dBin notND (eVar 9) (eC .non)))
 (sSet 10 ([10] ++ ([9] ++ ((([9] ++ ([] ++ [])) ++ ([9] ++ ([] ++ []))) ++ ([9] ++ (([9] ++ []) ++ (([9] ++ ([9] ++ ([] ++ []))) ++ (([9] ++ ([] ++ [])) ++ ((([9] ++ ([] ++ [])) ++ ((([9] ++ []) ++ []) ++ [])) ++ ((([9] ++ ([] ++ [])) ++ ((([] ++ []) ++ [4]) ++ [])) ++ []))))))))) (dBin addD (eVar 10) (eF (xLst (aCons (eVar 9) (aCons (eF (dBin addD (eF (xSlice (eVar 9) (oAt (eC (.int 1))) oNo)) (eF (xSlice (eVar 9) oNo (oAt (eC (.int 1))))))) (aCons (eRev (eVar 9)) (aCons (eF (dCB lstOfD (aCons (eVar 9) aNil))) (aCons (eF (dBin addD (eVar 9) (eF (xSlice (eVar 9) oNo (oAt (eC (.int 1))))))) (aCons (eF (xSlice (eVar 9) (oAt (eC (.int 1))) oNo)) (aCons (eF (dBin addD (eF (xSlice (eVar 9) oNo (oAt (dUn negD (eC (.int 1)))))) (eTup (aCons (eF (dCB lstOfD (aCons (dBin idxD (eVar 9) (dUn negD (eC (.int 1)))) aNil))) aNil)))) (aCons (eF (dBin addD (eF (xSlice (eVar 9) oNo (oAt (dUn negD (eC (.int 1)))))) (eTup (aCons (dBin mulT (eTup (aCons (eC (.int 0)) aNil)) (eVar 4)) aNil)))) aNil))))))))))))
 sSkip)
 (sSeq (sSet 11 ([5] ++ []) (xLst (aCons (eVar 5) aNil)))
 (sSeq (sFor false (.nm 12) ([] ++ []) (iRange1 (aCons (eC (.int 6)) aNil))
 b_law_2)
 (sFor true (.nm 14) ([10] ++ (([11] ++ []) ++ ((([11] ++ ([] ++ [])) ++ []) ++ []))) (iItems (eF (dBin addD (eVar 10) (eF (xLst (aCons (dCB tupOfD (aCons (eVar 11) aNil)) (aCons (dCB tupOfD (aCons (eF (xSlice (eVar 11) (oAt (dUn negD (eC (.int 3)))) oNo)) aNil)) aNil)))))))
 b_law_3))))))))))))))
def b_law : SB := (sSeq (sFor false (.nm 2) ([] ++ []) (iRange1 (aCons (eC (.int 2)) aNil))
 b_law_4)
 (sSeq (sSetAll [15, 16] (([1] ++ ([3] ++ [])) ++ (([1] ++ ([3] ++ ([5] ++ []))) ++ [])) (axCons (xV (eCalls 2 m__law_bad_table (aCons (eVar 1) (aCons (eVar 3) aNil)))) (axCons (xV (eCalls 3 m__law_bad_crowd (aCons (eVar 1) (aCons (eVar 3) (aCons (eVar 5) aNil))))) axNil)))
 (sSeq (sIf (([3] ++ ([16] ++ [])) ++ ((([] ++ []) ++ [3, 16]) ++ [])) (tAndD (tNotD (tTru (eCalls 2 m__law_crowd_right (aCons (eVar 3) (aCons (eVar 16) aNil))))) (tNotD (tTru (dCB allD (aCons (eF (xComp [19] (.nm 19) (iRange1 (aCons (eC (.int 3)) aNil)) tTrue (eCalls 3 m__law_falls (aCons (eVar 19) (aCons (eVar 3) (aCons (eVar 16) aNil)))))) aNil)))))
 (sRet [] (eC (.bl false)))
 sSkip)
 (sRet ((([] ++ []) ++ [5, 15]) ++ []) (dCB allD (aCons (eF (xComp [19] (.nm 19) (iRange1 (aCons (eC (.int 3)) aNil)) tTrue (eCalls 3 m__law_falls (aCons (eVar 19) (aCons (eVar 15) (aCons (eVar 5) aNil)))))) aNil))))))

theorem us_b__law_sum_1 : UnS b__law_sum_1 := by
  unfold b__law_sum_1
  repeat' (first | with_reducible exact un_var _ | with_reducible exact un_c _ | with_reducible exact tabUn_nil | with_reducible exact un_nil | with_reducible exact un_xnil | with_reducible exact un_tt | with_reducible exact un_ono | with_reducible exact us_skip | with_reducible exact us_retN | with_reducible exact us_raise | with_reducible exact us_bk | with_reducible exact us_ct | with_reducible apply un_cons | with_reducible apply un_xcons | with_reducible apply un_bin | with_reducible apply un_un | with_reducible apply un_cb | with_reducible apply un_mt | with_reducible apply un_tup | with_reducible apply un_lst | with_reducible apply un_calls | with_reducible apply un_call0 | with_reducible apply un_and | with_reducible apply un_or | with_reducible apply un_not | with_reducible apply un_if | with_reducible apply un_chain | with_reducible apply un_eF | with_reducible apply un_xV | with_reducible apply un_tof | with_reducible apply un_tru | with_reducible apply un_tnot | with_reducible apply un_tand | with_reducible apply un_tor | with_reducible apply un_oat | with_reducible apply un_slice | with_reducible apply un_items | with_reducible apply un_range1 | with_reducible apply un_range2 | with_reducible apply un_comp | with_reducible apply un_comp2 | with_reducible apply un_zip | with_reducible apply un_rev | with_reducible apply un_mtT | with_reducible apply un_callV | with_reducible apply tabUn_cons | with_reducible apply un_tupRg | with_reducible apply un_lstRg | with_reducible apply un_enum | with_reducible apply us_seq | with_reducible apply us_set | with_reducible apply us_ret | with_reducible apply us_expr | with_reducible apply us_if | with_reducible apply us_for | with_reducible apply us_while | with_reducible apply us_mut | with_reducible apply us_ix | with_reducible apply us_try | with_reducible apply us_setall | with_reducible apply us_unp | with_reducible apply us_augI | with_reducible apply us_augIx | with_reducible apply us_ix2 | with_reducible apply un_dct | with_reducible apply us_ext)
theorem um__law_sum : UnM m__law_sum := um_run (by
  unfold b__law_sum
  repeat' (first | exact us_b__law_sum_1 | with_reducible exact un_var _ | with_reducible exact un_c _ | with_reducible exact tabUn_nil | with_reducible exact un_nil | with_reducible exact un_xnil | with_reducible exact un_tt | with_reducible exact un_ono | with_reducible exact us_skip | with_reducible exact us_retN | with_reducible exact us_raise | with_reducible exact us_bk | with_reducible exact us_ct | with_reducible apply un_cons | with_reducible apply un_xcons | with_reducible apply un_bin | with_reducible apply un_un | with_reducible apply un_cb | with_reducible apply un_mt | with_reducible apply un_tup | with_reducible apply un_lst | with_reducible apply un_calls | with_reducible apply un_call0 | with_reducible apply un_and | with_reducible apply un_or | with_reducible apply un_not | with_reducible apply un_if | with_reducible apply un_chain | with_reducible apply un_eF | with_reducible apply un_xV | with_reducible apply un_tof | with_reducible apply un_tru | with_reducible apply un_tnot | with_reducible apply un_tand | with_reducible apply un_tor | with_reducible apply un_oat | with_reducible apply un_slice | with_reducible apply un_items | with_reducible apply un_range1 | with_reducible apply un_range2 | with_reducible apply un_comp | with_reducible apply un_comp2 | with_reducible apply un_zip | with_reducible apply un_rev | with_reducible apply un_mtT | with_reducible apply un_callV | with_reducible apply tabUn_cons | with_reducible apply un_tupRg | with_reducible apply un_lstRg | with_reducible apply un_enum | with_reducible apply us_seq | with_reducible apply us_set | with_reducible apply us_ret | with_reducible apply us_expr | with_reducible apply us_if | with_reducible apply us_for | with_reducible apply us_while | with_reducible apply us_mut | with_reducible apply us_ix | with_reducible apply us_try | with_reducible apply us_setall | with_reducible apply us_unp | with_reducible apply us_augI | with_reducible apply us_augIx | with_reducible apply us_ix2 | with_reducible apply un_dct | with_reducible apply us_ext))
theorem um__law_other : UnM m__law_other := um_run (by
  unfold b__law_other
  repeat' (first | with_reducible exact un_var _ | with_reducible exact un_c _ | with_reducible exact tabUn_nil | with_reducible exact un_nil | with_reducible exact un_xnil | with_reducible exact un_tt | with_reducible exact un_ono | with_reducible exact us_skip | with_reducible exact us_retN | with_reducible exact us_raise | with_reducible exact us_bk | with_reducible exact us_ct | with_reducible apply un_cons | with_reducible apply un_xcons | with_reducible apply un_bin | with_reducible apply un_un | with_reducible apply un_cb | with_reducible apply un_mt | with_reducible apply un_tup | with_reducible apply un_lst | with_reducible apply un_calls | with_reducible apply un_call0 | with_reducible apply un_and | with_reducible apply un_or | with_reducible apply un_not | with_reducible apply un_if | with_reducible apply un_chain | with_reducible apply un_eF | with_reducible apply un_xV | with_reducible apply un_tof | with_reducible apply un_tru | with_reducible apply un_tnot | with_reducible apply un_tand | with_reducible apply un_tor | with_reducible apply un_oat | with_reducible apply un_slice | with_reducible apply un_items | with_reducible apply un_range1 | with_reducible apply un_range2 | with_reducible apply un_comp | with_reducible apply un_comp2 | with_reducible apply un_zip | with_reducible apply un_rev | with_reducible apply un_mtT | with_reducible apply un_callV | with_reducible apply tabUn_cons | with_reducible apply un_tupRg | with_reducible apply un_lstRg | with_reducible apply un_enum | with_reducible apply us_seq | with_reducible apply us_set | with_reducible apply us_ret | with_reducible apply us_expr | with_reducible apply us_if | with_reducible apply us_for | with_reducible apply us_while | with_reducible apply us_mut | with_reducible apply us_ix | with_reducible apply us_try | with_reducible apply us_setall | with_reducible apply us_unp | with_reducible apply us_augI | with_reducible apply us_augIx | with_reducible apply us_ix2 | with_reducible apply un_dct | with_reducible apply us_ext))
theorem us_b__law_copies_1 : UnS b__law_copies_1 := by
  unfold b__law_copies_1
  repeat' (first | exact um__law_other | exact um__law_sum | with_reducible exact un_var _ | with_reducible exact un_c _ | with_reducible exact tabUn_nil | with_reducible exact un_nil | with_reducible exact un_xnil | with_reducible exact un_tt | with_reducible exact un_ono | with_reducible exact us_skip | with_reducible exact us_retN | with_reducible exact us_raise | with_reducible exact us_bk | with_reducible exact us_ct | with_reducible apply un_cons | with_reducible apply un_xcons | with_reducible apply un_bin | with_reducible apply un_un | with_reducible apply un_cb | with_reducible apply un_mt | with_reducible apply un_tup | with_reducible apply un_lst | with_reducible apply un_calls | with_reducible apply un_call0 | with_reducible apply un_and | with_reducible apply un_or | with_reducible apply un_not | with_reducible apply un_if | with_reducible apply un_chain | with_reducible apply un_eF | with_reducible apply un_xV | with_reducible apply un_tof | with_reducible apply un_tru | with_reducible apply un_tnot | with_reducible apply un_tand | with_reducible apply un_tor | with_reducible apply un_oat | with_reducible apply un_slice | with_reducible apply un_items | with_reducible apply un_range1 | with_reducible apply un_range2 | with_reducible apply un_comp | with_reducible apply un_comp2 | with_reducible apply un_zip | with_reducible apply un_rev | with_reducible apply un_mtT | with_reducible apply un_callV | with_reducible apply tabUn_cons | with_reducible apply un_tupRg | with_reducible apply un_lstRg | with_reducible apply un_enum | with_reducible apply us_seq | with_reducible apply us_set | with_reducible apply us_ret | with_reducible apply us_expr | with_reducible apply us_if | with_reducible apply us_for | with_reducible apply us_while | with_reducible apply us_mut | with_reducible apply us_ix | with_reducible apply us_try | with_reducible apply us_setall | with_reducible apply us_unp | with_reducible apply us_augI | with_reducible apply us_augIx | with_reducible apply us_ix2 | with_reducible apply un_dct | with_reducible apply us_ext)
theorem um__law_copies : UnM m__law_copies := um_run (by
  unfold b__law_copies
  repeat' (first | exact um__law_other | exact um__law_sum | exact us_b__law_copies_1 | with_reducible exact un_var _ | with_reducible exact un_c _ | with_reducible exact tabUn_nil | with_reducible exact un_nil | with_reducible exact un_xnil | with_reducible exact un_tt | with_reducible exact un_ono | with_reducible exact us_skip | with_reducible exact us_retN | with_reducible exact us_raise | with_reducible exact us_bk | with_reducible exact us_ct | with_reducible apply un_cons | with_reducible apply un_xcons | with_reducible apply un_bin | with_reducible apply un_un | with_reducible apply un_cb | with_reducible apply un_mt | with_reducible apply un_tup | with_reducible apply un_lst | with_reducible apply un_calls | with_reducible apply un_call0 | with_reducible apply un_and | with_reducible apply un_or | with_reducible apply un_not | with_reducible apply un_if | with_reducible apply un_chain | with_reducible apply un_eF | with_reducible apply un_xV | with_reducible apply un_tof | with_reducible apply un_tru | with_reducible apply un_tnot | with_reducible apply un_tand | with_reducible apply un_tor | with_reducible apply un_oat | with_reducible apply un_slice | with_reducible apply un_items | with_reducible apply un_range1 | with_reducible apply un_range2 | with_reducible apply un_comp | with_reducible apply un_comp2 | with_reducible apply un_zip | with_reducible apply un_rev | with_reducible apply un_mtT | with_reducible apply un_callV | with_reducible apply tabUn_cons | with_reducible apply un_tupRg | with_reducible apply un_lstRg | with_reducible apply un_enum | with_reducible apply us_seq | with_reducible apply us_set | with_reducible apply us_ret | with_reducible apply us_expr | with_reducible apply us_if | with_reducible apply us_for | with_reducible apply us_while | with_reducible apply us_mut | with_reducible apply us_ix | with_reducible apply us_try | with_reducible apply us_setall | with_reducible apply us_unp | with_reducible apply us_augI | with_reducible apply us_augIx | with_reducible apply us_ix2 | with_reducible apply un_dct | with_reducible apply us_ext))
theorem us_b__law_spread_1 : UnS b__law_spread_1 := by
  unfold b__law_spread_1
  repeat' (first | exact um__law_copies | with_reducible exact un_var _ | with_reducible exact un_c _ | with_reducible exact tabUn_nil | with_reducible exact un_nil | with_reducible exact un_xnil | with_reducible exact un_tt | with_reducible exact un_ono | with_reducible exact us_skip | with_reducible exact us_retN | with_reducible exact us_raise | with_reducible exact us_bk | with_reducible exact us_ct | with_reducible apply un_cons | with_reducible apply un_xcons | with_reducible apply un_bin | with_reducible apply un_un | with_reducible apply un_cb | with_reducible apply un_mt | with_reducible apply un_tup | with_reducible apply un_lst | with_reducible apply un_calls | with_reducible apply un_call0 | with_reducible apply un_and | with_reducible apply un_or | with_reducible apply un_not | with_reducible apply un_if | with_reducible apply un_chain | with_reducible apply un_eF | with_reducible apply un_xV | with_reducible apply un_tof | with_reducible apply un_tru | with_reducible apply un_tnot | with_reducible apply un_tand | with_reducible apply un_tor | with_reducible apply un_oat | with_reducible apply un_slice | with_reducible apply un_items | with_reducible apply un_range1 | with_reducible apply un_range2 | with_reducible apply un_comp | with_reducible apply un_comp2 | with_reducible apply un_zip | with_reducible apply un_rev | with_reducible apply un_mtT | with_reducible apply un_callV | with_reducible apply tabUn_cons | with_reducible apply un_tupRg | with_reducible apply un_lstRg | with_reducible apply un_enum | with_reducible apply us_seq | with_reducible apply us_set | with_reducible apply us_ret | with_reducible apply us_expr | with_reducible apply us_if | with_reducible apply us_for | with_reducible apply us_while | with_reducible apply us_mut | with_reducible apply us_ix | with_reducible apply us_try | with_reducible apply us_setall | with_reducible apply us_unp | with_reducible apply us_augI | with_reducible apply us_augIx | with_reducible apply us_ix2 | with_reducible apply un_dct | with_reducible apply us_ext)
theorem um__law_spread : UnM m__law_spread := um_run (by
  unfold b__law_spread
  repeat' (first | exact um__law_copies | exact us_b__law_spread_1 | with_reducible exact un_var _ | with_reducible exact un_c _ | with_reducible exact tabUn_nil | with_reducible exact un_nil | with_reducible exact un_xnil | with_reducible exact un_tt | with_reducible exact un_ono | with_reducible exact us_skip | with_reducible exact us_retN | with_reducible exact us_raise | with_reducible exact us_bk | with_reducible exact us_ct | with_reducible apply un_cons | with_reducible apply un_xcons | with_reducible apply un_bin | with_reducible apply un_un | with_reducible apply un_cb | with_reducible apply un_mt | with_reducible apply un_tup | with_reducible apply un_lst | with_reducible apply un_calls | with_reducible apply un_call0 | with_reducible apply un_and | with_reducible apply un_or | with_reducible apply un_not | with_reducible apply un_if | with_reducible apply un_chain | with_reducible apply un_eF | with_reducible apply un_xV | with_reducible apply un_tof | with_reducible apply un_tru | with_reducible apply un_tnot | with_reducible apply un_tand | with_reducible apply un_tor | with_reducible apply un_oat | with_reducible apply un_slice | with_reducible apply un_items | with_reducible apply un_range1 | with_reducible apply un_range2 | with_reducible apply un_comp | with_reducible apply un_comp2 | with_reducible apply un_zip | with_reducible apply un_rev | with_reducible apply un_mtT | with_reducible apply un_callV | with_reducible apply tabUn_cons | with_reducible apply un_tupRg | with_reducible apply un_lstRg | with_reducible apply un_enum | with_reducible apply us_seq | with_reducible apply us_set | with_reducible apply us_ret | with_reducible apply us_expr | with_reducible apply us_if | with_reducible apply us_for | with_reducible apply us_while | with_reducible apply us_mut | with_reducible apply us_ix | with_reducible apply us_try | with_reducible apply us_setall | with_reducible apply us_unp | with_reducible apply us_augI | with_reducible apply us_augIx | with_reducible apply us_ix2 | with_reducible apply un_dct | with_reducible apply us_ext))
theorem um_is_whole : UnM m_is_whole := um_run (by
  unfold b_is_whole
  repeat' (first | with_reducible exact un_var _ | with_reducible exact un_c _ | with_reducible exact tabUn_nil | with_reducible exact un_nil | with_reducible exact un_xnil | with_reducible exact un_tt | with_reducible exact un_ono | with_reducible exact us_skip | with_reducible exact us_retN | with_reducible exact us_raise | with_reducible exact us_bk | with_reducible exact us_ct | with_reducible apply un_cons | with_reducible apply un_xcons | with_reducible apply un_bin | with_reducible apply un_un | with_reducible apply un_cb | with_reducible apply un_mt | with_reducible apply un_tup | with_reducible apply un_lst | with_reducible apply un_calls | with_reducible apply un_call0 | with_reducible apply un_and | with_reducible apply un_or | with_reducible apply un_not | with_reducible apply un_if | with_reducible apply un_chain | with_reducible apply un_eF | with_reducible apply un_xV | with_reducible apply un_tof | with_reducible apply un_tru | with_reducible apply un_tnot | with_reducible apply un_tand | with_reducible apply un_tor | with_reducible apply un_oat | with_reducible apply un_slice | with_reducible apply un_items | with_reducible apply un_range1 | with_reducible apply un_range2 | with_reducible apply un_comp | with_reducible apply un_comp2 | with_reducible apply un_zip | with_reducible apply un_rev | with_reducible apply un_mtT | with_reducible apply un_callV | with_reducible apply tabUn_cons | with_reducible apply un_tupRg | with_reducible apply un_lstRg | with_reducible apply un_enum | with_reducible apply us_seq | with_reducible apply us_set | with_reducible apply us_ret | with_reducible apply us_expr | with_reducible apply us_if | with_reducible apply us_for | with_reducible apply us_while | with_reducible apply us_mut | with_reducible apply us_ix | with_reducible apply us_try | with_reducible apply us_setall | with_reducible apply us_unp | with_reducible apply us_augI | with_reducible apply us_augIx | with_reducible apply us_ix2 | with_reducible apply un_dct | with_reducible apply us_ext))
theorem um_is_table : UnM m_is_table := um_run (by
  unfold b_is_table
  repeat' (first | exact um_is_whole | with_reducible exact un_var _ | with_reducible exact un_c _ | with_reducible exact tabUn_nil | with_reducible exact un_nil | with_reducible exact un_xnil | with_reducible exact un_tt | with_reducible exact un_ono | with_reducible exact us_skip | with_reducible exact us_retN | with_reducible exact us_raise | with_reducible exact us_bk | with_reducible exact us_ct | with_reducible apply un_cons | with_reducible apply un_xcons | with_reducible apply un_bin | with_reducible apply un_un | with_reducible apply un_cb | with_reducible apply un_mt | with_reducible apply un_tup | with_reducible apply un_lst | with_reducible apply un_calls | with_reducible apply un_call0 | with_reducible apply un_and | with_reducible apply un_or | with_reducible apply un_not | with_reducible apply un_if | with_reducible apply un_chain | with_reducible apply un_eF | with_reducible apply un_xV | with_reducible apply un_tof | with_reducible apply un_tru | with_reducible apply un_tnot | with_reducible apply un_tand | with_reducible apply un_tor | with_reducible apply un_oat | with_reducible apply un_slice | with_reducible apply un_items | with_reducible apply un_range1 | with_reducible apply un_range2 | with_reducible apply un_comp | with_reducible apply un_comp2 | with_reducible apply un_zip | with_reducible apply un_rev | with_reducible apply un_mtT | with_reducible apply un_callV | with_reducible apply tabUn_cons | with_reducible apply un_tupRg | with_reducible apply un_lstRg | with_reducible apply un_enum | with_reducible apply us_seq | with_reducible apply us_set | with_reducible apply us_ret | with_reducible apply us_expr | with_reducible apply us_if | with_reducible apply us_for | with_reducible apply us_while | with_reducible apply us_mut | with_reducible apply us_ix | with_reducible apply us_try | with_reducible apply us_setall | with_reducible apply us_unp | with_reducible apply us_augI | with_reducible apply us_augIx | with_reducible apply us_ix2 | with_reducible apply un_dct | with_reducible apply us_ext))
theorem um_is_square : UnM m_is_square := um_run (by
  unfold b_is_square
  repeat' (first | exact um_is_table | with_reducible exact un_var _ | with_reducible exact un_c _ | with_reducible exact tabUn_nil | with_reducible exact un_nil | with_reducible exact un_xnil | with_reducible exact un_tt | with_reducible exact un_ono | with_reducible exact us_skip | with_reducible exact us_retN | with_reducible exact us_raise | with_reducible exact us_bk | with_reducible exact us_ct | with_reducible apply un_cons | with_reducible apply un_xcons | with_reducible apply un_bin | with_reducible apply un_un | with_reducible apply un_cb | with_reducible apply un_mt | with_reducible apply un_tup | with_reducible apply un_lst | with_reducible apply un_calls | with_reducible apply un_call0 | with_reducible apply un_and | with_reducible apply un_or | with_reducible apply un_not | with_reducible apply un_if | with_reducible apply un_chain | with_reducible apply un_eF | with_reducible apply un_xV | with_reducible apply un_tof | with_reducible apply un_tru | with_reducible apply un_tnot | with_reducible apply un_tand | with_reducible apply un_tor | with_reducible apply un_oat | with_reducible apply un_slice | with_reducible apply un_items | with_reducible apply un_range1 | with_reducible apply un_range2 | with_reducible apply un_comp | with_reducible apply un_comp2 | with_reducible apply un_zip | with_reducible apply un_rev | with_reducible apply un_mtT | with_reducible apply un_callV | with_reducible apply tabUn_cons | with_reducible apply un_tupRg | with_reducible apply un_lstRg | with_reducible apply un_enum | with_reducible apply us_seq | with_reducible apply us_set | with_reducible apply us_ret | with_reducible apply us_expr | with_reducible apply us_if | with_reducible apply us_for | with_reducible apply us_while | with_reducible apply us_mut | with_reducible apply us_ix | with_reducible apply us_try | with_reducible apply us_setall | with_reducible apply us_unp | with_reducible apply us_augI | with_reducible apply us_augIx | with_reducible apply us_ix2 | with_reducible apply un_dct | with_reducible apply us_ext))
theorem um_check_square : UnM m_check_square := um_run (by
  unfold b_check_square
  repeat' (first | exact um_is_square | with_reducible exact un_var _ | with_reducible exact un_c _ | with_reducible exact tabUn_nil | with_reducible exact un_nil | with_reducible exact un_xnil | with_reducible exact un_tt | with_reducible exact un_ono | with_reducible exact us_skip | with_reducible exact us_retN | with_reducible exact us_raise | with_reducible exact us_bk | with_reducible exact us_ct | with_reducible apply un_cons | with_reducible apply un_xcons | with_reducible apply un_bin | with_reducible apply un_un | with_reducible apply un_cb | with_reducible apply un_mt | with_reducible apply un_tup | with_reducible apply un_lst | with_reducible apply un_calls | with_reducible apply un_call0 | with_reducible apply un_and | with_reducible apply un_or | with_reducible apply un_not | with_reducible apply un_if | with_reducible apply un_chain | with_reducible apply un_eF | with_reducible apply un_xV | with_reducible apply un_tof | with_reducible apply un_tru | with_reducible apply un_tnot | with_reducible apply un_tand | with_reducible apply un_tor | with_reducible apply un_oat | with_reducible apply un_slice | with_reducible apply un_items | with_reducible apply un_range1 | with_reducible apply un_range2 | with_reducible apply un_comp | with_reducible apply un_comp2 | with_reducible apply un_zip | with_reducible apply un_rev | with_reducible apply un_mtT | with_reducible apply un_callV | with_reducible apply tabUn_cons | with_reducible apply un_tupRg | with_reducible apply un_lstRg | with_reducible apply un_enum | with_reducible apply us_seq | with_reducible apply us_set | with_reducible apply us_ret | with_reducible apply us_expr | with_reducible apply us_if | with_reducible apply us_for | with_reducible apply us_while | with_reducible apply us_mut | with_reducible apply us_ix | with_reducible apply us_try | with_reducible apply us_setall | with_reducible apply us_unp | with_reducible apply us_augI | with_reducible apply us_augIx | with_reducible apply us_ix2 | with_reducible apply un_dct | with_reducible apply us_ext))
theorem um_is_crowd : UnM m_is_crowd := um_run (by
  unfold b_is_crowd
  repeat' (first | exact um_is_whole | with_reducible exact un_var _ | with_reducible exact un_c _ | with_reducible exact tabUn_nil | with_reducible exact un_nil | with_reducible exact un_xnil | with_reducible exact un_tt | with_reducible exact un_ono | with_reducible exact us_skip | with_reducible exact us_retN | with_reducible exact us_raise | with_reducible exact us_bk | with_reducible exact us_ct | with_reducible apply un_cons | with_reducible apply un_xcons | with_reducible apply un_bin | with_reducible apply un_un | with_reducible apply un_cb | with_reducible apply un_mt | with_reducible apply un_tup | with_reducible apply un_lst | with_reducible apply un_calls | with_reducible apply un_call0 | with_reducible apply un_and | with_reducible apply un_or | with_reducible apply un_not | with_reducible apply un_if | with_reducible apply un_chain | with_reducible apply un_eF | with_reducible apply un_xV | with_reducible apply un_tof | with_reducible apply un_tru | with_reducible apply un_tnot | with_reducible apply un_tand | with_reducible apply un_tor | with_reducible apply un_oat | with_reducible apply un_slice | with_reducible apply un_items | with_reducible apply un_range1 | with_reducible apply un_range2 | with_reducible apply un_comp | with_reducible apply un_comp2 | with_reducible apply un_zip | with_reducible apply un_rev | with_reducible apply un_mtT | with_reducible apply un_callV | with_reducible apply tabUn_cons | with_reducible apply un_tupRg | with_reducible apply un_lstRg | with_reducible apply un_enum | with_reducible apply us_seq | with_reducible apply us_set | with_reducible apply us_ret | with_reducible apply us_expr | with_reducible apply us_if | with_reducible apply us_for | with_reducible apply us_while | with_reducible apply us_mut | with_reducible apply us_ix | with_reducible apply us_try | with_reducible apply us_setall | with_reducible apply us_unp | with_reducible apply us_augI | with_reducible apply us_augIx | with_reducible apply us_ix2 | with_reducible apply un_dct | with_reducible apply us_ext))
theorem um_check_crowd : UnM m_check_crowd := um_run (by
  unfold b_check_crowd
  repeat' (first | exact um_is_crowd | with_reducible exact un_var _ | with_reducible exact un_c _ | with_reducible exact tabUn_nil | with_reducible exact un_nil | with_reducible exact un_xnil | with_reducible exact un_tt | with_reducible exact un_ono | with_reducible exact us_skip | with_reducible exact us_retN | with_reducible exact us_raise | with_reducible exact us_bk | with_reducible exact us_ct | with_reducible apply un_cons | with_reducible apply un_xcons | with_reducible apply un_bin | with_reducible apply un_un | with_reducible apply un_cb | with_reducible apply un_mt | with_reducible apply un_tup | with_reducible apply un_lst | with_reducible apply un_calls | with_reducible apply un_call0 | with_reducible apply un_and | with_reducible apply un_or | with_reducible apply un_not | with_reducible apply un_if | with_reducible apply un_chain | with_reducible apply un_eF | with_reducible apply un_xV | with_reducible apply un_tof | with_reducible apply un_tru | with_reducible apply un_tnot | with_reducible apply un_tand | with_reducible apply un_tor | with_reducible apply un_oat | with_reducible apply un_slice | with_reducible apply un_items | with_reducible apply un_range1 | with_reducible apply un_range2 | with_reducible apply un_comp | with_reducible apply un_comp2 | with_reducible apply un_zip | with_reducible apply un_rev | with_reducible apply un_mtT | with_reducible apply un_callV | with_reducible apply tabUn_cons | with_reducible apply un_tupRg | with_reducible apply un_lstRg | with_reducible apply un_enum | with_reducible apply us_seq | with_reducible apply us_set | with_reducible apply us_ret | with_reducible apply us_expr | with_reducible apply us_if | with_reducible apply us_for | with_reducible apply us_while | with_reducible apply us_mut | with_reducible apply us_ix | with_reducible apply us_try | with_reducible apply us_setall | with_reducible apply us_unp | with_reducible apply us_augI | with_reducible apply us_augIx | with_reducible apply us_ix2 | with_reducible apply un_dct | with_reducible apply us_ext))
theorem um_held : UnM m_held := um_run (by
  unfold b_held
  repeat' (first | with_reducible exact un_var _ | with_reducible exact un_c _ | with_reducible exact tabUn_nil | with_reducible exact un_nil | with_reducible exact un_xnil | with_reducible exact un_tt | with_reducible exact un_ono | with_reducible exact us_skip | with_reducible exact us_retN | with_reducible exact us_raise | with_reducible exact us_bk | with_reducible exact us_ct | with_reducible apply un_cons | with_reducible apply un_xcons | with_reducible apply un_bin | with_reducible apply un_un | with_reducible apply un_cb | with_reducible apply un_mt | with_reducible apply un_tup | with_reducible apply un_lst | with_reducible apply un_calls | with_reducible apply un_call0 | with_reducible apply un_and | with_reducible apply un_or | with_reducible apply un_not | with_reducible apply un_if | with_reducible apply un_chain | with_reducible apply un_eF | with_reducible apply un_xV | with_reducible apply un_tof | with_reducible apply un_tru | with_reducible apply un_tnot | with_reducible apply un_tand | with_reducible apply un_tor | with_reducible apply un_oat | with_reducible apply un_slice | with_reducible apply un_items | with_reducible apply un_range1 | with_reducible apply un_range2 | with_reducible apply un_comp | with_reducible apply un_comp2 | with_reducible apply un_zip | with_reducible apply un_rev | with_reducible apply un_mtT | with_reducible apply un_callV | with_reducible apply tabUn_cons | with_reducible apply un_tupRg | with_reducible apply un_lstRg | with_reducible apply un_enum | with_reducible apply us_seq | with_reducible apply us_set | with_reducible apply us_ret | with_reducible apply us_expr | with_reducible apply us_if | with_reducible apply us_for | with_reducible apply us_while | with_reducible apply us_mut | with_reducible apply us_ix | with_reducible apply us_try | with_reducible apply us_setall | with_reducible apply us_unp | with_reducible apply us_augI | with_reducible apply us_augIx | with_reducible apply us_ix2 | with_reducible apply un_dct | with_reducible apply us_ext))
theorem um_sum_for : UnM m_sum_for := um_run (by
  unfold b_sum_for
  repeat' (first | with_reducible exact un_var _ | with_reducible exact un_c _ | with_reducible exact tabUn_nil | with_reducible exact un_nil | with_reducible exact un_xnil | with_reducible exact un_tt | with_reducible exact un_ono | with_reducible exact us_skip | with_reducible exact us_retN | with_reducible exact us_raise | with_reducible exact us_bk | with_reducible exact us_ct | with_reducible apply un_cons | with_reducible apply un_xcons | with_reducible apply un_bin | with_reducible apply un_un | with_reducible apply un_cb | with_reducible apply un_mt | with_reducible apply un_tup | with_reducible apply un_lst | with_reducible apply un_calls | with_reducible apply un_call0 | with_reducible apply un_and | with_reducible apply un_or | with_reducible apply un_not | with_reducible apply un_if | with_reducible apply un_chain | with_reducible apply un_eF | with_reducible apply un_xV | with_reducible apply un_tof | with_reducible apply un_tru | with_reducible apply un_tnot | with_reducible apply un_tand | with_reducible apply un_tor | with_reducible apply un_oat | with_reducible apply un_slice | with_reducible apply un_items | with_reducible apply un_range1 | with_reducible apply un_range2 | with_reducible apply un_comp | with_reducible apply un_comp2 | with_reducible apply un_zip | with_reducible apply un_rev | with_reducible apply un_mtT | with_reducible apply un_callV | with_reducible apply tabUn_cons | with_reducible apply un_tupRg | with_reducible apply un_lstRg | with_reducible apply un_enum | with_reducible apply us_seq | with_reducible apply us_set | with_reducible apply us_ret | with_reducible apply us_expr | with_reducible apply us_if | with_reducible apply us_for | with_reducible apply us_while | with_reducible apply us_mut | with_reducible apply us_ix | with_reducible apply us_try | with_reducible apply us_setall | with_reducible apply us_unp | with_reducible apply us_augI | with_reducible apply us_augIx | with_reducible apply us_ix2 | with_reducible apply un_dct | with_reducible apply us_ext))
theorem um_moved : UnM m_moved := um_run (by
  unfold b_moved
  repeat' (first | with_reducible exact un_var _ | with_reducible exact un_c _ | with_reducible exact tabUn_nil | with_reducible exact un_nil | with_reducible exact un_xnil | with_reducible exact un_tt | with_reducible exact un_ono | with_reducible exact us_skip | with_reducible exact us_retN | with_reducible exact us_raise | with_reducible exact us_bk | with_reducible exact us_ct | with_reducible apply un_cons | with_reducible apply un_xcons | with_reducible apply un_bin | with_reducible apply un_un | with_reducible apply un_cb | with_reducible apply un_mt | with_reducible apply un_tup | with_reducible apply un_lst | with_reducible apply un_calls | with_reducible apply un_call0 | with_reducible apply un_and | with_reducible apply un_or | with_reducible apply un_not | with_reducible apply un_if | with_reducible apply un_chain | with_reducible apply un_eF | with_reducible apply un_xV | with_reducible apply un_tof | with_reducible apply un_tru | with_reducible apply un_tnot | with_reducible apply un_tand | with_reducible apply un_tor | with_reducible apply un_oat | with_reducible apply un_slice | with_reducible apply un_items | with_reducible apply un_range1 | with_reducible apply un_range2 | with_reducible apply un_comp | with_reducible apply un_comp2 | with_reducible apply un_zip | with_reducible apply un_rev | with_reducible apply un_mtT | with_reducible apply un_callV | with_reducible apply tabUn_cons | with_reducible apply un_tupRg | with_reducible apply un_lstRg | with_reducible apply un_enum | with_reducible apply us_seq | with_reducible apply us_set | with_reducible apply us_ret | with_reducible apply us_expr | with_reducible apply us_if | with_reducible apply us_for | with_reducible apply us_while | with_reducible apply us_mut | with_reducible apply us_ix | with_reducible apply us_try | with_reducible apply us_setall | with_reducible apply us_unp | with_reducible apply us_augI | with_reducible apply us_augIx | with_reducible apply us_ix2 | with_reducible apply un_dct | with_reducible apply us_ext))
theorem um_copies_of : UnM m_copies_of := um_run (by
  unfold b_copies_of
  repeat' (first | exact um_held | exact um_moved | exact um_sum_for | with_reducible exact un_var _ | with_reducible exact un_c _ | with_reducible exact tabUn_nil | with_reducible exact un_nil | with_reducible exact un_xnil | with_reducible exact un_tt | with_reducible exact un_ono | with_reducible exact us_skip | with_reducible exact us_retN | with_reducible exact us_raise | with_reducible exact us_bk | with_reducible exact us_ct | with_reducible apply un_cons | with_reducible apply un_xcons | with_reducible apply un_bin | with_reducible apply un_un | with_reducible apply un_cb | with_reducible apply un_mt | with_reducible apply un_tup | with_reducible apply un_lst | with_reducible apply un_calls | with_reducible apply un_call0 | with_reducible apply un_and | with_reducible apply un_or | with_reducible apply un_not | with_reducible apply un_if | with_reducible apply un_chain | with_reducible apply un_eF | with_reducible apply un_xV | with_reducible apply un_tof | with_reducible apply un_tru | with_reducible apply un_tnot | with_reducible apply un_tand | with_reducible apply un_tor | with_reducible apply un_oat | with_reducible apply un_slice | with_reducible apply un_items | with_reducible apply un_range1 | with_reducible apply un_range2 | with_reducible apply un_comp | with_reducible apply un_comp2 | with_reducible apply un_zip | with_reducible apply un_rev | with_reducible apply un_mtT | with_reducible apply un_callV | with_reducible apply tabUn_cons | with_reducible apply un_tupRg | with_reducible apply un_lstRg | with_reducible apply un_enum | with_reducible apply us_seq | with_reducible apply us_set | with_reducible apply us_ret | with_reducible apply us_expr | with_reducible apply us_if | with_reducible apply us_for | with_reducible apply us_while | with_reducible apply us_mut | with_reducible apply us_ix | with_reducible apply us_try | with_reducible apply us_setall | with_reducible apply us_unp | with_reducible apply us_augI | with_reducible apply us_augIx | with_reducible apply us_ix2 | with_reducible apply un_dct | with_reducible apply us_ext))
theorem us_b_reached_by_1 : UnS b_reached_by_1 := by
  unfold b_reached_by_1
  repeat' (first | exact um_copies_of | with_reducible exact un_var _ | with_reducible exact un_c _ | with_reducible exact tabUn_nil | with_reducible exact un_nil | with_reducible exact un_xnil | with_reducible exact un_tt | with_reducible exact un_ono | with_reducible exact us_skip | with_reducible exact us_retN | with_reducible exact us_raise | with_reducible exact us_bk | with_reducible exact us_ct | with_reducible apply un_cons | with_reducible apply un_xcons | with_reducible apply un_bin | with_reducible apply un_un | with_reducible apply un_cb | with_reducible apply un_mt | with_reducible apply un_tup | with_reducible apply un_lst | with_reducible apply un_calls | with_reducible apply un_call0 | with_reducible apply un_and | with_reducible apply un_or | with_reducible apply un_not | with_reducible apply un_if | with_reducible apply un_chain | with_reducible apply un_eF | with_reducible apply un_xV | with_reducible apply un_tof | with_reducible apply un_tru | with_reducible apply un_tnot | with_reducible apply un_tand | with_reducible apply un_tor | with_reducible apply un_oat | with_reducible apply un_slice | with_reducible apply un_items | with_reducible apply un_range1 | with_reducible apply un_range2 | with_reducible apply un_comp | with_reducible apply un_comp2 | with_reducible apply un_zip | with_reducible apply un_rev | with_reducible apply un_mtT | with_reducible apply un_callV | with_reducible apply tabUn_cons | with_reducible apply un_tupRg | with_reducible apply un_lstRg | with_reducible apply un_enum | with_reducible apply us_seq | with_reducible apply us_set | with_reducible apply us_ret | with_reducible apply us_expr | with_reducible apply us_if | with_reducible apply us_for | with_reducible apply us_while | with_reducible apply us_mut | with_reducible apply us_ix | with_reducible apply us_try | with_reducible apply us_setall | with_reducible apply us_unp | with_reducible apply us_augI | with_reducible apply us_augIx | with_reducible apply us_ix2 | with_reducible apply un_dct | with_reducible apply us_ext)
theorem um_reached_by : UnM m_reached_by := um_run (by
  unfold b_reached_by
  repeat' (first | exact um_copies_of | exact us_b_reached_by_1 | with_reducible exact un_var _ | with_reducible exact un_c _ | with_reducible exact tabUn_nil | with_reducible exact un_nil | with_reducible exact un_xnil | with_reducible exact un_tt | with_reducible exact un_ono | with_reducible exact us_skip | with_reducible exact us_retN | with_reducible exact us_raise | with_reducible exact us_bk | with_reducible exact us_ct | with_reducible apply un_cons | with_reducible apply un_xcons | with_reducible apply un_bin | with_reducible apply un_un | with_reducible apply un_cb | with_reducible apply un_mt | with_reducible apply un_tup | with_reducible apply un_lst | with_reducible apply un_calls | with_reducible apply un_call0 | with_reducible apply un_and | with_reducible apply un_or | with_reducible apply un_not | with_reducible apply un_if | with_reducible apply un_chain | with_reducible apply un_eF | with_reducible apply un_xV | with_reducible apply un_tof | with_reducible apply un_tru | with_reducible apply un_tnot | with_reducible apply un_tand | with_reducible apply un_tor | with_reducible apply un_oat | with_reducible apply un_slice | with_reducible apply un_items | with_reducible apply un_range1 | with_reducible apply un_range2 | with_reducible apply un_comp | with_reducible apply un_comp2 | with_reducible apply un_zip | with_reducible apply un_rev | with_reducible apply un_mtT | with_reducible apply un_callV | with_reducible apply tabUn_cons | with_reducible apply un_tupRg | with_reducible apply un_lstRg | with_reducible apply un_enum | with_reducible apply us_seq | with_reducible apply us_set | with_reducible apply us_ret | with_reducible apply us_expr | with_reducible apply us_if | with_reducible apply us_for | with_reducible apply us_while | with_reducible apply us_mut | with_reducible apply us_ix | with_reducible apply us_try | with_reducible apply us_setall | with_reducible apply us_unp | with_reducible apply us_augI | with_reducible apply us_augIx | with_reducible apply us_ix2 | with_reducible apply un_dct | with_reducible apply us_ext))
theorem um_copy_ends : UnM m_copy_ends := um_run (by
  unfold b_copy_ends
  repeat' (first | exact um_check_crowd | exact um_check_square | exact um_copies_of | exact um_reached_by | with_reducible exact un_var _ | with_reducible exact un_c _ | with_reducible exact tabUn_nil | with_reducible exact un_nil | with_reducible exact un_xnil | with_reducible exact un_tt | with_reducible exact un_ono | with_reducible exact us_skip | with_reducible exact us_retN | with_reducible exact us_raise | with_reducible exact us_bk | with_reducible exact us_ct | with_reducible apply un_cons | with_reducible apply un_xcons | with_reducible apply un_bin | with_reducible apply un_un | with_reducible apply un_cb | with_reducible apply un_mt | with_reducible apply un_tup | with_reducible apply un_lst | with_reducible apply un_calls | with_reducible apply un_call0 | with_reducible apply un_and | with_reducible apply un_or | with_reducible apply un_not | with_reducible apply un_if | with_reducible apply un_chain | with_reducible apply un_eF | with_reducible apply un_xV | with_reducible apply un_tof | with_reducible apply un_tru | with_reducible apply un_tnot | with_reducible apply un_tand | with_reducible apply un_tor | with_reducible apply un_oat | with_reducible apply un_slice | with_reducible apply un_items | with_reducible apply un_range1 | with_reducible apply un_range2 | with_reducible apply un_comp | with_reducible apply un_comp2 | with_reducible apply un_zip | with_reducible apply un_rev | with_reducible apply un_mtT | with_reducible apply un_callV | with_reducible apply tabUn_cons | with_reducible apply un_tupRg | with_reducible apply un_lstRg | with_reducible apply un_enum | with_reducible apply us_seq | with_reducible apply us_set | with_reducible apply us_ret | with_reducible apply us_expr | with_reducible apply us_if | with_reducible apply us_for | with_reducible apply us_while | with_reducible apply us_mut | with_reducible apply us_ix | with_reducible apply us_try | with_reducible apply us_setall | with_reducible apply us_unp | with_reducible apply us_augI | with_reducible apply us_augIx | with_reducible apply us_ix2 | with_reducible apply un_dct | with_reducible apply us_ext))
theorem us_b_copy_ring_1 : UnS b_copy_ring_1 := by
  unfold b_copy_ring_1
  repeat' (first | exact um_check_crowd | exact um_check_square | exact um_copies_of | exact um_reached_by | with_reducible exact un_var _ | with_reducible exact un_c _ | with_reducible exact tabUn_nil | with_reducible exact un_nil | with_reducible exact un_xnil | with_reducible exact un_tt | with_reducible exact un_ono | with_reducible exact us_skip | with_reducible exact us_retN | with_reducible exact us_raise | with_reducible exact us_bk | with_reducible exact us_ct | with_reducible apply un_cons | with_reducible apply un_xcons | with_reducible apply un_bin | with_reducible apply un_un | with_reducible apply un_cb | with_reducible apply un_mt | with_reducible apply un_tup | with_reducible apply un_lst | with_reducible apply un_calls | with_reducible apply un_call0 | with_reducible apply un_and | with_reducible apply un_or | with_reducible apply un_not | with_reducible apply un_if | with_reducible apply un_chain | with_reducible apply un_eF | with_reducible apply un_xV | with_reducible apply un_tof | with_reducible apply un_tru | with_reducible apply un_tnot | with_reducible apply un_tand | with_reducible apply un_tor | with_reducible apply un_oat | with_reducible apply un_slice | with_reducible apply un_items | with_reducible apply un_range1 | with_reducible apply un_range2 | with_reducible apply un_comp | with_reducible apply un_comp2 | with_reducible apply un_zip | with_reducible apply un_rev | with_reducible apply un_mtT | with_reducible apply un_callV | with_reducible apply tabUn_cons | with_reducible apply un_tupRg | with_reducible apply un_lstRg | with_reducible apply un_enum | with_reducible apply us_seq | with_reducible apply us_set | with_reducible apply us_ret | with_reducible apply us_expr | with_reducible apply us_if | with_reducible apply us_for | with_reducible apply us_while | with_reducible apply us_mut | with_reducible apply us_ix | with_reducible apply us_try | with_reducible apply us_setall | with_reducible apply us_unp | with_reducible apply us_augI | with_reducible apply us_augIx | with_reducible apply us_ix2 | with_reducible apply un_dct | with_reducible apply us_ext)
theorem us_b_copy_ring_2 : UnS b_copy_ring_2 := by
  unfold b_copy_ring_2
  repeat' (first | exact um_check_crowd | exact um_check_square | exact um_copies_of | exact um_reached_by | exact us_b_copy_ring_1 | with_reducible exact un_var _ | with_reducible exact un_c _ | with_reducible exact tabUn_nil | with_reducible exact un_nil | with_reducible exact un_xnil | with_reducible exact un_tt | with_reducible exact un_ono | with_reducible exact us_skip | with_reducible exact us_retN | with_reducible exact us_raise | with_reducible exact us_bk | with_reducible exact us_ct | with_reducible apply un_cons | with_reducible apply un_xcons | with_reducible apply un_bin | with_reducible apply un_un | with_reducible apply un_cb | with_reducible apply un_mt | with_reducible apply un_tup | with_reducible apply un_lst | with_reducible apply un_calls | with_reducible apply un_call0 | with_reducible apply un_and | with_reducible apply un_or | with_reducible apply un_not | with_reducible apply un_if | with_reducible apply un_chain | with_reducible apply un_eF | with_reducible apply un_xV | with_reducible apply un_tof | with_reducible apply un_tru | with_reducible apply un_tnot | with_reducible apply un_tand | with_reducible apply un_tor | with_reducible apply un_oat | with_reducible apply un_slice | with_reducible apply un_items | with_reducible apply un_range1 | with_reducible apply un_range2 | with_reducible apply un_comp | with_reducible apply un_comp2 | with_reducible apply un_zip | with_reducible apply un_rev | with_reducible apply un_mtT | with_reducible apply un_callV | with_reducible apply tabUn_cons | with_reducible apply un_tupRg | with_reducible apply un_lstRg | with_reducible apply un_enum | with_reducible apply us_seq | with_reducible apply us_set | with_reducible apply us_ret | with_reducible apply us_expr | with_reducible apply us_if | with_reducible apply us_for | with_reducible apply us_while | with_reducible apply us_mut | with_reducible apply us_ix | with_reducible apply us_try | with_reducible apply us_setall | with_reducible apply us_unp | with_reducible apply us_augI | with_reducible apply us_augIx | with_reducible apply us_ix2 | with_reducible apply un_dct | with_reducible apply us_ext)
theorem us_b_copy_ring_3 : UnS b_copy_ring_3 := by
  unfold b_copy_ring_3
  repeat' (first | exact um_check_crowd | exact um_check_square | exact um_copies_of | exact um_reached_by | exact us_b_copy_ring_1 | exact us_b_copy_ring_2 | with_reducible exact un_var _ | with_reducible exact un_c _ | with_reducible exact tabUn_nil | with_reducible exact un_nil | with_reducible exact un_xnil | with_reducible exact un_tt | with_reducible exact un_ono | with_reducible exact us_skip | with_reducible exact us_retN | with_reducible exact us_raise | with_reducible exact us_bk | with_reducible exact us_ct | with_reducible apply un_cons | with_reducible apply un_xcons | with_reducible apply un_bin | with_reducible apply un_un | with_reducible apply un_cb | with_reducible apply un_mt | with_reducible apply un_tup | with_reducible apply un_lst | with_reducible apply un_calls | with_reducible apply un_call0 | with_reducible apply un_and | with_reducible apply un_or | with_reducible apply un_not | with_reducible apply un_if | with_reducible apply un_chain | with_reducible apply un_eF | with_reducible apply un_xV | with_reducible apply un_tof | with_reducible apply un_tru | with_reducible apply un_tnot | with_reducible apply un_tand | with_reducible apply un_tor | with_reducible apply un_oat | with_reducible apply un_slice | with_reducible apply un_items | with_reducible apply un_range1 | with_reducible apply un_range2 | with_reducible apply un_comp | with_reducible apply un_comp2 | with_reducible apply un_zip | with_reducible apply un_rev | with_reducible apply un_mtT | with_reducible apply un_callV | with_reducible apply tabUn_cons | with_reducible apply un_tupRg | with_reducible apply un_lstRg | with_reducible apply un_enum | with_reducible apply us_seq | with_reducible apply us_set | with_reducible apply us_ret | with_reducible apply us_expr | with_reducible apply us_if | with_reducible apply us_for | with_reducible apply us_while | with_reducible apply us_mut | with_reducible apply us_ix | with_reducible apply us_try | with_reducible apply us_setall | with_reducible apply us_unp | with_reducible apply us_augI | with_reducible apply us_augIx | with_reducible apply us_ix2 | with_reducible apply un_dct | with_reducible apply us_ext)
theorem us_b_copy_ring_4 : UnS b_copy_ring_4 := by
  unfold b_copy_ring_4
  repeat' (first | exact um_check_crowd | exact um_check_square | exact um_copies_of | exact um_reached_by | exact us_b_copy_ring_1 | exact us_b_copy_ring_2 | exact us_b_copy_ring_3 | with_reducible exact un_var _ | with_reducible exact un_c _ | with_reducible exact tabUn_nil | with_reducible exact un_nil | with_reducible exact un_xnil | with_reducible exact un_tt | with_reducible exact un_ono | with_reducible exact us_skip | with_reducible exact us_retN | with_reducible exact us_raise | with_reducible exact us_bk | with_reducible exact us_ct | with_reducible apply un_cons | with_reducible apply un_xcons | with_reducible apply un_bin | with_reducible apply un_un | with_reducible apply un_cb | with_reducible apply un_mt | with_reducible apply un_tup | with_reducible apply un_lst | with_reducible apply un_calls | with_reducible apply un_call0 | with_reducible apply un_and | with_reducible apply un_or | with_reducible apply un_not | with_reducible apply un_if | with_reducible apply un_chain | with_reducible apply un_eF | with_reducible apply un_xV | with_reducible apply un_tof | with_reducible apply un_tru | with_reducible apply un_tnot | with_reducible apply un_tand | with_reducible apply un_tor | with_reducible apply un_oat | with_reducible apply un_slice | with_reducible apply un_items | with_reducible apply un_range1 | with_reducible apply un_range2 | with_reducible apply un_comp | with_reducible apply un_comp2 | with_reducible apply un_zip | with_reducible apply un_rev | with_reducible apply un_mtT | with_reducible apply un_callV | with_reducible apply tabUn_cons | with_reducible apply un_tupRg | with_reducible apply un_lstRg | with_reducible apply un_enum | with_reducible apply us_seq | with_reducible apply us_set | with_reducible apply us_ret | with_reducible apply us_expr | with_reducible apply us_if | with_reducible apply us_for | with_reducible apply us_while | with_reducible apply us_mut | with_reducible apply us_ix | with_reducible apply us_try | with_reducible apply us_setall | with_reducible apply us_unp | with_reducible apply us_augI | with_reducible apply us_augIx | with_reducible apply us_ix2 | with_reducible apply un_dct | with_reducible apply us_ext)
theorem um_copy_ring : UnM m_copy_ring := um_run (by
  unfold b_copy_ring
  repeat' (first | exact um_check_crowd | exact um_check_square | exact um_copies_of | exact um_reached_by | exact us_b_copy_ring_1 | exact us_b_copy_ring_2 | exact us_b_copy_ring_3 | exact us_b_copy_ring_4 | with_reducible exact un_var _ | with_reducible exact un_c _ | with_reducible exact tabUn_nil | with_reducible exact un_nil | with_reducible exact un_xnil | with_reducible exact un_tt | with_reducible exact un_ono | with_reducible exact us_skip | with_reducible exact us_retN | with_reducible exact us_raise | with_reducible exact us_bk | with_reducible exact us_ct | with_reducible apply un_cons | with_reducible apply un_xcons | with_reducible apply un_bin | with_reducible apply un_un | with_reducible apply un_cb | with_reducible apply un_mt | with_reducible apply un_tup | with_reducible apply un_lst | with_reducible apply un_calls | with_reducible apply un_call0 | with_reducible apply un_and | with_reducible apply un_or | with_reducible apply un_not | with_reducible apply un_if | with_reducible apply un_chain | with_reducible apply un_eF | with_reducible apply un_xV | with_reducible apply un_tof | with_reducible apply un_tru | with_reducible apply un_tnot | with_reducible apply un_tand | with_reducible apply un_tor | with_reducible apply un_oat | with_reducible apply un_slice | with_reducible apply un_items | with_reducible apply un_range1 | with_reducible apply un_range2 | with_reducible apply un_comp | with_reducible apply un_comp2 | with_reducible apply un_zip | with_reducible apply un_rev | with_reducible apply un_mtT | with_reducible apply un_callV | with_reducible apply tabUn_cons | with_reducible apply un_tupRg | with_reducible apply un_lstRg | with_reducible apply un_enum | with_reducible apply us_seq | with_reducible apply us_set | with_reducible apply us_ret | with_reducible apply us_expr | with_reducible apply us_if | with_reducible apply us_for | with_reducible apply us_while | with_reducible apply us_mut | with_reducible apply us_ix | with_reducible apply us_try | with_reducible apply us_setall | with_reducible apply us_unp | with_reducible apply us_augI | with_reducible apply us_augIx | with_reducible apply us_ix2 | with_reducible apply un_dct | with_reducible apply us_ext))
theorem um__law_crowd_right : UnM m__law_crowd_right := um_run (by
  unfold b__law_crowd_right
  repeat' (first | with_reducible exact un_var _ | with_reducible exact un_c _ | with_reducible exact tabUn_nil | with_reducible exact un_nil | with_reducible exact un_xnil | with_reducible exact un_tt | with_reducible exact un_ono | with_reducible exact us_skip | with_reducible exact us_retN | with_reducible exact us_raise | with_reducible exact us_bk | with_reducible exact us_ct | with_reducible apply un_cons | with_reducible apply un_xcons | with_reducible apply un_bin | with_reducible apply un_un | with_reducible apply un_cb | with_reducible apply un_mt | with_reducible apply un_tup | with_reducible apply un_lst | with_reducible apply un_calls | with_reducible apply un_call0 | with_reducible apply un_and | with_reducible apply un_or | with_reducible apply un_not | with_reducible apply un_if | with_reducible apply un_chain | with_reducible apply un_eF | with_reducible apply un_xV | with_reducible apply un_tof | with_reducible apply un_tru | with_reducible apply un_tnot | with_reducible apply un_tand | with_reducible apply un_tor | with_reducible apply un_oat | with_reducible apply un_slice | with_reducible apply un_items | with_reducible apply un_range1 | with_reducible apply un_range2 | with_reducible apply un_comp | with_reducible apply un_comp2 | with_reducible apply un_zip | with_reducible apply un_rev | with_reducible apply un_mtT | with_reducible apply un_callV | with_reducible apply tabUn_cons | with_reducible apply un_tupRg | with_reducible apply un_lstRg | with_reducible apply un_enum | with_reducible apply us_seq | with_reducible apply us_set | with_reducible apply us_ret | with_reducible apply us_expr | with_reducible apply us_if | with_reducible apply us_for | with_reducible apply us_while | with_reducible apply us_mut | with_reducible apply us_ix | with_reducible apply us_try | with_reducible apply us_setall | with_reducible apply us_unp | with_reducible apply us_augI | with_reducible apply us_augIx | with_reducible apply us_ix2 | with_reducible apply un_dct | with_reducible apply us_ext))
theorem um__law_ring : UnM m__law_ring := um_run (by
  unfold b__law_ring
  repeat' (first | exact um__law_copies | exact um__law_crowd_right | exact um__law_spread | with_reducible exact un_var _ | with_reducible exact un_c _ | with_reducible exact tabUn_nil | with_reducible exact un_nil | with_reducible exact un_xnil | with_reducible exact un_tt | with_reducible exact un_ono | with_reducible exact us_skip | with_reducible exact us_retN | with_reducible exact us_raise | with_reducible exact us_bk | with_reducible exact us_ct | with_reducible apply un_cons | with_reducible apply un_xcons | with_reducible apply un_bin | with_reducible apply un_un | with_reducible apply un_cb | with_reducible apply un_mt | with_reducible apply un_tup | with_reducible apply un_lst | with_reducible apply un_calls | with_reducible apply un_call0 | with_reducible apply un_and | with_reducible apply un_or | with_reducible apply un_not | with_reducible apply un_if | with_reducible apply un_chain | with_reducible apply un_eF | with_reducible apply un_xV | with_reducible apply un_tof | with_reducible apply un_tru | with_reducible apply un_tnot | with_reducible apply un_tand | with_reducible apply un_tor | with_reducible apply un_oat | with_reducible apply un_slice | with_reducible apply un_items | with_reducible apply un_range1 | with_reducible apply un_range2 | with_reducible apply un_comp | with_reducible apply un_comp2 | with_reducible apply un_zip | with_reducible apply un_rev | with_reducible apply un_mtT | with_reducible apply un_callV | with_reducible apply tabUn_cons | with_reducible apply un_tupRg | with_reducible apply un_lstRg | with_reducible apply un_enum | with_reducible apply us_seq | with_reducible apply us_set | with_reducible apply us_ret | with_reducible apply us_expr | with_reducible apply us_if | with_reducible apply us_for | with_reducible apply us_while | with_reducible apply us_mut | with_reducible apply us_ix | with_reducible apply us_try | with_reducible apply us_setall | with_reducible apply us_unp | with_reducible apply us_augI | with_reducible apply us_augIx | with_reducible apply us_ix2 | with_reducible apply un_dct | with_reducible apply us_ext))
theorem um__law_says : UnM m__law_says := um_run (by
  unfold b__law_says
  repeat' (first | with_reducible exact un_var _ | with_reducible exact un_c _ | with_reducible exact tabUn_nil | with_reducible exact un_nil | with_reducible exact un_xnil | with_reducible exact un_tt | with_reducible exact un_ono | with_reducible exact us_skip | with_reducible exact us_retN | with_reducible exact us_raise | with_reducible exact us_bk | with_reducible exact us_ct | with_reducible apply un_cons | with_reducible apply un_xcons | with_reducible apply un_bin | with_reducible apply un_un | with_reducible apply un_cb | with_reducible apply un_mt | with_reducible apply un_tup | with_reducible apply un_lst | with_reducible apply un_calls | with_reducible apply un_call0 | with_reducible apply un_and | with_reducible apply un_or | with_reducible apply un_not | with_reducible apply un_if | with_reducible apply un_chain | with_reducible apply un_eF | with_reducible apply un_xV | with_reducible apply un_tof | with_reducible apply un_tru | with_reducible apply un_tnot | with_reducible apply un_tand | with_reducible apply un_tor | with_reducible apply un_oat | with_reducible apply un_slice | with_reducible apply un_items | with_reducible apply un_range1 | with_reducible apply un_range2 | with_reducible apply un_comp | with_reducible apply un_comp2 | with_reducible apply un_zip | with_reducible apply un_rev | with_reducible apply un_mtT | with_reducible apply un_callV | with_reducible apply tabUn_cons | with_reducible apply un_tupRg | with_reducible apply un_lstRg | with_reducible apply un_enum | with_reducible apply us_seq | with_reducible apply us_set | with_reducible apply us_ret | with_reducible apply us_expr | with_reducible apply us_if | with_reducible apply us_for | with_reducible apply us_while | with_reducible apply us_mut | with_reducible apply us_ix | with_reducible apply us_try | with_reducible apply us_setall | with_reducible apply us_unp | with_reducible apply us_augI | with_reducible apply us_augIx | with_reducible apply us_ix2 | with_reducible apply un_dct | with_reducible apply us_ext))
theorem um_takes_copy_ring : UnM m_takes_copy_ring := um_run (by
  unfold b_takes_copy_ring
  repeat' (first | exact um_check_crowd | exact um_check_square | exact um_copies_of | exact um_is_crowd | exact um_reached_by | with_reducible exact un_var _ | with_reducible exact un_c _ | with_reducible exact tabUn_nil | with_reducible exact un_nil | with_reducible exact un_xnil | with_reducible exact un_tt | with_reducible exact un_ono | with_reducible exact us_skip | with_reducible exact us_retN | with_reducible exact us_raise | with_reducible exact us_bk | with_reducible exact us_ct | with_reducible apply un_cons | with_reducible apply un_xcons | with_reducible apply un_bin | with_reducible apply un_un | with_reducible apply un_cb | with_reducible apply un_mt | with_reducible apply un_tup | with_reducible apply un_lst | with_reducible apply un_calls | with_reducible apply un_call0 | with_reducible apply un_and | with_reducible apply un_or | with_reducible apply un_not | with_reducible apply un_if | with_reducible apply un_chain | with_reducible apply un_eF | with_reducible apply un_xV | with_reducible apply un_tof | with_reducible apply un_tru | with_reducible apply un_tnot | with_reducible apply un_tand | with_reducible apply un_tor | with_reducible apply un_oat | with_reducible apply un_slice | with_reducible apply un_items | with_reducible apply un_range1 | with_reducible apply un_range2 | with_reducible apply un_comp | with_reducible apply un_comp2 | with_reducible apply un_zip | with_reducible apply un_rev | with_reducible apply un_mtT | with_reducible apply un_callV | with_reducible apply tabUn_cons | with_reducible apply un_tupRg | with_reducible apply un_lstRg | with_reducible apply un_enum | with_reducible apply us_seq | with_reducible apply us_set | with_reducible apply us_ret | with_reducible apply us_expr | with_reducible apply us_if | with_reducible apply us_for | with_reducible apply us_while | with_reducible apply us_mut | with_reducible apply us_ix | with_reducible apply us_try | with_reducible apply us_setall | with_reducible apply us_unp | with_reducible apply us_augI | with_reducible apply us_augIx | with_reducible apply us_ix2 | with_reducible apply un_dct | with_reducible apply us_ext))
theorem um__law_falls : UnM m__law_falls := um_run (by
  unfold b__law_falls
  repeat' (first | exact um_copy_ends | exact um_copy_ring | exact um_takes_copy_ring | with_reducible exact un_var _ | with_reducible exact un_c _ | with_reducible exact tabUn_nil | with_reducible exact un_nil | with_reducible exact un_xnil | with_reducible exact un_tt | with_reducible exact un_ono | with_reducible exact us_skip | with_reducible exact us_retN | with_reducible exact us_raise | with_reducible exact us_bk | with_reducible exact us_ct | with_reducible apply un_cons | with_reducible apply un_xcons | with_reducible apply un_bin | with_reducible apply un_un | with_reducible apply un_cb | with_reducible apply un_mt | with_reducible apply un_tup | with_reducible apply un_lst | with_reducible apply un_calls | with_reducible apply un_call0 | with_reducible apply un_and | with_reducible apply un_or | with_reducible apply un_not | with_reducible apply un_if | with_reducible apply un_chain | with_reducible apply un_eF | with_reducible apply un_xV | with_reducible apply un_tof | with_reducible apply un_tru | with_reducible apply un_tnot | with_reducible apply un_tand | with_reducible apply un_tor | with_reducible apply un_oat | with_reducible apply un_slice | with_reducible apply un_items | with_reducible apply un_range1 | with_reducible apply un_range2 | with_reducible apply un_comp | with_reducible apply un_comp2 | with_reducible apply un_zip | with_reducible apply un_rev | with_reducible apply un_mtT | with_reducible apply un_callV | with_reducible apply tabUn_cons | with_reducible apply un_tupRg | with_reducible apply un_lstRg | with_reducible apply un_enum | with_reducible apply us_seq | with_reducible apply us_set | with_reducible apply us_ret | with_reducible apply us_expr | with_reducible apply us_if | with_reducible apply us_for | with_reducible apply us_while | with_reducible apply us_mut | with_reducible apply us_ix | with_reducible apply us_try | with_reducible apply us_setall | with_reducible apply us_unp | with_reducible apply us_augI | with_reducible apply us_augIx | with_reducible apply us_ix2 | with_reducible apply un_dct | with_reducible apply us_ext))

/-! games, data values, draws: what the laws with this `_law_game` have in common -/
abbrev Tb := List (List Int)
def rowD (r : List Int) : D := .tup (r.map D.int)
def tbD (t : Tb) : D := .tup (t.map rowD)
def tat (t : Tb) (i j : Nat) : Int := (t.getD i []).getD j 0
structure Rect (m n : Nat) (t : Tb) : Prop where
  len : t.length = m
  row : ∀ r ∈ t, r.length = n
  lo : ∀ r ∈ t, ∀ x ∈ r, -100 ≤ x ∧ x ≤ 100
structure Gm where
  m : Nat
  n : Nat
  a : Tb
  b : Tb
  m1 : 1 ≤ m
  m4 : m ≤ 4
  n1 : 1 ≤ n
  n4 : n ≤ 4
  ra : Rect m n a
  rb : Rect m n b
namespace Gm
def d (G : Gm) : D := .tup [tbD G.a, tbD G.b]
def tb (G : Gm) (h : Nat) : Tb := if h = 0 then G.a else G.b
def sz (G : Gm) (h : Nat) : Nat := if h = 0 then G.m else G.n
end Gm
section
variable (G : Gm)
theorem tb_rect (h : Nat) : Rect G.m G.n (G.tb h) := by
  unfold Gm.tb
  split
  · exact G.ra
  · exact G.rb
theorem idx_row {m n : Nat} {t : Tb} (r : Rect m n t) {i : Nat} (hi : i < m) : idxD (tbD t) (.int (i : Nat)) = some (rowD (t.getD i [])) := by
  refine idx_tup ?_
  rw [List.getElem?_map, List.getElem?_eq_getElem (by rw [r.len]; exact hi), List.getD_eq_getElem?_getD, List.getElem?_eq_getElem (by rw [r.len]; exact hi)]
  rfl
theorem row_len {m n : Nat} {t : Tb} (r : Rect m n t) {i : Nat} (hi : i < m) : (t.getD i []).length = n := by
  rw [List.getD_eq_getElem?_getD, List.getElem?_eq_getElem (by rw [r.len]; exact hi)]
  exact r.row _ (List.getElem_mem _)
theorem idx_at {m n : Nat} {t : Tb} (r : Rect m n t) {i j : Nat} (hi : i < m) (hj : j < n) : idxD (rowD (t.getD i [])) (.int (j : Nat)) = some (.int (tat t i j)) := by
  refine idx_tup ?_
  have hl := row_len r hi
  unfold tat
  rw [List.getElem?_map, List.getD_eq_getElem?_getD (l := t.getD i []), List.getElem?_eq_getElem (by omega)]
  rfl
theorem idx_gm {h : Nat} (hh : h < 2) : idxD G.d (.int (h : Nat)) = some (tbD (G.tb h)) := by
  refine idx_tup ?_
  match h, hh with
  | 0, _ => rfl
  | 1, _ => rfl
theorem len_tb {m n : Nat} {t : Tb} (r : Rect m n t) : lenD [tbD t] = some (.int (m : Nat)) := by
  show some (D.int ((t.map rowD).length : Nat)) = _
  rw [List.length_map, r.len]
theorem len_row {r : List Int} {n : Nat} (h : r.length = n) : lenD [rowD r] = some (.int (n : Nat)) := by
  show some (D.int ((r.map D.int).length : Nat)) = _
  rw [List.length_map, h]
def szD : D := .tup [.int (G.m : Nat), .int (G.n : Nat)]
theorem idx_sz {h : Nat} (hh : h < 2) : idxD (szD G) (.int (h : Nat)) = some (.int (G.sz h : Nat)) := by
  refine idx_tup ?_
  match h, hh with
  | 0, _ => rfl
  | 1, _ => rfl
theorem sz_le (h : Nat) : 1 ≤ G.sz h ∧ G.sz h ≤ 4 := by
  unfold Gm.sz
  split
  · exact ⟨G.m1, G.m4⟩
  · exact ⟨G.n1, G.n4⟩
theorem range_ok {S : DSt} {g g1 : DI.G} {t : ET} {n : Nat} (h : t S g = .ok (.int (n : Nat)) g1) (hn : n ≤ 1000) : iRange1 (aCons t aNil) S g = .ok ((List.range n).map fun (i : Nat) => D.int (i : Nat)) g1 := by
  rw [range1_ok h (by omega) (by omega), Int.toNat_natCast, rangeL_eq]
theorem mn_le : G.m * G.n ≤ 16 := Nat.mul_le_mul G.m4 G.n4
theorem mn_pos : 1 ≤ G.m * G.n := Nat.mul_le_mul G.m1 G.n1
theorem szD_nol : (szD G).nol = true := rfl
theorem nol_map {α : Type} (f : α → D) (h : ∀ x, (f x).nol = true) : ∀ xs : List α, nolAll (xs.map f) = true
  | [] => rfl
  | x :: xs => by rw [List.map_cons]; simp only [nolAll, h x, nol_map f h xs, Bool.and_self]
theorem add_lst {a b : List D} (h : a.length + b.length ≤ 1000) : addD (.lst a) (.lst b) = some (.f (a ++ b)) := by
  unfold addD; dsimp only; rw [if_pos (Nat.le_of_lt (small1000 h))]
theorem add_tup {a b : List D} (h : a.length + b.length ≤ 1000) : addD (.tup a) (.tup b) = some (.v (.tup (a ++ b))) := by
  unfold addD; dsimp only; rw [if_pos (Nat.le_of_lt (small1000 h))]
theorem whole_int (i : Int) (g : DI.G) : m_is_whole [.int i] g = .ok (.bl true) g := rfl
theorem table_ok {t : Tb} (r : Rect G.m G.n t) (g : DI.G) : m_is_table [tbD t, .int (G.m : Nat), .int (G.n : Nat)] g = .ok (.bl true) g := by
  refine call_body rfl ?_
  refine (sSeq_nx (S1 := startD 5 [tbD t, .int (G.m : Nat), .int (G.n : Nat)]) (g1 := g) ((sIf_f (tor_f (tNot_f (isi_ok (var_ok rfl) rfl)) (tOf_ok (bin_ok (cb_ok (args1 (var_ok rfl)) (len_tb r)) (var_ok rfl) (ne_int_self _))))).trans rfl)).trans ?_
  have h1 : compL [3] (.nm 3) tTrue (eAnd (dUn (isiD "tuple") (eVar 3)) (dBin eqD (dCB lenD (aCons (eVar 3) aNil)) (eVar 2))) (view (startD 5 [tbD t, .int (G.m : Nat), .int (G.n : Nat)])) (t.map rowD) g = .ok (t.map fun _ => .bl true) g := by
    refine (compL_map rowD (fun _ => true) (fun _ => .bl true) (xs := t) fun x hx => ⟨_, rfl, rfl, fun _ => by exact and_t (un_ok (z := .bl true) (var_ok rfl) rfl) rfl (bin_ok (cb_ok (args1 (var_ok rfl)) (len_row (r.row x hx))) (var_ok rfl) (eq_int_self _))⟩).trans (by rw [filter_all])
  refine (sSeq_nx (S1 := startD 5 [tbD t, .int (G.m : Nat), .int (G.n : Nat)]) (g1 := g) ((sIf_f (tNot_f (tTru_ok (cb_ok (args1 (eF_ok (comp_ok (items_ok (var_ok rfl) rfl) h1))) (all_tt t)) rfl))).trans rfl)).trans ?_
  have h2 := comp2_map (own := [3, 4]) (own1 := [4]) (tg := .nm 3) (tg1 := .nm 4) (c := tTrue) (c1 := tTrue) (it1 := iItems (eVar 3)) (e := eAnd (eCalls 1 m_is_whole (aCons (eVar 4) aNil)) (eChain (ltI fun i j => decide (i ≤ j)) (ltI fun i j => decide (i ≤ j)) (dUn negD (eC c_MOST_WORTH)) (eVar 4) (eC c_MOST_WORTH))) (S := view (startD 5 [tbD t, .int (G.m : Nat), .int (G.n : Nat)])) (g := g) rowD D.int (fun r => r) (fun _ _ => true) (fun _ _ => .bl true) (xs := t) fun x hx => ⟨_, rfl, rfl, items_ok (var_ok rfl) rfl, fun y hy => ⟨_, rfl, rfl, fun _ => and_t (calls_ok (args1 (var_ok rfl)) rfl (whole_int y g)) rfl (chain_t (un_ok rfl rfl) (var_ok rfl) (by
    show some (D.bl (decide (-100 ≤ y))) = _
    rw [decide_eq_true (r.lo x hx y hy).1]) rfl (by
    show some (D.bl (decide (y ≤ 100))) = _
    rw [decide_eq_true (r.lo x hx y hy).2]))⟩⟩
  have hflat : (t.flatMap fun x => ((x.filter fun _ => true).map fun _ => D.bl true)) = (t.flatMap fun x => x).map fun _ => D.bl true := by
    rw [List.map_flatMap]
    congr 1
    funext x
    rw [filter_all]
  have hlen : ∀ t : Tb, (∀ x ∈ t, x.length = G.n) → (t.flatMap fun x => x).length = t.length * G.n := by
    intro t
    induction t with
    | nil => intro _; simp
    | cons x t ih => intro h; rw [List.flatMap_cons, List.length_append, ih fun y hy => h y (List.mem_cons_of_mem _ hy), h x List.mem_cons_self, List.length_cons, Nat.succ_mul]; omega
  rw [hflat] at h2
  exact ret_ok (cb_ok (args1 (eF_ok (comp2_ok (items_ok (var_ok rfl) rfl) h2 (by rw [List.length_map, hlen t r.row, r.len]; have := mn_le G; omega)))) (all_tt (t.flatMap fun x => x)))
end
inductive All2 {α : Type} (P : α → D → Prop) : List α → List D → Prop
  | nil : All2 P [] []
  | cons {x : α} {d : D} {xs : List α} {ds : List D} : P x d → All2 P xs ds → All2 P (x :: xs) (d :: ds)
theorem All2.len {α : Type} {P : α → D → Prop} {xs : List α} {ds : List D} (h : All2 P xs ds) : ds.length = xs.length := by
  induction h with
  | nil => rfl
  | cons _ _ ih => rw [List.length_cons, List.length_cons, ih]
theorem All2.snoc {α : Type} {P : α → D → Prop} {xs : List α} {ds : List D} {x : α} {d : D} (h : All2 P xs ds) (p : P x d) : All2 P (xs ++ [x]) (ds ++ [d]) := by
  induction h with
  | nil => exact .cons p .nil
  | cons q _ ih => exact .cons q ih
theorem All2.get {α : Type} {P : α → D → Prop} {xs : List α} {ds : List D} (h : All2 P xs ds) : ∀ {i : Nat} {x : α}, xs[i]? = some x → ∃ d, ds[i]? = some d ∧ P x d := by
  induction h with
  | nil => intro i x e; simp at e
  | cons q _ ih =>
    intro i x e
    cases i with
    | zero => simp at e; subst e; exact ⟨_, rfl, q⟩
    | succ i => obtain ⟨d, h1, h2⟩ := ih (i := i) (x := x) (by simpa using e); exact ⟨d, by simpa using h1, h2⟩
/-- the first place of what is there -/
theorem firstAt_some {p : D → Bool} : ∀ {ds : List D} {n : Nat}, (∃ d ∈ ds, p d = true) → ∃ k, firstAt p ds n = some k
  | [], _, h => by obtain ⟨d, h, _⟩ := h; cases h
  | d :: ds, n, h => by
    unfold firstAt
    split
    · exact ⟨n, rfl⟩
    · rename_i hp
      obtain ⟨e, he, pe⟩ := h
      rcases List.mem_cons.mp he with rfl | he
      · exact absurd pe hp
      · exact firstAt_some ⟨e, he, pe⟩
mutual
def cv : D → Bool
  | .non => true
  | .bl _ => true
  | .int _ => true
  | .str _ => true
  | .tup xs => cvA xs
  | .lst xs => cvA xs
  | _ => false
def cvA : List D → Bool
  | [] => true
  | x :: xs => cv x && cvA xs
end
theorem cvA_mem : ∀ {xs : List D}, cvA xs = true → ∀ x ∈ xs, cv x = true
  | [], _, _, h => nomatch h
  | y :: ys, h, x, hx => by
    simp only [cvA, Bool.and_eq_true] at h
    rcases List.mem_cons.mp hx with rfl | hx
    · exact h.1
    · exact cvA_mem h.2 x hx
theorem cvA_of : ∀ {xs : List D}, (∀ x ∈ xs, cv x = true) → cvA xs = true
  | [], _ => rfl
  | y :: ys, h => by
    simp only [cvA, Bool.and_eq_true]
    exact ⟨h y List.mem_cons_self, cvA_of fun x hx => h x (List.mem_cons_of_mem _ hx)⟩
abbrev tIs2 (t : ET) (r : BT) : BT := tOrD (tNotD (tTru (dUn (isiD "tuple") t))) (tOrD (tOf (dBin neD (dCB lenD (aCons t aNil)) (eC (.int 2)))) r)
theorem two_go {t : ET} {r : BT} {S : DSt} {g : G} {a b : D} {k : Bool} (h : t S g = .ok (.tup [a, b]) g) (h2 : r S g = .ok k g) : tIs2 t r S g = .ok k g :=
  tor_f (tNot_f (isi_ok h rfl)) (tor_f (tOf_ok (bin_ok (cb_ok (args1 h) rfl) rfl (ne_int_self 2))) h2)
theorem not_two {v : D} (hv : cv v = true) : (∃ a b, v = .tup [a, b] ∧ cv a = true ∧ cv b = true) ∨ ((∀ a b, v ≠ .tup [a, b]) ∧ ∀ (t : ET) (r : BT) (S : DSt) (g : G), t S g = .ok v g → tIs2 t r S g = .ok true g) := by
  cases v with
  | non => exact .inr ⟨fun _ _ e => (nomatch e), fun t r S g h => tor_t (tNot_t (isi_ok h rfl))⟩
  | bl _ => exact .inr ⟨fun _ _ e => (nomatch e), fun t r S g h => tor_t (tNot_t (isi_ok h rfl))⟩
  | int _ => exact .inr ⟨fun _ _ e => (nomatch e), fun t r S g h => tor_t (tNot_t (isi_ok h rfl))⟩
  | lst _ => exact .inr ⟨fun _ _ e => (nomatch e), fun t r S g h => tor_t (tNot_t (isi_ok h rfl))⟩
  | str _ => exact .inr ⟨fun _ _ e => (nomatch e), fun t r S g h => tor_t (tNot_t (isi_ok h rfl))⟩
  | draw => cases hv
  | fn _ => cases hv
  | dct _ _ => cases hv
  | tup xs =>
    by_cases hl : xs.length = 2
    · match xs, hl with
      | [a, b], _ => exact .inl ⟨a, b, rfl, cvA_mem hv a (by simp), cvA_mem hv b (by simp)⟩
    · refine .inr ⟨fun a b e => hl (by cases e; rfl), fun t r S g h => tor_f (tNot_f (isi_ok h rfl)) (tor_t (tOf_ok (bin_ok (cb_ok (args1 h) (show lenD [.tup xs] = some (.int (xs.length : Nat)) from rfl)) rfl ?_)))⟩
      rw [ne_int]
      simp only [Option.some.injEq, D.bl.injEq, Bool.not_eq_true', beq_eq_false_iff_ne]
      omega
/-- a whole number under n -/
def wh : D → Bool
  | .int _ => true
  | _ => false
theorem whole_ok {d : D} (hd : cv d = true) (g : DI.G) : m_is_whole [d] g = .ok (.bl (wh d)) g := by
  cases d <;> first | rfl | cases hd
theorem chain2 {S : DSt} {g : DI.G} {t u v : ET} {i j k : Int} {p q : Int → Int → Bool} (h1 : t S g = .ok (.int i) g) (h2 : u S g = .ok (.int j) g) (h3 : v S g = .ok (.int k) g) : eChain (ltI p) (ltI q) t u v S g = .ok (.bl (p i j && q j k)) g := by
  cases hp : p i j with
  | true => exact (chain_t h1 h2 (by show some (D.bl (p i j)) = _; rw [hp]) h3 rfl).trans (by rw [Bool.true_and])
  | false => exact chain_f h1 h2 (by show some (D.bl (p i j)) = _; rw [hp])
theorem sSet_val {i : Nat} {B : List Nat} {t : XT} {S : SS} {g g' : G} {f : Fv} (h : t (view S) g = .ok f g') (hz : frzB B S = S) : sSet i B t S g = .nx (S.set i (some f.sv)) g' := by
  have hp : post f B S = S := by unfold post; rw [hz]; split <;> rfl
  unfold sSet
  rw [h]
  simp only [hp]
theorem sSeq_ret {a b : SB} {S : SS} {g g' : G} {d : D} (h : a S g = .ret d g') : sSeq a b S g = .ret d g' := by unfold sSeq; rw [h]
theorem All2.of {α : Type} {P : α → D → Prop} : ∀ {xs : List α} {ds : List D}, ds.length = xs.length → (∀ (i : Nat) x d, xs[i]? = some x → ds[i]? = some d → P x d) → All2 P xs ds
  | [], [], _, _ => .nil
  | x :: xs, d :: ds, hl, h => .cons (h 0 x d rfl rfl) (All2.of (by simpa using hl) fun i x d h1 h2 => h (i + 1) x d (by simpa using h1) (by simpa using h2))
def isNon : D → Bool
  | .non => true
  | _ => false
theorem notND_ok (d : D) : notND d .non = some (.bl (!isNon d)) := by cases d <;> rfl
theorem isND_ok (d : D) : isND d .non = some (.bl (isNon d)) := by cases d <;> rfl
theorem isNon_iff {d : D} : isNon d = true ↔ d = .non := by cases d <;> simp [isNon]
theorem ax_cons {t : XT} {ts : DSt → G → R (List Fv)} {S : DSt} {g g1 g2 : G} {f : Fv} {fs : List Fv} (h : t S g = .ok f g1) (h2 : ts S g1 = .ok fs g2) : axCons t ts S g = .ok (f :: fs) g2 := by unfold axCons; rw [h, R.bind_ok, h2]; rfl
theorem sSetAll_val {is B : List Nat} {t : DSt → G → R (List Fv)} {S : SS} {g g' : G} {fs : List Fv} (h : t (view S) g = .ok fs g') (hl : fs.length = is.length) (hz : frzB B S = S) : sSetAll is B t S g = .nx (setFs is fs S) g' := by
  unfold sSetAll
  rw [h]
  dsimp only
  rw [if_pos hl, hz]
  split <;> rfl
theorem bool_dec {k : Bool} {P : Prop} [Decidable P] (h : k = true ↔ P) : k = decide P := by
  cases k with
  | true => exact (decide_eq_true (h.mp rfl)).symm
  | false => exact (decide_eq_false fun p => nomatch h.mpr p).symm
theorem pairD_zip {α : Type} (f : α → D) : ∀ (xs : List α) (ds : List D), pairD (xs.map f) ds = (xs.zip ds).map fun p => .tup [f p.1, p.2]
  | [], _ => rfl
  | _ :: _, [] => rfl
  | x :: xs, d :: ds => by rw [List.map_cons]; unfold pairD; rw [pairD_zip f xs ds]; rfl
theorem All2.zip {α : Type} {P : α → D → Prop} : ∀ {xs : List α} {ds : List D}, ds.length = xs.length → (All2 P xs ds ↔ ∀ p ∈ xs.zip ds, P p.1 p.2)
  | [], [], _ => ⟨fun _ p h => (nomatch h), fun _ => All2.nil⟩
  | x :: xs, d :: ds, hl => by
    have ih := All2.zip (P := P) (xs := xs) (ds := ds) (by simpa using hl)
    constructor
    · intro h
      cases h with
      | cons a b =>
        intro p hp
        rcases List.mem_cons.mp hp with rfl | hp
        · exact a
        · exact ih.mp b p hp
    · intro h
      exact .cons (h (x, d) List.mem_cons_self) (ih.mpr fun p hp => h p (List.mem_cons_of_mem _ hp))
/-- a tuple as long as xs, or not -/
theorem long_cases {v : D} (hv : cv v = true) (n : Nat) : (∃ ms, v = .tup ms ∧ ms.length = n ∧ ∀ d ∈ ms, cv d = true) ∨ ((∀ ms, v = .tup ms → ms.length ≠ n) ∧ ∀ (t u : ET) (S : DSt) (g : G), t S g = .ok v g → u S g = .ok (.int (n : Nat)) g → tOrD (tNotD (tTru (dUn (isiD "tuple") t))) (tOf (dBin neD (dCB lenD (aCons t aNil)) u)) S g = .ok true g) := by
  cases v with
  | non => exact .inr ⟨fun _ e => (nomatch e), fun t u S g h _ => tor_t (tNot_t (isi_ok h rfl))⟩
  | bl _ => exact .inr ⟨fun _ e => (nomatch e), fun t u S g h _ => tor_t (tNot_t (isi_ok h rfl))⟩
  | int _ => exact .inr ⟨fun _ e => (nomatch e), fun t u S g h _ => tor_t (tNot_t (isi_ok h rfl))⟩
  | lst _ => exact .inr ⟨fun _ e => (nomatch e), fun t u S g h _ => tor_t (tNot_t (isi_ok h rfl))⟩
  | str _ => exact .inr ⟨fun _ e => (nomatch e), fun t u S g h _ => tor_t (tNot_t (isi_ok h rfl))⟩
  | draw => cases hv
  | fn _ => cases hv
  | dct _ _ => cases hv
  | tup xs =>
    by_cases hl : xs.length = n
    · exact .inl ⟨xs, rfl, hl, cvA_mem hv⟩
    · refine .inr ⟨fun ms e => by cases e; exact hl, fun t u S g h h2 => tor_f (tNot_f (isi_ok h rfl)) (tOf_ok (bin_ok (cb_ok (args1 h) (show lenD [.tup xs] = some (.int (xs.length : Nat)) from rfl)) h2 ?_))⟩
      rw [ne_int]
      simp only [Option.some.injEq, D.bl.injEq, Bool.not_eq_true', beq_eq_false_iff_ne]
      omega
theorem long_go {ms : List D} {n : Nat} (hl : ms.length = n) {t u : ET} {S : DSt} {g : G} (h : t S g = .ok (.tup ms) g) (h2 : u S g = .ok (.int (n : Nat)) g) : tOrD (tNotD (tTru (dUn (isiD "tuple") t))) (tOf (dBin neD (dCB lenD (aCons t aNil)) u)) S g = .ok false g :=
  tor_f (tNot_f (isi_ok h rfl)) (tOf_ok (bin_ok (cb_ok (args1 h) (show lenD [.tup ms] = some (.int (ms.length : Nat)) from rfl)) h2 (by rw [hl]; exact ne_int_self _)))
theorem take_ok {n : Nat} (h0 : 0 < n) (h1 : n < 2 ^ 20) {g : G} (hg : -1 ≤ g.at_) : ∃ (k : Nat) (g' : G), m__law_take [.draw, .int (n : Nat)] g = .ok (.int (k : Nat)) g' ∧ k < n ∧ -1 ≤ g'.at_ := by
  have hn : okN ((n : Nat) : Int) := ⟨by omega, by
    rw [Int.natAbs_natCast]
    exact Nat.lt_of_lt_of_le ((Nat.log2_lt (by omega)).mpr h1) (by decide)⟩
  obtain ⟨i, g', e, h2, h3, h4⟩ := mTake_ok hn hg
  obtain ⟨k, rfl⟩ := Int.eq_ofNat_of_zero_le h2
  exact ⟨k, g', e, by omega, h4⟩
/-- a draw as an expression -/
theorem etake_ok {n i : Nat} {t : ET} (h0 : 0 < n) (h1 : n < 2 ^ 20) {S : DSt} (hS : S[i]? = some (some .draw)) {g : G} (ht : ∀ g, t S g = .ok (.int (n : Nat)) g) (hg : -1 ≤ g.at_) : ∃ (k : Nat) (g' : G), eCalls 2 m__law_take (aCons (eVar i) (aCons t aNil)) S g = .ok (.int (k : Nat)) g' ∧ k < n ∧ -1 ≤ g'.at_ := by
  obtain ⟨k, g', e, h2, h3⟩ := take_ok h0 h1 hg
  exact ⟨k, g', calls_ok (args2 (var_ok hS) (ht g)) rfl e, h2, h3⟩
def bo : Nat → D → Prop
  | 0, _ => False
  | n + 1, d => d = .non ∨ (∃ i, d = .int i) ∨ ∃ ds, d = .tup ds ∧ ds.length ≤ 100 ∧ ∀ x ∈ ds, bo n x
theorem bo_cv : ∀ {n : Nat} {d : D}, bo n d → cv d = true
  | 0, _, h => h.elim
  | n + 1, d, h => by
    rcases h with rfl | ⟨i, rfl⟩ | ⟨ds, rfl, _, h⟩
    · rfl
    · rfl
    · show cvA ds = true
      exact cvA_of fun x hx => bo_cv (h x hx)
theorem cutD_mem {xs : List D} {lo hi : Option Int} {x : D} (h : x ∈ cutD xs lo hi) : x ∈ xs := List.mem_of_mem_drop (List.mem_of_mem_take h)
theorem cutD_len (xs : List D) (lo hi : Option Int) : (cutD xs lo hi).length ≤ xs.length := by
  unfold cutD
  rw [List.length_take, List.length_drop]
  omega
theorem pick {ds : List D} {k : Nat} (h : k < ds.length) : ∃ d ∈ ds, idxD (.lst ds) (.int (k : Nat)) = some d := ⟨ds[k], List.getElem_mem h, idx_lst (List.getElem?_eq_getElem h)⟩
theorem min_is : ∀ {ns : List Int} {n m : Int}, m ∈ n :: ns → (∀ x ∈ n :: ns, m ≤ x) → ns.foldl min n = m
  | [], n, m, h, _ => by have := List.mem_singleton.mp h; exact this.symm
  | y :: ns, n, m, h, h2 => by
    rw [List.foldl_cons]
    have a := h2 n (by simp)
    have b := h2 y (by simp)
    refine min_is (ns := ns) ?_ ?_
    · rcases List.mem_cons.mp h with rfl | h
      · rw [Int.min_eq_left b]; exact List.mem_cons_self
      · rcases List.mem_cons.mp h with rfl | h
        · rw [Int.min_eq_right a]; exact List.mem_cons_self
        · exact List.mem_cons_of_mem _ h
    · intro x hx
      rcases List.mem_cons.mp hx with rfl | hx
      · omega
      · exact h2 x (by simp [hx])
theorem forL_ix {tg : Tgt} {body : SB} (N : Nat) (P : Nat → SS → G → Prop) : ∀ (ds : List D) (i : Nat), i + ds.length ≤ N → (∀ d ∈ ds, ∀ j S g, j < N → P j S g → ∃ S1 S2 g2, setS tg d S = some S1 ∧ body S1 g = .nx S2 g2 ∧ P (j + 1) S2 g2) → ∀ S g, P i S g → ∃ S' g', forL tg body ds S g = .nx S' g' ∧ P (i + ds.length) S' g'
  | [], i, _, _, S, g, r => ⟨S, g, rfl, r⟩
  | d :: ds, i, hN, h, S, g, r => by
    rw [List.length_cons] at hN
    obtain ⟨S1, S2, g2, h1, h2, h3⟩ := h d List.mem_cons_self i S g (by omega) r
    obtain ⟨S', g', h4, h5⟩ := forL_ix N P ds (i + 1) (by omega) (fun e he => h e (List.mem_cons_of_mem _ he)) S2 g2 h3
    refine ⟨S', g', ?_, by rw [List.length_cons, show i + (ds.length + 1) = i + 1 + ds.length by omega]; exact h5⟩
    unfold forL
    rw [h1]
    dsimp only
    rw [h2]
    exact h4
def Bd (lo hi : Int) (d : D) : Prop := ∃ i : Int, d = .int i ∧ lo ≤ i ∧ i ≤ hi
theorem compL_rand {α : Type} {own : List Nat} {tg : Tgt} {e : ET} {S : DSt} (dat : α → D) (P : D → Prop) : ∀ {xs : List α}, (∀ x ∈ xs, ∃ S1, setD tg (dat x) (wipeD S own) = some S1 ∧ ∀ g : G, -1 ≤ g.at_ → ∃ y g', e S1 g = .ok y g' ∧ P y ∧ -1 ≤ g'.at_) →
    ∀ g : G, -1 ≤ g.at_ → ∃ ys g', compL own tg tTrue e S (xs.map dat) g = .ok ys g' ∧ ys.length = xs.length ∧ (∀ y ∈ ys, P y) ∧ -1 ≤ g'.at_
  | [], _, g, hg => ⟨[], g, rfl, rfl, (fun _ h => nomatch h), hg⟩
  | x :: xs, h, g, hg => by
    obtain ⟨S1, h1, h2⟩ := h x List.mem_cons_self
    obtain ⟨y, g1, e1, p1, hg1⟩ := h2 g hg
    obtain ⟨ys, g2, e2, l2, p2, hg2⟩ := compL_rand (own := own) (tg := tg) (e := e) (S := S) dat P (xs := xs) (fun z hz => h z (List.mem_cons_of_mem _ hz)) g1 hg1
    refine ⟨y :: ys, g2, ?_, by rw [List.length_cons, List.length_cons, l2], fun z hz => ?_, hg2⟩
    · rw [List.map_cons]
      unfold compL
      rw [h1]
      dsimp only
      rw [show tTrue S1 g = .ok true g from rfl]
      dsimp only
      rw [e1]
      dsimp only
      rw [e2]
      rfl
    · rcases List.mem_cons.mp hz with rfl | hz
      · exact p1
      · exact p2 z hz
theorem rcomp {own : List Nat} {v tv n : Nat} {e : ET} {S : DSt} (P : D → Prop) (hS : S[tv]? = some (some (.int (n : Nat)))) (hn : n ≤ 1000) (h : ∀ i < n, ∃ S1, setD (.nm v) (.int (i : Nat)) (wipeD S own) = some S1 ∧ ∀ g : G, -1 ≤ g.at_ → ∃ y g', e S1 g = .ok y g' ∧ P y ∧ -1 ≤ g'.at_) (g : G) (hg : -1 ≤ g.at_) :
    ∃ ys g', xComp own (.nm v) (iRange1 (aCons (eVar tv) aNil)) tTrue e S g = .ok (.f ys) g' ∧ ys.length = n ∧ (∀ y ∈ ys, P y) ∧ -1 ≤ g'.at_ := by
  obtain ⟨ys, g', h1, h2, h3, h4⟩ := compL_rand (own := own) (tg := .nm v) (e := e) (S := S) (fun (i : Nat) => D.int (i : Nat)) P (xs := List.range n) (fun i hi => h i (List.mem_range.mp hi)) g hg
  exact ⟨ys, g', comp_ok (range_ok (var_ok hS) hn) h1, h2.trans List.length_range, h3, h4⟩
theorem map_of {α : Type} (f : α → D) (R : α → Prop) : ∀ {ds : List D}, (∀ y ∈ ds, ∃ x, y = f x ∧ R x) → ∃ xs : List α, ds = xs.map f ∧ ∀ x ∈ xs, R x
  | [], _ => ⟨[], rfl, fun _ h => nomatch h⟩
  | d :: ds, h => by
    obtain ⟨x, rfl, hx⟩ := h d List.mem_cons_self
    obtain ⟨xs, rfl, hxs⟩ := map_of f R (ds := ds) fun y hy => h y (List.mem_cons_of_mem _ hy)
    refine ⟨x :: xs, rfl, fun y hy => ?_⟩
    rcases List.mem_cons.mp hy with rfl | hy
    · exact hx
    · exact hxs y hy
def RowP (n : Nat) (lo hi : Int) (d : D) : Prop := ∃ r : List Int, d = rowD r ∧ r.length = n ∧ ∀ x ∈ r, lo ≤ x ∧ x ≤ hi
theorem row_of {ds : List D} {n : Nat} {lo hi : Int} (hl : ds.length = n) (h : ∀ y ∈ ds, Bd lo hi y) : RowP n lo hi (.tup ds) := by
  obtain ⟨r, rfl, hr⟩ := map_of D.int (fun x => lo ≤ x ∧ x ≤ hi) h
  exact ⟨r, rfl, by rw [List.length_map] at hl; exact hl, hr⟩
theorem tb_of {ds : List D} {m n : Nat} (hl : ds.length = m) (h : ∀ y ∈ ds, RowP n (-100) 100 y) : ∃ t : Tb, D.tup ds = tbD t ∧ Rect m n t := by
  obtain ⟨t, rfl, ht⟩ := map_of rowD (fun r => r.length = n ∧ ∀ x ∈ r, -100 ≤ x ∧ x ≤ 100) h
  exact ⟨t, rfl, by rw [List.length_map] at hl; exact hl, fun r hr => (ht r hr).1, fun r hr => (ht r hr).2⟩
theorem idxP {ds : List D} {i : Nat} {P : D → Prop} (hi : i < ds.length) (h : ∀ y ∈ ds, P y) : ∃ y, idxD (.lst ds) (.int (i : Nat)) = some y ∧ P y := by
  obtain ⟨d, hd, e⟩ := pick hi
  exact ⟨d, e, h d hd⟩
theorem intL_map : ∀ ns : List Int, intL (ns.map D.int) = some ns
  | [] => rfl
  | n :: ns => by rw [List.map_cons]; unfold intL; rw [intL_map ns]; rfl
theorem sum_le {c : Int} : ∀ {ns : List Int}, (∀ x ∈ ns, 0 ≤ x ∧ x ≤ c) → 0 ≤ ns.sum ∧ ns.sum ≤ c * ns.length
  | [], _ => by simp
  | n :: ns, h => by
    have h1 := h n List.mem_cons_self
    have h2 := sum_le (c := c) (ns := ns) fun x hx => h x (List.mem_cons_of_mem _ hx)
    rw [List.sum_cons, List.length_cons]
    have : c * ((ns.length + 1 : Nat) : Int) = c * ns.length + c := by push_cast; rw [Int.mul_add, Int.mul_one]
    omega
theorem sum_bd {ds : List D} {c : Int} {k : Nat} (hl : ds.length ≤ k) (hc : 0 ≤ c) (h : ∀ y ∈ ds, Bd 0 c y) : ∃ d, sumD [.lst ds] = some d ∧ Bd 0 (c * k) d := by
  obtain ⟨ns, rfl, hn⟩ := map_of D.int (fun x => 0 ≤ x ∧ x ≤ c) h
  refine ⟨.int ns.sum, by unfold sumD; dsimp only; rw [intL_map]; rfl, _, rfl, ?_⟩
  obtain ⟨h1, h2⟩ := sum_le hn
  rw [List.length_map] at hl
  have : c * (ns.length : Int) ≤ c * k := Int.mul_le_mul_of_nonneg_left (by omega) hc
  omega
/-- a draw of 0 .. n - 1 -/
theorem draw_bd {n i : Nat} (h0 : 0 < n) (h1 : n < 2 ^ 20) {S : DSt} (hS : S[i]? = some (some .draw)) (g : G) (hg : -1 ≤ g.at_) : ∃ y g', eCalls 2 m__law_take (aCons (eVar i) (aCons (eC (.int (n : Nat))) aNil)) S g = .ok y g' ∧ Bd 0 (n - 1) y ∧ -1 ≤ g'.at_ := by
  obtain ⟨k, g', e, hk, hg'⟩ := etake_ok (t := eC (.int (n : Nat))) h0 h1 hS (fun _ => rfl) hg
  exact ⟨_, g', e, ⟨_, rfl, by omega, by omega⟩, hg'⟩
theorem sSet_gen {i : Nat} {B : List Nat} {t : XT} {S : SS} {g g' : G} {f : Fv} (h : t (view S) g = .ok f g') : ∃ S1, (S1 = S ∨ S1 = frzB B S) ∧ sSet i B t S g = .nx (S1.set i (some f.sv)) g' := by
  refine ⟨post f B S, ?_, ?_⟩
  · unfold post; split
    · exact .inl rfl
    · exact .inr rfl
  · unfold sSet
    rw [h]
theorem mul_sm {x y : Int} (h2 : y.natAbs < 2 ^ 16) : mulD (.int x) (.int y) = some (.int (x * y)) := by
  show (if CMul x y then some (D.int (x * y)) else none) = _
  rw [if_pos (mul_small h2)]
def LstP (n : Nat) (lo hi : Int) (d : D) : Prop := ∃ ys, d = .lst ys ∧ ys.length = n ∧ ∀ y ∈ ys, Bd lo hi y
theorem tat_bd {m n : Nat} {t : Tb} (r : Rect m n t) {i j : Nat} (hi : i < m) (hj : j < n) : -100 ≤ tat t i j ∧ tat t i j ≤ 100 := by
  have h1 : i < t.length := by rw [r.len]; exact hi
  have h2 : t.getD i [] ∈ t := by rw [List.getD_eq_getElem?_getD, List.getElem?_eq_getElem h1]; exact List.getElem_mem h1
  have h3 : j < (t.getD i []).length := by rw [r.row _ h2]; exact hj
  refine r.lo _ h2 _ ?_
  unfold tat
  rw [List.getD_eq_getElem?_getD (i := j), List.getElem?_eq_getElem h3]
  exact List.getElem_mem h3

/-! cells, moves -/
def cD (c : Nat × Nat) : D := .tup [.int (c.1 : Nat), .int (c.2 : Nat)]
namespace Gm
def ga (G : Gm) (h : Nat) (c : Nat × Nat) : Int := tat (G.tb h) c.1 c.2
def ok (G : Gm) (c : Nat × Nat) : Prop := c.1 < G.m ∧ c.2 < G.n
end Gm
def mv (h : Nat) (c : Nat × Nat) (k : Nat) : Nat × Nat := if h = 0 then (k, c.2) else (c.1, k)
section
variable (G : Gm)
theorem idx_c1 (c : Nat × Nat) : idxD (cD c) (.int 0) = some (.int (c.1 : Nat)) := idx_tup (k := 0) rfl
theorem idx_c2 (c : Nat × Nat) : idxD (cD c) (.int 1) = some (.int (c.2 : Nat)) := idx_tup (k := 1) rfl
def mvs (h : Nat) (c : Nat × Nat) : List (Nat × Nat) := (List.range (G.sz h)).map (mv h c)
theorem mvs_ok {h : Nat} {c : Nat × Nat} (hc : G.ok c) : ∀ e ∈ mvs G h c, G.ok e := by
  intro e he
  obtain ⟨k, hk, rfl⟩ := List.mem_map.mp he
  have hk := List.mem_range.mp hk
  unfold Gm.sz at hk
  unfold mv
  split at hk
  · rw [if_pos (by assumption)]; exact ⟨hk, hc.2⟩
  · rw [if_neg (by assumption)]; exact ⟨hc.1, hk⟩
theorem mvs_self {h : Nat} {c : Nat × Nat} (hc : G.ok c) : c ∈ mvs G h c := by
  unfold mvs
  refine List.mem_map.mpr ⟨if h = 0 then c.1 else c.2, List.mem_range.mpr ?_, ?_⟩
  · unfold Gm.sz; split
    · exact hc.1
    · exact hc.2
  · unfold mv; split <;> rfl
def top (h : Nat) (c : Nat × Nat) : Int := ((mvs G h c).map (G.ga h)).tail.foldl max (((mvs G h c).map (G.ga h)).headD 0)
theorem top_spec {h : Nat} {c : Nat × Nat} (hc : G.ok c) : (∃ e ∈ mvs G h c, G.ga h e = top G h c) ∧ ∀ e ∈ mvs G h c, G.ga h e ≤ top G h c := by
  unfold top
  cases hm : mvs G h c with
  | nil => have := mvs_self G (h := h) hc; rw [hm] at this; cases this
  | cons e es =>
    simp only [List.map_cons, List.tail_cons, List.headD_cons]
    obtain ⟨h1, h2⟩ := foldl_max_ge (es.map (G.ga h)) (G.ga h e)
    refine ⟨?_, fun f hf => ?_⟩
    · rcases foldl_max_mem (es.map (G.ga h)) (G.ga h e) with h3 | h3
      · exact ⟨e, List.mem_cons_self, h3.symm⟩
      · obtain ⟨f, hf, h4⟩ := List.mem_map.mp h3
        exact ⟨f, List.mem_cons_of_mem _ hf, h4⟩
    · rcases List.mem_cons.mp hf with rfl | hf
      · exact h1
      · exact h2 _ (List.mem_map.mpr ⟨f, hf, rfl⟩)
theorem max_map {h : Nat} {es : List (Nat × Nat)} {c : Nat × Nat} (hc : G.ok c) (hs : ∀ e, e ∈ es ↔ e ∈ mvs G h c) : maxL [.lst (es.map fun e => .int (G.ga h e))] = some (.int (top G h c)) := by
  obtain ⟨⟨f, hf, e1⟩, h2⟩ := top_spec G (h := h) hc
  have e : (es.map fun e => D.int (G.ga h e)) = (es.map (G.ga h)).map D.int := by rw [List.map_map]; rfl
  rw [e]
  cases hes : es.map (G.ga h) with
  | nil =>
    have := (hs c).mpr (mvs_self G hc)
    rw [List.map_eq_nil_iff.mp hes] at this
    cases this
  | cons x xs =>
    rw [max_ints, max_is (m := top G h c)]
    · rw [← hes, ← e1]
      exact List.mem_map.mpr ⟨f, (hs f).mpr hf, rfl⟩
    · intro y hy
      rw [← hes] at hy
      obtain ⟨e, he, rfl⟩ := List.mem_map.mp hy
      exact h2 e ((hs e).mp he)
def rowC (i : Nat) : List (Nat × Nat) := (List.range G.n).map fun j => (i, j)
def cls : List (Nat × Nat) := (List.range G.m).flatMap (rowC G)
theorem cls_ok : ∀ c, c ∈ cls G ↔ G.ok c := by
  intro c
  unfold cls rowC
  simp only [List.mem_flatMap, List.mem_map, List.mem_range]
  constructor
  · rintro ⟨i, hi, j, hj, rfl⟩
    exact ⟨hi, hj⟩
  · rintro ⟨h1, h2⟩
    exact ⟨c.1, h1, c.2, h2, rfl⟩
theorem rowC_len (i : Nat) : (rowC G i).length = G.n := by simp [rowC]
theorem flat_len (is : List Nat) : (is.flatMap (rowC G)).length = is.length * G.n := by
  induction is with
  | nil => simp
  | cons i is ih => rw [List.flatMap_cons, List.length_append, ih, rowC_len, List.length_cons, Nat.succ_mul]; omega
theorem cls_len : (cls G).length = G.m * G.n := by unfold cls; rw [flat_len, List.length_range]
theorem eqv_cD (c e : Nat × Nat) : PyData.eqv (cD c).py (cD e).py = decide (c = e) := by
  show (((c.1 : Int) == (e.1 : Int)) && (((c.2 : Int) == (e.2 : Int)) && true)) = decide (c = e)
  obtain ⟨a, b⟩ := c
  obtain ⟨a', b'⟩ := e
  rw [Bool.eq_iff_iff]
  simp only [Bool.and_eq_true, beq_iff_eq, decide_eq_true_eq, Prod.mk.injEq, and_true]
  omega
theorem sh_cD (c : Nat × Nat) : SeqAt.shaped (cD c).py = true := rfl
theorem ne_cD (c e : Nat × Nat) : neD (cD c) (cD e) = some (.bl (!decide (c = e))) := by
  unfold neD
  rw [if_pos ⟨sh_cD c, sh_cD e⟩, eqv_cD]
end

/-! games by `_law_pairs` -/
/-- m lines of n whole numbers that meet P -/
def MB (m n : Nat) (P : Nat → Nat → Int → Prop) (A : List (List D)) : Prop := A.length = m ∧ ∀ i < m, ∃ row : List D, A[i]? = some row ∧ row.length = n ∧ ∀ j < n, ∃ x : Int, row[j]? = some (.int x) ∧ P i j x
def pt (A : List (List D)) (i j : Nat) (y : Int) : List (List D) := A.set i ((A.getD i []).set j (.int y))
theorem MB.imp {m n : Nat} {P Q : Nat → Nat → Int → Prop} {A : List (List D)} (h : MB m n P A) (f : ∀ i j x, i < m → j < n → P i j x → Q i j x) : MB m n Q A := ⟨h.1, fun i hi => by
  obtain ⟨row, e, l, q⟩ := h.2 i hi
  exact ⟨row, e, l, fun j hj => let ⟨x, ex, p⟩ := q j hj; ⟨x, ex, f i j x hi hj p⟩⟩⟩
theorem ixN_nat {k : Nat} {i : Nat} (h : i < k) : ixN k ((i : Nat) : Int) = some i := by
  unfold ixN
  rw [if_pos (by omega), if_pos (by omega)]
  simp
theorem MB.put {m n : Nat} {P Q : Nat → Nat → Int → Prop} {A : List (List D)} (h : MB m n P A) {i j : Nat} (hi : i < m) (hj : j < n) {y : Int} (hy : Q i j y) (f : ∀ a b x, a < m → b < n → (a ≠ i ∨ b ≠ j) → P a b x → Q a b x) :
    putD A (i : Nat) (j : Nat) (.int y) = some (pt A i j y) ∧ MB m n Q (pt A i j y) := by
  obtain ⟨row, e, l, q⟩ := h.2 i hi
  have eg : A.getD i [] = row := by rw [List.getD_eq_getElem?_getD, e]; rfl
  refine ⟨?_, by unfold pt; rw [List.length_set]; exact h.1, fun a ha => ?_⟩
  · unfold putD pt
    rw [h.1, ixN_nat hi, Option.bind_some, e, Option.bind_some, l, ixN_nat hj, Option.map_some, eg]
  · unfold pt
    rw [eg]
    by_cases hia : i = a
    · subst hia
      refine ⟨_, List.getElem?_set_self (by rw [h.1]; exact hi), by rw [List.length_set]; exact l, fun b hb => ?_⟩
      by_cases hjb : j = b
      · subst hjb
        exact ⟨y, List.getElem?_set_self (by rw [l]; exact hj), hy⟩
      · obtain ⟨x, ex, p⟩ := q b hb
        exact ⟨x, by rw [List.getElem?_set_ne hjb]; exact ex, f i b x hi hb (.inr (Ne.symm hjb)) p⟩
    · obtain ⟨row', e', l', q'⟩ := h.2 a ha
      exact ⟨row', by rw [List.getElem?_set_ne hia]; exact e', l', fun b hb => let ⟨x, ex, p⟩ := q' b hb; ⟨x, ex, f a b x ha hb (.inl (Ne.symm hia)) p⟩⟩
/-- an item read -/
theorem MB.at {m n : Nat} {P : Nat → Nat → Int → Prop} {A : List (List D)} (h : MB m n P A) {i j : Nat} (hi : i < m) (hj : j < n) : ∃ (row : List D) (x : Int), idxD (.lst (A.map D.lst)) (.int (i : Nat)) = some (.lst row) ∧ idxD (.lst row) (.int (j : Nat)) = some (.int x) ∧ P i j x := by
  obtain ⟨row, e, l, q⟩ := h.2 i hi
  obtain ⟨x, ex, p⟩ := q j hj
  exact ⟨row, x, idx_lst (by rw [List.getElem?_map, e]; rfl), idx_lst ex, p⟩
theorem sPut_ok {b : Nat} {te ti tj : ET} {S : SS} {g g1 g2 g3 : G} {d : D} {i j : Int} {A A' : List (List D)} (h : te (view S) g = .ok d g1) (hn : d.nol = true) (h1 : ti (view S) g1 = .ok (.int i) g2) (h2 : tj (view S) g2 = .ok (.int j) g3) (hb : S[b]? = some (some (.mat A))) (hp : putD A i j d = some A') :
    sPut b te ti tj S g = .nx (S.set b (some (.mat A'))) g3 := by
  unfold sPut putS
  rw [h]
  dsimp only
  rw [if_pos hn, h1]
  dsimp only
  rw [h2]
  dsimp only
  rw [hb]
  dsimp only
  rw [hp]
theorem sPut2_ok {b1 b2 : Nat} {te t1 u1 t2 u2 : ET} {S : SS} {g g0 g1 g2 g3 g4 : G} {d1 d2 : D} {i1 j1 i2 j2 : Int} {A A' B B' : List (List D)} (h : te (view S) g = .ok (.tup [d1, d2]) g0) (hn1 : d1.nol = true) (hn2 : d2.nol = true) (h1 : t1 (view S) g0 = .ok (.int i1) g1) (h2 : u1 (view S) g1 = .ok (.int j1) g2) (hb : S[b1]? = some (some (.mat A))) (hp : putD A i1 j1 d1 = some A')
    (h3 : t2 (view (S.set b1 (some (.mat A')))) g2 = .ok (.int i2) g3) (h4 : u2 (view (S.set b1 (some (.mat A')))) g3 = .ok (.int j2) g4) (hb2 : (S.set b1 (some (.mat A')))[b2]? = some (some (.mat B))) (hp2 : putD B i2 j2 d2 = some B') :
    sPut2 b1 b2 te t1 u1 t2 u2 S g = .nx ((S.set b1 (some (.mat A'))).set b2 (some (.mat B'))) g4 := by
  unfold sPut2 putS
  rw [h]
  dsimp only
  rw [if_pos (by rw [hn1, hn2]; rfl), h1]
  dsimp only
  rw [h2]
  dsimp only
  rw [hb]
  dsimp only
  rw [hp]
  dsimp only
  rw [h3]
  dsimp only
  rw [h4]
  dsimp only
  rw [hb2]
  dsimp only
  rw [hp2]
theorem sSetM_ok {i : Nat} {B : List Nat} {t : DSt → G → R (List (List D))} {S : SS} {g g' : G} {A : List (List D)} (h : t (view S) g = .ok A g') : sSetM i B t S g = .nx (S.set i (some (.mat A))) g' := by
  unfold sSetM; rw [h]
/-- a matrix drawn -/
theorem compM_rand {α : Type} {own : List Nat} {tg : Tgt} {e : XT} {S : DSt} (dat : α → D) (P : List D → Prop) : ∀ {xs : List α}, (∀ x ∈ xs, ∃ S1, setD tg (dat x) (wipeD S own) = some S1 ∧ ∀ g : G, -1 ≤ g.at_ → ∃ y g', e S1 g = .ok (.f y) g' ∧ nolAll y = true ∧ P y ∧ -1 ≤ g'.at_) →
    ∀ g : G, -1 ≤ g.at_ → ∃ ys g', compM own tg tTrue e S (xs.map dat) g = .ok ys g' ∧ ys.length = xs.length ∧ (∀ y ∈ ys, P y) ∧ -1 ≤ g'.at_
  | [], _, g, hg => ⟨[], g, rfl, rfl, (fun _ h => nomatch h), hg⟩
  | x :: xs, h, g, hg => by
    obtain ⟨S1, h1, h2⟩ := h x List.mem_cons_self
    obtain ⟨y, g1, e1, n1, p1, hg1⟩ := h2 g hg
    obtain ⟨ys, g2, e2, l2, p2, hg2⟩ := compM_rand (own := own) (tg := tg) (e := e) (S := S) dat P (xs := xs) (fun z hz => h z (List.mem_cons_of_mem _ hz)) g1 hg1
    refine ⟨y :: ys, g2, ?_, by rw [List.length_cons, List.length_cons, l2], fun z hz => ?_, hg2⟩
    · rw [List.map_cons]
      unfold compM
      rw [h1]
      dsimp only
      rw [show tTrue S1 g = .ok true g from rfl]
      dsimp only
      rw [e1]
      dsimp only
      rw [if_pos n1, e2]
      rfl
    · rcases List.mem_cons.mp hz with rfl | hz
      · exact p1
      · exact p2 z hz
theorem range_split {n : Nat} {pre post : List Nat} {x : Nat} (h : List.range n = pre ++ x :: post) : pre.length = x ∧ x < n := by
  have h1 : (List.range n)[pre.length]? = some x := by rw [h]; simp
  have hl : pre.length < n := by
    have := congrArg List.length h
    rw [List.length_range, List.length_append, List.length_cons] at this
    omega
  rw [List.getElem?_range hl] at h1
  have := Option.some.inj h1
  omega
theorem bd_nol {ds : List D} {lo hi : Int} (h : ∀ y ∈ ds, Bd lo hi y) : nolAll ds = true := by
  induction ds with
  | nil => rfl
  | cons d ds ih =>
    obtain ⟨i, rfl, _⟩ := h d List.mem_cons_self
    simp only [nolAll, D.nol, ih fun y hy => h y (List.mem_cons_of_mem _ hy), Bool.and_self]
section
/-- `_law_pairs`' slots -/
abbrev PS (s m n w : Nat) (A B : List (List D)) (r c o e : List D) (i j : Option SV) : SS := [some (.val .draw), some (.val (.int (s : Nat))), some (.val (.int (m : Nat))), some (.val (.int (n : Nat))), some (.val (.int (w : Nat))), some (.mat A), some (.mat B), some (.own r), some (.own c), some (.own o), some (.own e), i, j]
/-- at the place (p, q): what is ahead is as it was drawn -/
def PQ (p q : Nat) : Nat → Nat → Int → Prop := fun i j x => -2 ≤ x ∧ x ≤ 23 ∧ ((p < i ∨ p = i ∧ q ≤ j) → 0 ≤ x ∧ x ≤ 5)
theorem PQ.step {p q a b : Nat} {x : Int} (hn : a ≠ p ∨ b ≠ q) (h : PQ p q a b x) : PQ p (q + 1) a b x := ⟨h.1, h.2.1, fun z => h.2.2 (by omega)⟩
theorem PQ.new {p q : Nat} {x : Int} (h1 : -2 ≤ x) (h2 : x ≤ 23) : PQ p (q + 1) p q x := ⟨h1, h2, fun z => by omega⟩
variable {s m n w : Nat} {A B : List (List D)} {r c o e : List D} {g : G}
end

/-! orders and games drawn -/
def nD (k : Nat) : D := .int (k : Nat)
theorem nol_nD (os : List Nat) : nolAll (os.map nD) = true := nol_map nD (fun _ => rfl) os
theorem sh_nD (k : Nat) : Sh 1 (nD k) := ⟨rfl, Nat.zero_le _⟩
theorem sh_nDs (os : List Nat) : Sh 2 (.lst (os.map nD)) := sh_lst (n := 1) fun d hd => by
  obtain ⟨k, _, rfl⟩ := List.mem_map.mp hd
  exact sh_nD k
theorem ne_nil {ds : List D} {n : Nat} (h : Sh n (.lst ds)) (hn : n ≤ 64) : neD (.lst ds) (.lst []) = some (.bl (!ds.isEmpty)) := by
  unfold neD
  rw [if_pos ⟨h.ok hn, (sh_lst (n := 0) (ds := []) fun d hd => by cases hd).ok (by omega)⟩]
  cases ds with
  | nil => rfl
  | cons d ds => rfl
theorem eq_nil {ds : List D} {n : Nat} (h : Sh n (.lst ds)) (hn : n ≤ 64) : eqD (.lst ds) (.lst []) = some (.bl ds.isEmpty) := by
  unfold eqD
  rw [if_pos ⟨h.ok hn, (sh_lst (n := 0) (ds := []) fun d hd => by cases hd).ok (by omega)⟩]
  cases ds with
  | nil => rfl
  | cons d ds => rfl

/-! moves told, cells judged, what is raised (from the texts of k43) -/
theorem forL2 {tg : Tgt} {body : SB} {d1 d2 : D} {S S1 S2 S3 S4 : SS} {g : G} (h1 : setS tg d1 S = some S1) (b1 : body S1 g = .nx S2 g) (h2 : setS tg d2 S2 = some S3) (b2 : body S3 g = .nx S4 g) : forL tg body [d1, d2] S g = .nx S4 g := by
  unfold forL; rw [h1]; dsimp only; rw [b1]; dsimp only; unfold forL; rw [h2]; dsimp only; rw [b2]; rfl
theorem sMut_val {i : Nat} {B : List Nat} {t : ET} {f : List D → D → Option (List D)} {S : SS} {g g' : G} {d : D} {ds es : List D} (h2 : t (view S) g = .ok d g') (hz : frzB B S = S) (h3 : S[i]? = some (some (.own ds))) (h4 : f ds d = some es) : sMut i B t f S g = .nx (S.set i (some (.own es))) g' := by
  have hp : post (.v d) B S = S := by
    unfold post
    rw [hz]
    split <;> rfl
  unfold sMut
  rw [if_pos (by rw [h3]; rfl), h2]
  simp only [hp, h3, h4]
theorem ext_ok {a b : List D} (h : a.length + b.length ≤ 1000) : extD a (.lst b) = some (a ++ b) := by
  unfold extD; dsimp only; rw [if_pos (Nat.le_of_lt (small1000 h))]
def leC (c e : Nat × Nat) : Bool := decide (c.1 < e.1 ∨ (c.1 = e.1 ∧ c.2 ≤ e.2))
theorem leD_cells (c e : Nat × Nat) : leC c e = leD (cD c) (cD e) := by
  have e1 : PySem.W.dataLt (cD e).py (cD c).py = _ := PySem.W.dataLt_pair (x := .int (e.1 : Nat)) (x' := .int (c.1 : Nat)) (y := .int (e.2 : Nat)) (y' := .int (c.2 : Nat)) (by simp only [PySem.W.alike]) (by simp only [PySem.W.alike])
  unfold leD
  rw [e1, PySem.W.dataLt_int, PySem.W.dataLt_int]
  have e2 : PyData.eqv (.int (e.1 : Nat)) (.int (c.1 : Nat)) = ((e.1 : Int) == (c.1 : Int)) := rfl
  rw [e2, Bool.eq_iff_iff]
  unfold leC
  by_cases h : e.1 = c.1
  · rw [if_pos (beq_iff_eq.mpr (by omega))]
    have e3 : PyData.eqv (.int (e.2 : Nat)) (.int (c.2 : Nat)) = ((e.2 : Int) == (c.2 : Int)) := rfl
    rw [e3]
    by_cases h2 : e.2 = c.2
    · rw [if_pos (beq_iff_eq.mpr (by omega))]
      simp only [decide_eq_true_eq, Bool.not_false, iff_true]
      omega
    · rw [if_neg (fun z => h2 (by have := beq_iff_eq.mp z; omega))]
      simp only [decide_eq_true_eq, Bool.not_eq_true', decide_eq_false_iff_not]
      omega
  · rw [if_neg (fun z => h (by have := beq_iff_eq.mp z; omega))]
    simp only [decide_eq_true_eq, Bool.not_eq_true', decide_eq_false_iff_not]
    omega
theorem sort_cells (es : List (Nat × Nat)) : sortD [.lst (es.map cD)] = some (.f ((es.mergeSort leC).map cD)) := by
  show sortL (es.map cD) = _
  have hp : ∀ p ∈ pyAll (es.map cD), ∃ c, p = (cD c).py := fun p h => by
    rw [pyAll_map, List.map_map] at h
    obtain ⟨c, _, rfl⟩ := List.mem_map.mp h
    exact ⟨c, rfl⟩
  unfold sortL
  refine (fun hc : alikeAll2 (pyAll (es.map cD)) = true ∧ sortable2 (pyAll (es.map cD)) = true ∧ (pyAll (es.map cD)).all (fun p => SeqAt.shaped p) = true => ?_) ⟨?_, ?_, ?_⟩
  · rw [if_pos hc, List.map_mergeSort (r := leC) (s := leD) fun a _ b _ => leD_cells a b]
  · unfold alikeAll2
    rw [List.all_eq_true]
    intro p h
    rw [List.all_eq_true]
    intro q h2
    obtain ⟨c, rfl⟩ := hp p h
    obtain ⟨e, rfl⟩ := hp q h2
    show PySem.W.alike (.tuple [.int _, .int _]) (.tuple [.int _, .int _]) = true
    simp only [PySem.W.alike, PySem.W.alikeAll, Bool.and_self]
  · unfold sortable2
    rw [Bool.or_eq_true]
    left
    rw [List.all_eq_true]
    intro p h
    obtain ⟨c, rfl⟩ := hp p h
    rfl
  · rw [List.all_eq_true]
    intro p h
    obtain ⟨c, rfl⟩ := hp p h
    exact sh_cD c
theorem shC (c : Nat × Nat) : Sh 2 (cD c) := sh_tup (n := 1) fun d hd => by
  rcases List.mem_cons.mp hd with rfl | hd
  · exact sh_nD c.1
  · rw [List.mem_singleton.mp hd]; exact sh_nD c.2
theorem sExpr_er {B : List Nat} {t : ET} {S : SS} {g g' : G} {x : Exn} (h : t (view S) g = .er x g') : sExpr B t S g = .er x (frzB B S) g' := by unfold sExpr; rw [h]
theorem sRet_er {B : List Nat} {t : ET} {S : SS} {g g' : G} {x : Exn} (h : t (view S) g = .er x g') : sRet B t S g = .er x (frzB B S) g' := by unfold sRet; rw [h]
theorem sSeq_er {a b : SB} {S S' : SS} {g g' : G} {x : Exn} (h : a S g = .er x S' g') : sSeq a b S g = .er x S' g' := by unfold sSeq; rw [h]
theorem sExpr_nx {B : List Nat} {t : ET} {S : SS} {g g' : G} (h : t (view S) g = .ok .non g') : sExpr B t S g = .nx S g' := by unfold sExpr; rw [h]; rfl
abbrev mf : Exn := ⟨"Malformed", []⟩
theorem told_er {a b : SB} {S S' : SS} {g g' : G} {d : D} (h : a S g = .er mf S' g') (h2 : b S' g' = .ret d g') : sTry sub_Malformed a b S g = .ret d g' := by
  unfold sTry
  rw [h]
  dsimp only
  rw [show sub_Malformed "Malformed" = some true by decide +kernel]
  dsimp only
  rw [h2]
theorem isz_whole {x : D} (h : cv x = true) {S : DSt} {g : DI.G} {t : ET} (ht : t S g = .ok x g) : eAnd (dUn (isiD "int") t) (eNot (dUn (isiD "bool") t)) S g = .ok (.bl (wh x)) g := by
  cases x with
  | non => exact and_f (un_ok ht rfl) rfl
  | bl b => exact and_t (un_ok ht rfl) rfl (not_ok (a := .bl true) (k := true) (un_ok ht rfl) rfl)
  | int i => exact and_t (un_ok ht rfl) rfl (not_ok (a := .bl false) (k := false) (un_ok ht rfl) rfl)
  | str z => exact and_f (un_ok ht rfl) rfl
  | tup _ => exact and_f (un_ok ht rfl) rfl
  | lst _ => exact and_f (un_ok ht rfl) rfl
  | _ => cases h
theorem two_whole {a b : D} {vs : Nat} {e : ET} {S : DSt} {g : DI.G} {t : ET} (ht : t S g = .ok (.tup [a, b]) g) (he : ∀ x ∈ [a, b], ∃ S1, setD (.nm vs) x (wipeD S [vs]) = some S1 ∧ e S1 g = .ok (.bl (wh x)) g) :
    tNotD (tTru (dCB allD (aCons (eF (xComp [vs] (.nm vs) (iItems t) tTrue e)) aNil))) S g = .ok (!(wh a && wh b)) g := by
  have hcm := compL_map (own := [vs]) (tg := .nm vs) (c := tTrue) (e := e) (S := S) (g := g) (fun x : D => x) (fun _ => true) (fun x => .bl (wh x)) (xs := [a, b]) fun x hx => by
    obtain ⟨S1, h1, h2⟩ := he x hx
    exact ⟨S1, h1, rfl, fun _ => h2⟩
  rw [List.map_id' [a, b], filter_all] at hcm
  refine (tNot_ok (tTru_ok (cb_ok (args1 (eF_ok (comp_ok (items_ok ht rfl) hcm))) (all_true wh [a, b])) rfl)).trans ?_
  simp
theorem wh_int {d : D} (h : wh d = true) : ∃ i, d = .int i := by
  cases d with
  | int i => exact ⟨i, rfl⟩
  | _ => cases h
def rg (P : Nat → Nat → Prop) : Prop := P 1 1 ∧ P 1 2 ∧ P 1 3 ∧ P 1 4 ∧ P 2 1 ∧ P 2 2 ∧ P 2 3 ∧ P 2 4 ∧ P 3 1 ∧ P 3 2 ∧ P 3 3 ∧ P 3 4 ∧ P 4 1 ∧ P 4 2 ∧ P 4 3 ∧ P 4 4
theorem rg_at {P : Nat → Nat → Prop} (h : rg P) {m n : Nat} (m1 : 1 ≤ m) (m4 : m ≤ 4) (n1 : 1 ≤ n) (n4 : n ≤ 4) : P m n := by
  obtain ⟨h11, h12, h13, h14, h21, h22, h23, h24, h31, h32, h33, h34, h41, h42, h43, h44⟩ := h
  have hm : m = 1 ∨ m = 2 ∨ m = 3 ∨ m = 4 := by omega
  have hn : n = 1 ∨ n = 2 ∨ n = 3 ∨ n = 4 := by omega
  rcases hm with rfl | rfl | rfl | rfl <;> rcases hn with rfl | rfl | rfl | rfl <;> assumption
def clsL (m n : Nat) : List (Nat × Nat) := (List.range m).flatMap fun i => (List.range n).map fun j => (i, j)
theorem cls_sorted : rg fun m n => (clsL m n).Pairwise fun a b => leC a b = true := by unfold rg; decide +kernel
theorem in_cells (b : Nat × Nat) (xs : List (Nat × Nat)) : inD (cD b) (.lst (xs.map cD)) = some (.bl (decide (b ∈ xs))) := by
  unfold inD inB
  dsimp only
  rw [if_pos ⟨(shC b).ok (by omega), (sh_lst (n := 2) fun d hd => by
    obtain ⟨c, _, rfl⟩ := List.mem_map.mp hd
    exact shC c).ok (by omega)⟩]
  show some (D.bl ((xs.map cD).any fun z => PyData.eqv z.py (cD b).py)) = _
  congr 2
  rw [List.any_map, Bool.eq_iff_iff, List.any_eq_true, decide_eq_true_iff]
  constructor
  · rintro ⟨c, hc, e⟩
    have e : PyData.eqv (cD c).py (cD b).py = true := e
    rw [eqv_cD, decide_eq_true_iff] at e
    exact e ▸ hc
  · intro h
    refine ⟨b, h, ?_⟩
    show PyData.eqv (cD b).py (cD b).py = true
    rw [eqv_cD, decide_eq_true rfl]
section
variable (G : Gm)
def prd (w : Bool) (c : Nat × Nat) (h : Nat) (e : Nat × Nat) : Bool := if w then decide (G.ga h c < G.ga h e) else decide (G.ga h e = top G h c) && decide (G.ga h c < top G h c)
def ledH (w : Bool) (c : Nat × Nat) (h : Nat) : List (Nat × Nat) := (mvs G h c).filter (prd G w c h)
def led (w : Bool) (c : Nat × Nat) : List (Nat × Nat) := (ledH G w c 0 ++ ledH G w c 1).mergeSort leC
theorem mem_led {w : Bool} {c e : Nat × Nat} : e ∈ led G w c ↔ ∃ h, h < 2 ∧ e ∈ mvs G h c ∧ prd G w c h e = true := by
  unfold led
  rw [(List.mergeSort_perm _ _).mem_iff, List.mem_append]
  unfold ledH
  rw [List.mem_filter, List.mem_filter]
  constructor
  · rintro (h | h)
    · exact ⟨0, by omega, h⟩
    · exact ⟨1, by omega, h⟩
  · rintro ⟨h, hh, h2⟩
    match h, hh with
    | 0, _ => exact .inl h2
    | 1, _ => exact .inr h2
theorem mvs_len (h : Nat) (c : Nat × Nat) : (mvs G h c).length ≤ 4 := by unfold mvs; rw [List.length_map, List.length_range]; exact (sz_le G h).2
theorem ledH_len (w : Bool) (c : Nat × Nat) (h : Nat) : (ledH G w c h).length ≤ 4 := Nat.le_trans (List.length_filter_le _ _) (mvs_len G h c)
theorem led_ok {w : Bool} {c : Nat × Nat} (hc : G.ok c) : ∀ e ∈ led G w c, G.ok e := fun e he => by
  obtain ⟨h, _, h2, _⟩ := (mem_led G).mp he
  exact mvs_ok G hc e h2
theorem nol_cD (xs : List (Nat × Nat)) : nolAll (xs.map cD) = true := nol_map cD (fun _ => rfl) xs
def cellB : D → Bool
  | .tup [.int i, .int j] => (decide (0 ≤ i) && decide (i < (G.m : Nat))) && (decide (0 ≤ j) && decide (j < (G.n : Nat)))
  | _ => false
theorem cellB_no {a b : D} (h : (wh a && wh b) = false) : cellB G (.tup [a, b]) = false := by
  cases a with
  | int i => cases b with
    | int j => cases h
    | _ => rfl
  | _ => rfl
theorem cellB_nt {v : D} (h : ∀ a b, v ≠ .tup [a, b]) : cellB G v = false := by
  unfold cellB
  split
  · exact (h _ _ rfl).elim
  · rfl
end

/-! answers to lines, odd games (from the texts of k80) -/
def maxI (xs : List Int) : Int := xs.tail.foldl max (xs.headD 0)
def minI (xs : List Int) : Int := xs.tail.foldl min (xs.headD 0)
theorem maxI_ok {xs : List Int} (h : xs ≠ []) : maxL [.lst (xs.map D.int)] = some (.int (maxI xs)) := by
  cases xs with
  | nil => exact absurd rfl h
  | cons x xs => exact max_ints x xs
theorem minI_ok {xs : List Int} (h : xs ≠ []) : minL [.lst (xs.map D.int)] = some (.int (minI xs)) := by
  cases xs with
  | nil => exact absurd rfl h
  | cons x xs => exact min_ints x xs
theorem maxI_ge {xs : List Int} {x : Int} (h : x ∈ xs) : x ≤ maxI xs := by
  cases xs with
  | nil => cases h
  | cons y ys =>
    obtain ⟨h1, h2⟩ := foldl_max_ge ys y
    rcases List.mem_cons.mp h with rfl | h
    · exact h1
    · exact h2 _ h
theorem maxI_mem {xs : List Int} (h : xs ≠ []) : maxI xs ∈ xs := by
  cases xs with
  | nil => exact absurd rfl h
  | cons y ys =>
    rcases foldl_max_mem ys y with h | h
    · show ys.foldl max y ∈ _; rw [h]; exact List.mem_cons_self
    · exact List.mem_cons_of_mem _ h
theorem maxI_is {xs : List Int} {m : Int} (h1 : m ∈ xs) (h2 : ∀ x ∈ xs, x ≤ m) : maxI xs = m := by
  have a := maxI_ge h1
  have b := h2 _ (maxI_mem (List.ne_nil_of_mem h1))
  omega
theorem maxI_same {xs ys : List Int} (h : xs ≠ []) (s : ∀ x, x ∈ xs ↔ x ∈ ys) : maxI xs = maxI ys :=
  (maxI_is ((s _).mp (maxI_mem h)) fun x hx => maxI_ge ((s x).mpr hx)).symm
theorem ints_of {α : Type} (f : α → Int) (xs : List α) : (xs.map fun x => D.int (f x)) = (xs.map f).map D.int := by rw [List.map_map]; rfl
def cor (h l : Nat) : Nat × Nat := if h = 0 then (l, 0) else (0, l)
theorem forR_ok {tg : Tgt} {B : List Nat} {it : DSt → G → R (List D)} {body : SB} {S : SS} {g g1 : G} {ds : List D} {r : RS} (h : it (view S) g = .ok ds g1) (h2 : forL tg body ds S g1 = r) : sFor false tg B it body S g = r := by
  unfold sFor; rw [h]; exact h2
theorem forT_ok {tg : Tgt} {B : List Nat} {it : DSt → G → R (List D)} {body : SB} {S : SS} {g g1 : G} {ds : List D} {r : RS} (h : it (view S) g = .ok ds g1) (h2 : forL tg body ds (frzB B S) g1 = r) : sFor true tg B it body S g = r := by
  unfold sFor; rw [h]; exact h2
theorem map_ne {α β : Type} {f : α → β} {xs : List α} (h : xs ≠ []) : xs.map f ≠ [] := fun e => h (List.map_eq_nil_iff.mp e)
theorem nol_ints {α : Type} (f : α → Int) (xs : List α) : nolAll (xs.map fun x => D.int (f x)) = true := nol_map _ (fun _ => rfl) xs
/-- the line of a hand in a cell -/
def ln (h : Nat) (c : Nat × Nat) : Nat := if h = 0 then c.1 else c.2
theorem empty_map {α : Type} (f : α → D) (xs : List α) : (xs.map f).isEmpty = xs.isEmpty := by cases xs <;> rfl
theorem sh_cells (xs : List (Nat × Nat)) : Sh 3 (.lst (xs.map cD)) := sh_lst (n := 2) fun d hd => by
  obtain ⟨c, _, rfl⟩ := List.mem_map.mp hd
  exact shC c
theorem any_true' {α : Type} (f : α → Bool) (xs : List α) : anyD [.lst (xs.map fun x => .bl (f x))] = some (.bl (xs.any f)) := by
  unfold anyD
  dsimp only
  rw [bools_map, Option.map_some, List.any_map]
  rfl
section
variable (G : Gm)
theorem rng_ne (h : Nat) : List.range (G.sz h) ≠ [] := by
  intro e
  have := congrArg List.length e
  rw [List.length_range] at this
  have := (sz_le G h).1
  simp at *
  omega
theorem cor_ok {h l : Nat} (hh : h < 2) (hl : l < G.sz h) : G.ok (cor h l) := by
  unfold Gm.sz at hl
  have := G.m1
  have := G.n1
  match h, hh with
  | 0, _ => exact ⟨hl, by show 0 < G.n; omega⟩
  | 1, _ => exact ⟨by show 0 < G.m; omega, hl⟩
theorem sub1 {h v : Nat} (hh : h < 2) {S : DSt} (hS : S[v]? = some (some (.int (h : Nat)))) (g : DI.G) : dBin subD (eC (.int 1)) (eVar v) S g = .ok (.int ((1 - h : Nat) : Nat)) g :=
  bin_ok rfl (var_ok hS) (by show some (D.int (1 - (h : Nat))) = _; rw [show (1 : Int) - (h : Nat) = ((1 - h : Nat) : Nat) by omega])
/-- the best answers to a line -/
def An (h l : Nat) : List (Nat × Nat) := (mvs G (1 - h) (cor h l)).filter fun e => decide (G.ga (1 - h) e = top G (1 - h) (cor h l))
variable {G}
theorem mem_An {h l : Nat} {e : Nat × Nat} : e ∈ An G h l ↔ e ∈ mvs G (1 - h) (cor h l) ∧ G.ga (1 - h) e = top G (1 - h) (cor h l) := by
  unfold An
  rw [List.mem_filter, decide_eq_true_iff]
theorem An_ok {h l : Nat} (hh : h < 2) (hl : l < G.sz h) : ∀ e ∈ An G h l, G.ok e := fun e he => mvs_ok G (cor_ok G hh hl) e (mem_An.mp he).1
theorem An_ne {h l : Nat} (hh : h < 2) (hl : l < G.sz h) : An G h l ≠ [] := by
  obtain ⟨⟨e, h1, h2⟩, _⟩ := top_spec G (h := 1 - h) (cor_ok G hh hl)
  exact List.ne_nil_of_mem (mem_An.mpr ⟨h1, h2⟩)
theorem An_len (h l : Nat) : (An G h l).length ≤ 4 := Nat.le_trans (List.length_filter_le _ _) (mvs_len G _ _)
theorem ln_lt {h : Nat} (hh : h < 2) {c : Nat × Nat} (hc : G.ok c) : ln h c < G.sz h := by
  match h, hh with
  | 0, _ => exact hc.1
  | 1, _ => exact hc.2
theorem mvs_cor {h : Nat} (hh : h < 2) (c : Nat × Nat) : mvs G (1 - h) (cor h (ln h c)) = mvs G (1 - h) c := by
  match h, hh with
  | 0, _ => rfl
  | 1, _ => rfl
theorem top_cor {h : Nat} (hh : h < 2) (c : Nat × Nat) : top G (1 - h) (cor h (ln h c)) = top G (1 - h) c := by
  unfold top
  rw [mvs_cor hh]
theorem in_An {h : Nat} (hh : h < 2) {c : Nat × Nat} (hc : G.ok c) : c ∈ An G h (ln h c) ↔ G.ga (1 - h) c = top G (1 - h) c := by
  rw [mem_An, mvs_cor hh, top_cor hh]
  exact ⟨fun h => h.2, fun h => ⟨mvs_self G hc, h⟩⟩
theorem An_ln {h l : Nat} (hh : h < 2) {e : Nat × Nat} (he : e ∈ An G h l) : ln h e = l := by
  obtain ⟨k, _, rfl⟩ := List.mem_map.mp (mem_An.mp he).1
  match h, hh with
  | 0, _ => rfl
  | 1, _ => rfl
variable (G)
theorem sSet_er {i : Nat} {B : List Nat} {t : XT} {S : SS} {g g' : DI.G} {x : Exn} (h : t (view S) g = .er x g') : sSet i B t S g = .er x (frzB B S) g' := by unfold sSet; rw [h]
theorem xV_er {t : ET} {S : DSt} {g g' : DI.G} {x : Exn} (h : t S g = .er x g') : xV t S g = .er x g' := by
  show (t S g).map _ = _
  rw [h]; rfl
def cells1 : List D := [.tup [.int (G.m : Nat), .int 0], .tup [.int 0, .int 4], .tup [.int (-1), .int 0], .tup [.bl true, .int 0], .lst [.int 0, .int 0], .non, .int 0, .tup [.int 0]]
/-- a second table that is none -/
theorem table_no {ds : List D} (h : ds.length ≠ G.m) (g : DI.G) : m_is_table [.tup ds, .int (G.m : Nat), .int (G.n : Nat)] g = .ok (.bl false) g :=
  call_body rfl (sSeq_ret ((sIf_t (tor_f (tNot_f (isi_ok (var_ok rfl) rfl)) (tOf_ok (bin_ok (cb_ok (args1 (var_ok rfl)) rfl) (var_ok rfl) ((ne_int _ _).trans (by
    have : (((ds.length : Nat) : Int) == (G.m : Nat)) = false := beq_false_of_ne (by omega)
    rw [this]
    rfl)))))).trans (ret_ok rfl)))
theorem table_lst (ds : List D) (g : DI.G) : m_is_table [.lst ds, .int (G.m : Nat), .int (G.n : Nat)] g = .ok (.bl false) g :=
  call_body rfl (sSeq_ret ((sIf_t (tor_t (tNot_t (isi_ok (var_ok rfl) rfl)))).trans (ret_ok rfl)))
def bR : List D := G.b.map rowD
def z1 : D := .tup [.tup [.int 0]]
def odds : List D := [.tup [tbD G.a], .tup [tbD G.a, .tup (cutD (bR G) none (some (-1)))], .tup [tbD G.a, .tup (bR G ++ [rowD (G.b.getD 0 [])])], .lst [tbD G.a, tbD G.b], .tup [tbD G.a, .lst (bR G)], .tup [.tup [.tup [.int 101]], z1],
  .tup [.tup [.tup [.int 0], .tup [.int 0], .tup [.int 0], .tup [.int 0], .tup [.int 0]], .tup [.tup [.int 0], .tup [.int 0], .tup [.int 0], .tup [.int 0], .tup [.int 0]]], .non, .int 0, .tup [.tup [], .tup []], .tup [.tup [.tup [.bl true]], z1], .tup [.tup [.tup [.int 0, .int 1], .tup [.int 0]], .tup [.tup [.int 0, .int 1], .tup [.int 0]]]]
theorem bR_len : (bR G).length = G.m := by unfold bR; rw [List.length_map]; exact G.rb.len
theorem cut_len : (cutD (bR G) none (some (-1))).length = G.m - 1 := by
  unfold cutD
  have h := bR_len G
  have h1 := G.m1
  rw [List.length_take, List.length_drop, h]
  have e1 : HT.sIx G.m 0 none = 0 := rfl
  have e2 : HT.sIx G.m G.m (some (-1)) = G.m - 1 := by
    have h4 := G.m4
    generalize G.m = m at *
    match m, h1, h4 with
    | 1, _, _ => rfl
    | 2, _, _ => rfl
    | 3, _, _ => rfl
    | 4, _, _ => rfl
  rw [e1, e2]
  omega
end

/-! whole numbers judged; the cells of a line and an answer (from the texts of k81) -/
/-- the cell of a line and an answer -/
def byc (h l o : Nat) : Nat × Nat := mv (1 - h) (cor h l) o
theorem byc_is {h : Nat} (hh : h < 2) {l o : Nat} {c : Nat × Nat} : byc h l o = c ↔ l = ln h c ∧ o = ln (1 - h) c := by
  obtain ⟨a, b⟩ := c
  match h, hh with
  | 0, _ => show (l, o) = (a, b) ↔ l = a ∧ o = b; rw [Prod.mk.injEq]
  | 1, _ => show (o, l) = (a, b) ↔ l = b ∧ o = a; rw [Prod.mk.injEq, and_comm]
theorem byc_ln {h : Nat} (hh : h < 2) (c : Nat × Nat) : byc h (ln h c) (ln (1 - h) c) = c := (byc_is hh).mpr ⟨rfl, rfl⟩
/-- a whole number below n -/
def wb (n : Nat) : D → Bool
  | .int i => decide (0 ≤ i) && decide (i < (n : Nat))
  | _ => false
def pk (ds : List D) : List Nat := ds.map fun d => match d with | .int i => i.toNat | _ => 0
theorem pk_len (ds : List D) : (pk ds).length = ds.length := List.length_map _
theorem pk_of {n : Nat} : ∀ {ds : List D}, ds.all (wb n) = true → ds = (pk ds).map nD ∧ ∀ k ∈ pk ds, k < n
  | [], _ => ⟨rfl, fun _ h => nomatch h⟩
  | d :: ds, h => by
    rw [List.all_cons, Bool.and_eq_true] at h
    obtain ⟨h1, h2⟩ := pk_of (ds := ds) h.2
    cases d with
    | int i =>
      have h3 : (decide (0 ≤ i) && decide (i < (n : Nat))) = true := h.1
      rw [Bool.and_eq_true, decide_eq_true_iff, decide_eq_true_iff] at h3
      refine ⟨?_, fun k hk => ?_⟩
      · show D.int i :: ds = D.int (i.toNat : Nat) :: (pk ds).map nD
        rw [← h1, show ((i.toNat : Nat) : Int) = i by omega]
      · rcases List.mem_cons.mp (show k ∈ i.toNat :: pk ds from hk) with rfl | hk
        · omega
        · exact h2 k hk
    | _ => exact absurd (show false = true from h.1) (by decide)
theorem enumD_ks (ks : List Nat) : enumD 0 (ks.map nD) = (List.range ks.length).map fun l => .tup [nD l, nD (ks.getD l 0)] := by
  apply List.ext_getElem?
  intro i
  by_cases hi : i < ks.length
  · rw [enumD_get (x := nD (ks.getD i 0)) (by rw [List.getElem?_map, List.getElem?_eq_getElem hi, List.getD_eq_getElem?_getD, List.getElem?_eq_getElem hi]; rfl), List.getElem?_map, List.getElem?_range hi, Nat.zero_add]
    rfl
  · rw [List.getElem?_eq_none (by rw [enumD_len, List.length_map]; omega), List.getElem?_eq_none (by rw [List.length_map, List.length_range]; omega)]
theorem idx_ks {ks : List Nat} {l : Nat} (h : l < ks.length) : idxD (.tup (ks.map nD)) (.int (l : Nat)) = some (nD (ks.getD l 0)) := idx_tup (by
  rw [List.getElem?_map, List.getElem?_eq_getElem h, List.getD_eq_getElem?_getD, List.getElem?_eq_getElem h]
  rfl)
theorem minI_le {xs : List Int} {x : Int} (h : x ∈ xs) : minI xs ≤ x := by
  cases xs with
  | nil => cases h
  | cons y ys =>
    have go : ∀ (ys : List Int) (y : Int), ys.foldl min y ≤ y ∧ ∀ x ∈ ys, ys.foldl min y ≤ x := by
      intro ys
      induction ys with
      | nil => exact fun y => ⟨Int.le_refl _, fun x h => nomatch h⟩
      | cons z zs ih =>
        intro y
        obtain ⟨h1, h2⟩ := ih (min y z)
        rw [List.foldl_cons]
        refine ⟨by omega, fun x hx => ?_⟩
        rcases List.mem_cons.mp hx with rfl | hx
        · omega
        · exact h2 x hx
    obtain ⟨h1, h2⟩ := go ys y
    rcases List.mem_cons.mp h with rfl | h
    · exact h1
    · exact h2 _ h
theorem minI_mem {xs : List Int} (h : xs ≠ []) : minI xs ∈ xs := by
  cases xs with
  | nil => exact absurd rfl h
  | cons y ys =>
    have go : ∀ (ys : List Int) (y : Int), ys.foldl min y = y ∨ ys.foldl min y ∈ ys := by
      intro ys
      induction ys with
      | nil => exact fun y => .inl rfl
      | cons z zs ih =>
        intro y
        rw [List.foldl_cons]
        rcases ih (min y z) with h | h
        · rw [h]
          by_cases hy : y ≤ z
          · exact .inl (by omega)
          · exact .inr (by rw [Int.min_eq_right (by omega)]; exact List.mem_cons_self)
        · exact .inr (List.mem_cons_of_mem _ h)
    rcases go ys y with h | h
    · show ys.foldl min y ∈ _; rw [h]; exact List.mem_cons_self
    · exact List.mem_cons_of_mem _ h
theorem index_ints {ns : List Int} {m : Int} (h : m ∈ ns) : ∃ k : Nat, indexD (.lst (ns.map D.int)) [.int m] = some (.int (k : Nat)) ∧ ns[k]? = some m := by
  obtain ⟨k, e⟩ := firstAt_some (p := fun z => PyData.eqv z.py (D.int m).py) (ds := ns.map D.int) (n := 0) ⟨.int m, List.mem_map.mpr ⟨m, h, rfl⟩, by show (m == m) = true; simp⟩
  obtain ⟨j, d, h1, h2, h3, _⟩ := firstAt_get e
  rw [List.getElem?_map] at h2
  obtain ⟨x, hx, rfl⟩ := Option.map_eq_some_iff.mp h2
  have hxm : x = m := by
    have : (x == m) = true := h3
    simpa using this
  subst hxm
  refine ⟨k, ?_, by rw [h1, Nat.zero_add]; exact hx⟩
  unfold indexD
  dsimp only
  rw [if_pos ⟨(sh_lst (n := 0) (ds := ns.map D.int) fun d hd => by
    obtain ⟨i, _, rfl⟩ := List.mem_map.mp hd
    exact ⟨rfl, Nat.le_refl _⟩).ok (by omega), (show Sh 0 (D.int x) from ⟨rfl, Nat.le_refl _⟩).ok (by omega)⟩, e]
  rfl
section
variable (G : Gm)
theorem byc_ok {h l o : Nat} (hh : h < 2) (hl : l < G.sz h) (ho : o < G.sz (1 - h)) : G.ok (byc h l o) := mvs_ok G (cor_ok G hh hl) _ (List.mem_map.mpr ⟨o, List.mem_range.mpr ho, rfl⟩)
def wor (h : Nat) (ks : List Nat) : List Int := (List.range (G.sz h)).map fun l => G.ga h (byc h l (ks.getD l 0))
def dec (h : Nat) : D → Option (List Nat)
  | .tup ds => if ds.length = G.sz h ∧ ds.all (wb (G.sz (1 - h))) = true then some (pk ds) else none
  | _ => none
theorem wor_ne (h : Nat) (ks : List Nat) : wor G h ks ≠ [] := map_ne (rng_ne G h)
theorem getD_lt {ks : List Nat} {n l : Nat} (hk : ∀ k ∈ ks, k < n) (hl : l < ks.length) : ks.getD l 0 < n := by
  rw [List.getD_eq_getElem?_getD, List.getElem?_eq_getElem hl]
  exact hk _ (List.getElem_mem hl)
variable {G}
theorem all_wb {n : Nat} {ks : List Nat} (hk : ∀ k ∈ ks, k < n) : (ks.map nD).all (wb n) = true := by
  rw [List.all_eq_true]
  intro d hd
  obtain ⟨k, hk', rfl⟩ := List.mem_map.mp hd
  show (decide ((0 : Int) ≤ (k : Nat)) && decide (((k : Nat) : Int) < (n : Nat))) = true
  have := hk k hk'
  rw [decide_eq_true (by omega), decide_eq_true (by omega)]
  rfl
theorem pk_nD (ks : List Nat) : pk (ks.map nD) = ks := by
  unfold pk
  rw [List.map_map]
  refine (List.map_congr_left fun k _ => ?_).trans (List.map_id' ks)
  show ((k : Nat) : Int).toNat = k
  omega
variable (G)
/-- what the whole numbers are asked, in the law and in the program -/
theorem wbL {n : Nat} {x : D} (hx : cv x = true) {t u : ET} {S : DSt} {g : DI.G} (ht : t S g = .ok x g) (hu : u S g = .ok (.int (n : Nat)) g) : eAnd (dUn (isiD "int") t) (eAnd (eNot (dUn (isiD "bool") t)) (eChain (ltI fun i j => decide (i ≤ j)) (ltI fun i j => decide (i < j)) (eC (.int 0)) t u)) S g = .ok (.bl (wb n x)) g := by
  cases x with
  | non => exact and_f (un_ok ht rfl) rfl
  | bl b => exact and_t (un_ok ht rfl) rfl (and_f (not_ok (a := .bl true) (k := true) (un_ok ht rfl) rfl) rfl)
  | int i =>
    refine and_t (un_ok ht rfl) rfl (and_t (not_ok (a := .bl false) (k := false) (un_ok ht rfl) rfl) rfl ?_)
    show _ = R.ok (D.bl (decide (0 ≤ i) && decide (i < (n : Nat)))) g
    by_cases h0 : 0 ≤ i
    · rw [decide_eq_true h0, Bool.true_and]
      exact chain_t rfl ht (show some (D.bl (decide (0 ≤ i))) = _ by rw [decide_eq_true h0]) hu rfl
    · rw [decide_eq_false h0, Bool.false_and]
      exact chain_f rfl ht (show some (D.bl (decide (0 ≤ i))) = _ by rw [decide_eq_false h0])
  | str z => exact and_f (un_ok ht rfl) rfl
  | tup _ => exact and_f (un_ok ht rfl) rfl
  | lst _ => exact and_f (un_ok ht rfl) rfl
  | _ => cases hx
theorem wbP {n : Nat} {x : D} (hx : cv x = true) {t u : ET} {S : DSt} {g : DI.G} (ht : t S g = .ok x g) (hu : u S g = .ok (.int (n : Nat)) g) : eAnd (eCalls 1 m_is_whole (aCons t aNil)) (eChain (ltI fun i j => decide (i ≤ j)) (ltI fun i j => decide (i < j)) (eC (.int 0)) t u) S g = .ok (.bl (wb n x)) g := by
  have hw := calls_ok (n := 1) (args1 ht) rfl (whole_ok hx g)
  cases x with
  | int i =>
    refine and_t hw rfl ?_
    show _ = R.ok (D.bl (decide (0 ≤ i) && decide (i < (n : Nat)))) g
    by_cases h0 : 0 ≤ i
    · rw [decide_eq_true h0, Bool.true_and]
      exact chain_t rfl ht (show some (D.bl (decide (0 ≤ i))) = _ by rw [decide_eq_true h0]) hu rfl
    · rw [decide_eq_false h0, Bool.false_and]
      exact chain_f rfl ht (show some (D.bl (decide (0 ≤ i))) = _ by rw [decide_eq_false h0])
  | draw => cases hx
  | fn _ => cases hx
  | dct _ _ => cases hx
  | _ => exact and_f hw rfl
theorem idx_ln {h : Nat} (hh : h < 2) (c : Nat × Nat) : idxD (cD c) (.int (h : Nat)) = some (nD (ln h c)) := by
  match h, hh with
  | 0, _ => exact idx_c1 c
  | 1, _ => exact idx_c2 c
theorem cell_ln {v w h : Nat} (hh : h < 2) {c : Nat × Nat} {S : DSt} (hv : S[v]? = some (some (cD c))) (hw : S[w]? = some (some (.int (h : Nat)))) (g : DI.G) : dBin idxD (eVar v) (eVar w) S g = .ok (nD (ln h c)) g := bin_ok (var_ok hv) (var_ok hw) (idx_ln hh c)
theorem cell_ln1 {v w h : Nat} (hh : h < 2) {c : Nat × Nat} {S : DSt} (hv : S[v]? = some (some (cD c))) (hw : S[w]? = some (some (.int (h : Nat)))) (g : DI.G) : dBin idxD (eVar v) (dBin subD (eC (.int 1)) (eVar w)) S g = .ok (nD (ln (1 - h) c)) g := bin_ok (var_ok hv) (sub1 hh hw g) (idx_ln (by omega) c)
theorem wor_at {h l : Nat} (hl : l < G.sz h) (ks : List Nat) : (wor G h ks)[l]? = some (G.ga h (byc h l (ks.getD l 0))) := by
  unfold wor
  rw [List.getElem?_map, List.getElem?_range hl]
  rfl
end

/-! small lemmas (from GC1..GC3, GP9) -/
theorem mulT_rep (d : D) {n : Nat} (h1 : 1 ≤ n) (h : n ≤ 1000) : mulT (.tup [d]) (.int (n : Nat)) = some (.tup (List.replicate n d)) := by
  unfold mulT
  dsimp only
  rw [if_pos ⟨⟨by omega, by omega⟩, by simp⟩, Int.toNat_natCast, List.flatten_replicate_singleton]
theorem app_ok {ds : List D} {d : D} (h : ds.length ≤ 1000) : appD ds d = some (ds ++ [d]) := appD_ok (small1000 h)
theorem forL_at {tg : Tgt} {body : SB} (ds : List D) (P : Nat → SS → G → Prop) (h : ∀ (j : Nat) (hj : j < ds.length) S g, P j S g → ∃ S1 S2 g2, setS tg ds[j] S = some S1 ∧ body S1 g = .nx S2 g2 ∧ P (j + 1) S2 g2) : ∀ S g, P 0 S g → ∃ S' g', forL tg body ds S g = .nx S' g' ∧ P ds.length S' g' := by
  have go : ∀ (n k : Nat), k + n = ds.length → ∀ S g, P k S g → ∃ S' g', forL tg body (ds.drop k) S g = .nx S' g' ∧ P ds.length S' g' := by
    intro n
    induction n with
    | zero =>
      intro k hk S g p
      rw [List.drop_eq_nil_of_le (by omega)]
      exact ⟨S, g, rfl, by rw [← hk]; exact p⟩
    | succ n ih =>
      intro k hk S g p
      have hj : k < ds.length := by omega
      obtain ⟨S1, S2, g2, h1, h2, h3⟩ := h k hj S g p
      obtain ⟨S', g', h4, h5⟩ := ih (k + 1) (by omega) S2 g2 h3
      refine ⟨S', g', ?_, h5⟩
      rw [List.drop_eq_getElem_cons hj]
      unfold forL
      rw [h1]
      dsimp only
      rw [h2]
      exact h4
  intro S g p
  have := go ds.length 0 (by omega) S g p
  rw [List.drop_zero] at this
  exact this
theorem nD_add (a b : Nat) : addD (nD a) (nD b) = some (.v (nD (a + b))) := by show some (Fv.v (D.int ((a : Int) + (b : Int)))) = some (Fv.v (D.int ((a + b : Nat) : Int))); rw [Int.natCast_add]
theorem maxI_okT {xs : List Int} (h : xs ≠ []) : maxL [.tup (xs.map D.int)] = some (.int (maxI xs)) := by
  cases xs with
  | nil => exact absurd rfl h
  | cons x xs => exact max_ints x xs
theorem getD_int (xs : List Int) {l : Nat} (h : l < xs.length) : (xs.map D.int)[l]? = some (.int (xs.getD l 0)) := by
  rw [List.getElem?_map, List.getElem?_eq_getElem h, List.getD_eq_getElem?_getD, List.getElem?_eq_getElem h]; rfl
def fi (xs : List Int) : Nat := match indexD (.lst (xs.map D.int)) [.int (maxI xs)] with
  | some (.int i) => i.toNat
  | _ => 0
theorem fi_spec {xs : List Int} (h : xs ≠ []) : indexD (.lst (xs.map D.int)) [.int (maxI xs)] = some (nD (fi xs)) ∧ fi xs < xs.length := by
  obtain ⟨k, e, h2⟩ := index_ints (maxI_mem h)
  have : fi xs = k := by unfold fi; rw [e]; rfl
  rw [this]
  exact ⟨e, (List.getElem?_eq_some_iff.mp h2).1⟩
theorem cv_tup {ds : List D} (h : ∀ d ∈ ds, cv d = true) : cv (.tup ds) = true := show cvA _ = true from cvA_of h
theorem cv_lst {ds : List D} (h : ∀ d ∈ ds, cv d = true) : cv (.lst ds) = true := show cvA _ = true from cvA_of h
theorem cv_ks (ks : List Nat) : ∀ d ∈ ks.map nD, cv d = true := fun d hd => by
  obtain ⟨k, _, rfl⟩ := List.mem_map.mp hd
  rfl
theorem cv2 {x y : D} (hx : cv x = true) (hy : cv y = true) : cv (.tup [x, y]) = true := cv_tup fun d hd => by
  rcases List.mem_cons.mp hd with rfl | hd
  · exact hx
  · rw [List.mem_singleton.mp hd]; exact hy
theorem idx_last (ds : List D) (d : D) : idxD (.lst (ds ++ [d])) (.int (-1)) = some d := by
  show atI _ _ = _
  unfold atI ixN
  rw [if_neg (by omega), List.length_append, List.length_singleton, if_pos (by omega), show ((-1 : Int) + ((ds.length + 1 : Nat) : Int)).toNat = ds.length by omega]
  show (ds ++ [d])[ds.length]? = _
  simp
section
variable (A : Gm)
theorem ok00 : A.ok (0, 0) := ⟨A.m1, A.n1⟩
end
section
variable (G : Gm)
end

/-! tables of as many rows as columns, crowds: drawn -/
theorem mulX_one (d : D) {n : Nat} (h : n ≤ 1000) : mulX (.lst [d]) (.int (n : Nat)) = some (.f (List.replicate n d)) := by
  unfold mulX
  dsimp only
  rw [if_pos ⟨⟨by omega, by omega⟩, by rw [Int.toNat_natCast, List.length_singleton, Nat.one_mul]; exact Nat.le_of_lt (small1000 h)⟩, Int.toNat_natCast, List.flatten_replicate_singleton]
theorem mod_int (i : Int) {n : Nat} (hn : 0 < n) : modD (.int i) (nD n) = some (.int (i.fmod (n : Nat))) := by
  show (if ((n : Nat) : Int) ≠ 0 then some (D.int (i.fmod (n : Nat))) else none) = _
  rw [if_pos (by omega)]
theorem fmod_bd (i : Int) {n : Nat} (hn : 0 < n) : 0 ≤ i.fmod (n : Nat) ∧ i.fmod (n : Nat) < (n : Nat) := by
  rw [Int.fmod_eq_emod_of_nonneg _ (by omega)]
  exact ⟨Int.emod_nonneg _ (by omega), Int.emod_lt_of_pos _ (by omega)⟩
abbrev QB : Nat → Nat → Int → Prop := fun _ _ x => -40 ≤ x ∧ x ≤ 40
abbrev TS' (n s w : Nat) (A : List (List D)) (i j : Option SV) : SS := [some (.val .draw), some (.val (nD n)), some (.val (nD s)), some (.val (nD w)), some (.mat A), i, j, none]
theorem tcell {n s w : Nat} (n4 : n ≤ 4) (w4 : 2 ≤ w ∧ w ≤ 40) {A : List (List D)} (hA : MB n n QB A) {p q : Nat} (hp : p < n) (hq : q < n) (g : G) :
    ∃ A', b__law_table_1 (TS' n s w A (some (.val (nD p))) (some (.val (nD q)))) g = .nx (TS' n s w A' (some (.val (nD p))) (some (.val (nD q)))) g ∧ MB n n QB A' := by
  have sq : ∀ (k : Nat) (A : List (List D)), tOf (dBin eqD (eVar 2) (eC (.int (k : Nat)))) (view (TS' n s w A (some (.val (nD p))) (some (.val (nD q))))) g = .ok (((s : Nat) : Int) == (k : Nat)) g := fun k A => tOf_ok (bin_ok (var_ok rfl) rfl (eq_int _ _))
  have put : ∀ (A : List (List D)) (te : ET) (y : Int), MB n n QB A → te (view (TS' n s w A (some (.val (nD p))) (some (.val (nD q))))) g = .ok (.int y) g → -40 ≤ y ∧ y ≤ 40 → ∃ A', sPut 4 te (eVar 5) (eVar 6) (TS' n s w A (some (.val (nD p))) (some (.val (nD q)))) g = .nx (TS' n s w A' (some (.val (nD p))) (some (.val (nD q)))) g ∧ MB n n QB A' := fun A te y hA ht hy => by
    obtain ⟨e, h⟩ := hA.put (Q := QB) hp hq hy fun _ _ _ _ _ _ h => h
    exact ⟨_, (sPut_ok ht rfl (var_ok rfl) (var_ok rfl) rfl e).trans rfl, h⟩
  obtain ⟨A1, e1, h1⟩ : ∃ A', sIf ([2] ++ []) (tOf (dBin eqD (eVar 2) (eC (.int 1)))) (sPut 4 (dBin modD (dBin subD (eVar 6) (eVar 5)) (eVar 1)) (eVar 5) (eVar 6)) sSkip (TS' n s w A (some (.val (nD p))) (some (.val (nD q)))) g = .nx (TS' n s w A' (some (.val (nD p))) (some (.val (nD q)))) g ∧ MB n n QB A' := by
    have t := sq 1 A
    cases hz : (((s : Nat) : Int) == (1 : Nat)) with
    | false => rw [hz] at t; exact ⟨A, (sIf_f t).trans rfl, hA⟩
    | true =>
      rw [hz] at t
      have b := fmod_bd (((q : Nat) : Int) - (p : Nat)) (n := n) (by omega)
      obtain ⟨A', e, h⟩ := put A (dBin modD (dBin subD (eVar 6) (eVar 5)) (eVar 1)) _ hA (bin_ok (a := .int (((q : Nat) : Int) - (p : Nat))) (bin_ok (var_ok rfl) (var_ok rfl) rfl) (var_ok rfl) (mod_int _ (by omega))) (by omega)
      exact ⟨A', (sIf_t t).trans e, h⟩
  obtain ⟨A2, e2, h2⟩ : ∃ A', sIf (([2] ++ []) ++ ([5] ++ [])) (tAndD (tOf (dBin eqD (eVar 2) (eC (.int 2)))) (tOf (dBin eqD (eVar 5) (eC (.int 0))))) (sPut 4 (eVar 3) (eVar 5) (eVar 6)) sSkip (TS' n s w A1 (some (.val (nD p))) (some (.val (nD q)))) g = .nx (TS' n s w A' (some (.val (nD p))) (some (.val (nD q)))) g ∧ MB n n QB A' := by
    have t := sq 2 A1
    have u : tOf (dBin eqD (eVar 5) (eC (.int 0))) (view (TS' n s w A1 (some (.val (nD p))) (some (.val (nD q))))) g = .ok (((p : Nat) : Int) == 0) g := tOf_ok (bin_ok (var_ok rfl) rfl (eq_int _ _))
    cases hz : (((s : Nat) : Int) == (2 : Nat)) with
    | false => rw [hz] at t; exact ⟨A1, (sIf_f (tand_f t)).trans rfl, h1⟩
    | true =>
      rw [hz] at t
      cases hy : (((p : Nat) : Int) == 0) with
      | false => rw [hy] at u; exact ⟨A1, (sIf_f (tand_t t u)).trans rfl, h1⟩
      | true =>
        rw [hy] at u
        obtain ⟨A', e, h⟩ := put A1 (eVar 3) (w : Nat) h1 (var_ok rfl) (by omega)
        exact ⟨A', (sIf_t (tand_t t u)).trans e, h⟩
  obtain ⟨A3, e3, h3⟩ : ∃ A', sIf ([2] ++ []) (tOf (dBin eqD (eVar 2) (eC (.int 3)))) (sPut 4 (dBin idxD (dBin idxD (eVar 4) (dCB min2D (aCons (eVar 5) (aCons (eVar 6) aNil)))) (dCB max2D (aCons (eVar 5) (aCons (eVar 6) aNil)))) (eVar 5) (eVar 6)) sSkip (TS' n s w A2 (some (.val (nD p))) (some (.val (nD q)))) g = .nx (TS' n s w A' (some (.val (nD p))) (some (.val (nD q)))) g ∧ MB n n QB A' := by
    have t := sq 3 A2
    cases hz : (((s : Nat) : Int) == (3 : Nat)) with
    | false => rw [hz] at t; exact ⟨A2, (sIf_f t).trans rfl, h2⟩
    | true =>
      rw [hz] at t
      obtain ⟨row, x, i1, i2, hx⟩ := h2.at (i := min p q) (j := max p q) (by omega) (by omega)
      have mn : min2D [nD p, nD q] = some (nD (min p q)) := by
        show some (D.int (if ((q : Nat) : Int) < (p : Nat) then ((q : Nat) : Int) else (p : Nat))) = some (D.int ((min p q : Nat) : Int))
        congr 2
        split <;> omega
      have mx : max2D [nD p, nD q] = some (nD (max p q)) := by
        show some (D.int (if ((q : Nat) : Int) > (p : Nat) then ((q : Nat) : Int) else (p : Nat))) = some (D.int ((max p q : Nat) : Int))
        congr 2
        split <;> omega
      obtain ⟨A', e, h⟩ := put A2 (dBin idxD (dBin idxD (eVar 4) (dCB min2D (aCons (eVar 5) (aCons (eVar 6) aNil)))) (dCB max2D (aCons (eVar 5) (aCons (eVar 6) aNil)))) x h2 (bin_ok (bin_ok (var_ok rfl) (cb_ok (args2 (var_ok rfl) (var_ok rfl)) mn) i1) (cb_ok (args2 (var_ok rfl) (var_ok rfl)) mx) i2) hx
      exact ⟨A', (sIf_t t).trans e, h⟩
  obtain ⟨A4, e4, h4⟩ : ∃ A', sIf (([2] ++ []) ++ ([5] ++ [6])) (tAndD (tOf (dBin eqD (eVar 2) (eC (.int 4)))) (tOf (dBin eqD (eVar 5) (eVar 6)))) (sPut 4 (dBin subD (eVar 3) (dBin mulD (eC (.int 2)) (dBin modD (eVar 5) (eC (.int 2))))) (eVar 5) (eVar 6)) sSkip (TS' n s w A3 (some (.val (nD p))) (some (.val (nD q)))) g = .nx (TS' n s w A' (some (.val (nD p))) (some (.val (nD q)))) g ∧ MB n n QB A' := by
    have t := sq 4 A3
    have u : tOf (dBin eqD (eVar 5) (eVar 6)) (view (TS' n s w A3 (some (.val (nD p))) (some (.val (nD q))))) g = .ok (((p : Nat) : Int) == (q : Nat)) g := tOf_ok (bin_ok (var_ok rfl) (var_ok rfl) (eq_int _ _))
    cases hz : (((s : Nat) : Int) == (4 : Nat)) with
    | false => rw [hz] at t; exact ⟨A3, (sIf_f (tand_f t)).trans rfl, h3⟩
    | true =>
      rw [hz] at t
      cases hy : (((p : Nat) : Int) == (q : Nat)) with
      | false => rw [hy] at u; exact ⟨A3, (sIf_f (tand_t t u)).trans rfl, h3⟩
      | true =>
        rw [hy] at u
        have b := fmod_bd ((p : Nat) : Int) (n := 2) (by omega)
        obtain ⟨A', e, h⟩ := put A3 (dBin subD (eVar 3) (dBin mulD (eC (.int 2)) (dBin modD (eVar 5) (eC (.int 2))))) ((w : Nat) - 2 * ((p : Nat) : Int).fmod (2 : Nat)) h3 (bin_ok (a := nD w) (b := .int (2 * ((p : Nat) : Int).fmod (2 : Nat))) (var_ok rfl) (bin_ok rfl (bin_ok (var_ok rfl) rfl (mod_int _ (n := 2) (by omega))) (mul_sm (by omega))) rfl) (by omega)
        exact ⟨A', (sIf_t (tand_t t u)).trans e, h⟩
  exact ⟨A4, (sSeq_nx e1).trans ((sSeq_nx e2).trans ((sSeq_nx e3).trans e4)), h4⟩
/-- a table drawn -/
theorem ltable_ok (g : G) (hg : -1 ≤ g.at_) : ∃ (A : Gm) (g' : G), A.n = A.m ∧ m__law_table [.draw] g = .ok (tbD A.a) g' ∧ -1 ≤ g'.at_ := by
  let P0 (n s w x4 x5 x6 : Option SV) : SS := [some (.val .draw), n, s, w, x4, x5, x6, none]
  obtain ⟨a, g1, e1, ha, hg1⟩ := etake_ok (n := 4) (i := 0) (t := eC (.int 4)) (S := view (P0 none none none none none none)) (by omega) (by omega) rfl (fun _ => rfl) hg
  obtain ⟨s, g2, e2, hs, hg2⟩ := etake_ok (n := 5) (i := 0) (t := eC (.int 5)) (S := view (P0 none none none none none none)) (by omega) (by omega) rfl (fun _ => rfl) hg1
  let n := 1 + a
  have s1 : sSetAll [1, 2] (([] ++ ([0] ++ ([] ++ []))) ++ (([0] ++ ([] ++ [])) ++ [])) (axCons (dBin addD (eC (.int 1)) (eCalls 2 m__law_take (aCons (eVar 0) (aCons (eC (.int 4)) aNil)))) (axCons (xV (eCalls 2 m__law_take (aCons (eVar 0) (aCons (eC (.int 5)) aNil)))) axNil)) (startD 8 [.draw]) g = .nx (P0 (some (.val (nD n))) (some (.val (nD s))) none none none none) g2 :=
    (sSetAll_val (fs := [.v (nD n), .v (nD s)]) (ax_cons (bin_ok (a := nD 1) rfl e1 (nD_add 1 a)) (ax_cons (xV_ok e2) rfl)) rfl rfl).trans rfl
  obtain ⟨q, g3, e3, hq, hg3⟩ := etake_ok (n := 4) (i := 0) (t := eC (.int 4)) (S := view (P0 (some (.val (nD n))) (some (.val (nD s))) none none none none)) (by omega) (by omega) rfl (fun _ => rfl) hg2
  obtain ⟨w, hw, ew⟩ : ∃ w : Nat, (2 ≤ w ∧ w ≤ 40) ∧ idxD (.lst [nD 2, nD 4, nD 9, nD 40]) (.int (q : Nat)) = some (nD w) := by
    match q, hq with
    | 0, _ => exact ⟨2, by omega, rfl⟩
    | 1, _ => exact ⟨4, by omega, rfl⟩
    | 2, _ => exact ⟨9, by omega, rfl⟩
    | 3, _ => exact ⟨40, by omega, rfl⟩
  have s2 : sSet 3 (([] ++ ([] ++ ([] ++ ([] ++ [])))) ++ ([0] ++ ([] ++ []))) (xV (dBin idxD (eF (xLst (aCons (eC (.int 2)) (aCons (eC (.int 4)) (aCons (eC (.int 9)) (aCons (eC (.int 40)) aNil)))))) (eCalls 2 m__law_take (aCons (eVar 0) (aCons (eC (.int 4)) aNil))))) (P0 (some (.val (nD n))) (some (.val (nD s))) none none none none) g2 = .nx (P0 (some (.val (nD n))) (some (.val (nD s))) (some (.val (nD w))) none none none) g3 :=
    (sSet_val (f := .v (nD w)) (xV_ok (bin_ok (a := .lst [nD 2, nD 4, nD 9, nD 40]) (eF_ok (f := .f [nD 2, nD 4, nD 9, nD 40]) (lst_ok rfl (by simp))) e3 ew)) rfl).trans rfl
  let V : SS := P0 (some (.val (nD n))) (some (.val (nD s))) (some (.val (nD w))) none none none
  let e0 : ET := dBin subD (eCalls 2 m__law_take (aCons (eVar 0) (aCons (eF (dBin addD (dBin mulD (eC (.int 2)) (eVar 3)) (eC (.int 1)))) aNil))) (eVar 3)
  have inner : ∀ (S : DSt), S[0]? = some (some .draw) → S[3]? = some (some (nD w)) → ∀ g : G, -1 ≤ g.at_ → ∃ y g', e0 S g = .ok y g' ∧ Bd (-40) 40 y ∧ -1 ≤ g'.at_ := fun S h0 h3 g hg => by
    obtain ⟨k, g', e, hk, hg'⟩ := etake_ok (n := 2 * w + 1) (i := 0) (t := eF (dBin addD (dBin mulD (eC (.int 2)) (eVar 3)) (eC (.int 1)))) (S := S) (by omega) (by omega) h0 (fun g => (eF_ok (f := .v (.int (2 * ((w : Nat) : Int) + 1))) (bin_ok (a := .int (2 * ((w : Nat) : Int))) (bin_ok rfl (var_ok h3) (mul_sm (by omega))) rfl rfl)).trans (by
        show DI.R.ok (D.int _) g = DI.R.ok (D.int _) g
        congr 2)) hg
    exact ⟨.int ((k : Nat) - (w : Nat)), g', bin_ok e (var_ok h3) rfl, ⟨_, rfl, by omega, by omega⟩, hg'⟩
  obtain ⟨A, g4, e4, lA, pA, hg4⟩ := compM_rand (own := [5]) (tg := .nm 5) (e := xComp [6] (.nm 6) (iRange1 (aCons (eVar 1) aNil)) tTrue e0) (S := view V) nD (fun y => y.length = n ∧ ∀ z ∈ y, Bd (-40) 40 z) (xs := List.range n) (fun x hx => ⟨_, rfl, fun g hg => by
    obtain ⟨ys, g', e2, l2, p2, hg2⟩ := rcomp (own := [6]) (v := 6) (tv := 1) (n := n) (e := e0) (S := (wipeD (view V) [5]).set 5 (some (nD x))) (Bd (-40) 40) rfl (by omega) (fun i hi => ⟨_, rfl, fun g hg => inner _ rfl rfl g hg⟩) g hg
    exact ⟨ys, g', e2, bd_nol p2, ⟨l2, p2⟩, hg2⟩⟩) g3 hg3
  have e4' : xCompM [5] (.nm 5) (iRange1 (aCons (eVar 1) aNil)) tTrue (xComp [6] (.nm 6) (iRange1 (aCons (eVar 1) aNil)) tTrue e0) (view V) g3 = .ok A g4 := by
    unfold xCompM
    rw [range_ok (n := n) (var_ok rfl) (by omega), R.bind_ok]
    exact e4
  have mA : MB n n QB A := ⟨lA.trans List.length_range, fun i hi => by
    have hi : i < A.length := by rw [lA, List.length_range]; exact hi
    obtain ⟨h1, h2⟩ := pA _ (List.getElem_mem hi)
    refine ⟨A[i], List.getElem?_eq_getElem hi, h1, fun j hj => ?_⟩
    have hj : j < A[i].length := by omega
    obtain ⟨x, e, b1, b2⟩ := h2 _ (List.getElem_mem hj)
    exact ⟨x, by rw [List.getElem?_eq_getElem hj, e], b1, b2⟩⟩
  have s3 : sSetM 4 (([1] ++ []) ++ [0, 1, 3]) (xCompM [5] (.nm 5) (iRange1 (aCons (eVar 1) aNil)) tTrue (xComp [6] (.nm 6) (iRange1 (aCons (eVar 1) aNil)) tTrue e0)) V g3 = .nx (TS' n s w A none none) g4 := (sSetM_ok e4').trans rfl
  obtain ⟨S', g', e5, ⟨B, x5, x6, hS, mB⟩, hg'⟩ := forL_at (tg := .nm 5) (body := b__law_table_2) ((List.range n).map nD) (fun _ S g' => (∃ B x5 x6, S = TS' n s w B x5 x6 ∧ MB n n QB B) ∧ g' = g4) (fun p hp S g' ⟨⟨B, x5, x6, hS, mB⟩, eg⟩ => by
    subst hS eg
    rw [List.length_map, List.length_range] at hp
    obtain ⟨S'', g'', e, ⟨C, y6, hS2, mC⟩, eg2⟩ := forL_at (tg := .nm 6) (body := b__law_table_1) ((List.range n).map nD) (fun _ S g'' => (∃ C y6, S = TS' n s w C (some (.val (nD p))) y6 ∧ MB n n QB C) ∧ g'' = g') (fun q hq S g'' ⟨⟨C, y6, hS2, mC⟩, eg2⟩ => by
      subst hS2 eg2
      rw [List.length_map, List.length_range] at hq
      obtain ⟨C', e, mC'⟩ := tcell (s := s) (n := n) (by omega) hw mC hp hq g''
      refine ⟨TS' n s w C (some (.val (nD p))) (some (.val (nD q))), _, _, ?_, e, ⟨C', _, rfl, mC'⟩, rfl⟩
      rw [List.getElem_map, List.getElem_range]; rfl) (TS' n s w B (some (.val (nD p))) x6) g' ⟨⟨B, x6, rfl, mB⟩, rfl⟩
    subst hS2 eg2
    refine ⟨TS' n s w B (some (.val (nD p))) x6, _, _, ?_, forR_ok (range_ok (n := n) (var_ok rfl) (by omega)) e, ⟨C, _, _, rfl, mC⟩, rfl⟩
    rw [List.getElem_map, List.getElem_range]; rfl) (TS' n s w A none none) g4 ⟨⟨A, none, none, rfl, mA⟩, rfl⟩
  subst hS hg'
  have s4 : sFor false (.nm 5) ([1] ++ []) (iRange1 (aCons (eVar 1) aNil)) b__law_table_2 (TS' n s w A none none) g' = .nx (TS' n s w B x5 x6) g' := forR_ok (range_ok (n := n) (var_ok rfl) (by omega)) e5
  have c6 := compL_map (own := [7]) (tg := .nm 7) (c := tTrue) (e := dCB tupOfD (aCons (eVar 7) aNil)) (S := view (TS' n s w B x5 x6)) (g := g') D.lst (fun _ => true) D.tup (xs := B) fun row hrow => ⟨_, rfl, rfl, fun _ => cb_ok (args1 (var_ok rfl)) rfl⟩
  rw [filter_all] at c6
  have hB : ∀ y ∈ B.map D.tup, RowP n (-100) 100 y := fun y hy => by
    obtain ⟨row, hr, rfl⟩ := List.mem_map.mp hy
    obtain ⟨i, hi⟩ := List.getElem?_of_mem hr
    have hi2 := (List.getElem?_eq_some_iff.mp hi).1
    obtain ⟨row', e, l, q⟩ := mB.2 i (by have := mB.1; omega)
    rw [hi] at e
    cases e
    refine row_of l fun z hz => ?_
    obtain ⟨j, hj⟩ := List.getElem?_of_mem hz
    have hj2 := (List.getElem?_eq_some_iff.mp hj).1
    obtain ⟨x, ex, b1, b2⟩ := q j (by omega)
    rw [hj] at ex
    cases ex
    exact ⟨x, rfl, by omega, by omega⟩
  obtain ⟨t, et, rt⟩ := tb_of (m := n) (by rw [List.length_map]; exact mB.1) hB
  refine ⟨⟨n, n, t, t, by omega, by omega, by omega, by omega, rt, rt⟩, g', rfl, call_body rfl ((sSeq_nx s1).trans ((sSeq_nx s2).trans ((sSeq_nx s3).trans ((sSeq_nx s4).trans (ret_ok ?_))))), hg4⟩
  rw [← et]
  exact cb_ok (args1 (eF_ok (comp_ok (items_ok (d := .lst (B.map D.lst)) (var_ok rfl) rfl) c6))) rfl
/-- a crowd -/
structure CrOk (m : Nat) (c : List Int) : Prop where
  len : c.length = m
  nn : ∀ x ∈ c, 0 ≤ x
  lo : 2 ≤ c.sum
  hi : c.sum ≤ 6
theorem set_sum : ∀ (c : List Int) {l : Nat} (h : l < c.length), (c.set l (c[l] + 1)).sum = c.sum + 1
  | x :: c, 0, h => by rw [List.set_cons_zero, List.sum_cons, List.sum_cons]; simp only [List.getElem_cons_zero]; omega
  | x :: c, l + 1, h => by
    have := set_sum c (l := l) (by rw [List.length_cons] at h; omega)
    rw [List.set_cons_succ, List.sum_cons, List.sum_cons]
    simp only [List.getElem_cons_succ]
    omega
theorem lcrowd_ok {n : Nat} (h1 : 1 ≤ n) (h4 : n ≤ 4) (g : G) (hg : -1 ≤ g.at_) : ∃ (c : List Int) (g' : G), m__law_crowd [.draw, nD n] g = .ok (rowD c) g' ∧ CrOk n c ∧ -1 ≤ g'.at_ := by
  let S (k : Nat) (c : List Int) (x4 x5 : Option SV) : SS := [some (.val .draw), some (.val (nD n)), some (.val (nD k)), some (.own (c.map D.int)), x4, x5]
  obtain ⟨a, g1, e1, ha, hg1⟩ := etake_ok (n := 5) (i := 0) (t := eC (.int 5)) (S := view (startD 6 [.draw, nD n])) (by omega) (by omega) rfl (fun _ => rfl) hg
  have s1 : sSetAll [2, 3] (([] ++ ([0] ++ ([] ++ []))) ++ ((([] ++ []) ++ [1]) ++ [])) (axCons (dBin addD (eC (.int 2)) (eCalls 2 m__law_take (aCons (eVar 0) (aCons (eC (.int 5)) aNil)))) (axCons (dBin mulX (eF (xLst (aCons (eC (.int 0)) aNil))) (eVar 1)) axNil)) (startD 6 [.draw, nD n]) g = .nx (S (2 + a) (List.replicate n 0) none none) g1 := by
    refine (sSetAll_val (fs := [.v (nD (2 + a)), .f (List.replicate n (.int 0))]) (ax_cons (bin_ok (a := nD 2) rfl e1 (nD_add 2 a)) (ax_cons (bin_ok (a := .lst [.int 0]) (eF_ok (f := .f [.int 0]) (lst_ok rfl (by simp))) (var_ok rfl) (mulX_one _ (by omega))) rfl)) rfl rfl).trans ?_
    show RS.nx [_, _, _, some (.own (List.replicate n (D.int 0))), _, _] _ = _
    rw [← List.map_replicate]
    rfl
  obtain ⟨S', g2, e2, ⟨c, x4, x5, hS, lc, nc, sc⟩, hg2⟩ := forL_at (tg := .nm 4) (body := b__law_crowd_1) ((List.range (2 + a)).map nD) (fun j S' g' => (∃ c x4 x5, S' = S (2 + a) c x4 x5 ∧ c.length = n ∧ (∀ x ∈ c, 0 ≤ x) ∧ c.sum = (j : Nat)) ∧ -1 ≤ g'.at_) (fun j hj S' g' ⟨⟨c, x4, x5, hS, lc, nc, sc⟩, hg'⟩ => by
    subst hS
    obtain ⟨l, g2, e, hl, hg2⟩ := etake_ok (n := n) (i := 0) (t := eVar 1) (S := view (S (2 + a) c (some (.val (nD j))) x5)) (by omega) (by omega) rfl (fun _ => var_ok rfl) hg'
    have hl' : l < c.length := by omega
    have s5 : sSet 5 ([0] ++ ([1] ++ [])) (xV (eCalls 2 m__law_take (aCons (eVar 0) (aCons (eVar 1) aNil)))) (S (2 + a) c (some (.val (nD j))) x5) g' = .nx (S (2 + a) c (some (.val (nD j))) (some (.val (nD l)))) g2 := (sSet_val (f := .v (nD l)) (xV_ok e) rfl).trans rfl
    refine ⟨S (2 + a) c (some (.val (nD j))) x5, S (2 + a) (c.set l (c[l] + 1)) (some (.val (nD j))) (some (.val (nD l))), g2, ?_, (sSeq_nx s5).trans ((sIx_ok (f := .v (.int (c[l] + 1))) (i := l) (ds := c.map D.int) (bin_ok (a := .int c[l]) (bin_ok (a := .lst (c.map D.int)) (var_ok rfl) (var_ok rfl) (idx_lst (by rw [List.getElem?_map, List.getElem?_eq_getElem hl']; rfl))) rfl rfl) rfl (var_ok rfl) rfl (by rw [List.length_map]; exact hl')).trans ?_), ⟨_, _, _, rfl, by rw [List.length_set]; exact lc, fun x hx => ?_, by rw [set_sum c hl', sc]; omega⟩, hg2⟩
    · rw [List.getElem_map, List.getElem_range]; rfl
    · show RS.nx [_, _, _, some (.own ((c.map D.int).set l (D.int (c[l] + 1)))), _, _] _ = _
      rw [← List.map_set]
    · rcases List.mem_or_eq_of_mem_set hx with hx | rfl
      · exact nc x hx
      · have := nc _ (List.getElem_mem hl')
        omega) (S (2 + a) (List.replicate n 0) none none) g1 ⟨⟨_, none, none, rfl, List.length_replicate, fun x hx => by rw [(List.mem_replicate.mp hx).2]; exact Int.le_refl _, by
      have z : ∀ k : Nat, (List.replicate k (0 : Int)).sum = 0 := fun k => by induction k with | zero => rfl | succ k ih => rw [List.replicate_succ, List.sum_cons, ih]; rfl
      rw [z]; rfl⟩, hg1⟩
  subst hS
  rw [List.length_map, List.length_range] at sc
  exact ⟨c, g2, call_body rfl ((sSeq_nx s1).trans ((sSeq_nx (forR_ok (range_ok (n := 2 + a) (var_ok rfl) (by omega)) e2)).trans (ret_ok (cb_ok (args1 (var_ok rfl)) rfl)))), ⟨lc, nc, by omega, by omega⟩, hg2⟩

/-! sums, lines held, crowds behind one holder's change, lines that come in -/
theorem getD_le {xs : List Int} {k : Nat} (h : k < xs.length) : xs.getD k 0 = xs[k] := by rw [List.getD_eq_getElem?_getD, List.getElem?_eq_getElem h]; rfl
theorem idx_ri {xs : List Int} {k : Nat} (h : k < xs.length) : idxD (rowD xs) (nD k) = some (.int (xs.getD k 0)) := idx_tup (getD_int xs h)
theorem pairD_ints {xs ys : List Int} {n : Nat} (hx : xs.length = n) (hy : ys.length = n) : pairD (xs.map D.int) (ys.map D.int) = (List.range n).map fun k => .tup [.int (xs.getD k 0), .int (ys.getD k 0)] := by
  rw [pairD_zip]
  apply List.ext_getElem
  · rw [List.length_map, List.length_zip, List.length_map, List.length_map, List.length_range]; omega
  · intro i h1 h2
    rw [List.length_map, List.length_zip, List.length_map] at h1
    rw [List.getElem_map, List.getElem_map, List.getElem_range, List.getElem_zip, List.getElem_map, getD_le (by omega), getD_le (by omega)]
theorem enum_ints (xs : List Int) : enumD 0 (xs.map D.int) = (List.range xs.length).map fun l => .tup [nD l, .int (xs.getD l 0)] := by
  apply List.ext_getElem?
  intro i
  by_cases hi : i < xs.length
  · rw [enumD_get (getD_int xs hi), List.getElem?_map, List.getElem?_range hi, Nat.zero_add]
    rfl
  · rw [List.getElem?_eq_none (by rw [enumD_len, List.length_map]; omega), List.getElem?_eq_none (by rw [List.length_map, List.length_range]; omega)]
section
variable (A : Gm)
abbrev Td : D := tbD A.a
def tt (i j : Nat) : Int := tat A.a i j
theorem tt_bd (hq : A.n = A.m) {i j : Nat} (hi : i < A.m) (hj : j < A.m) : -100 ≤ tt A i j ∧ tt A i j ≤ 100 := by
  have hr := row_len A.ra hi
  have hm : A.a.getD i [] ∈ A.a := by
    rw [List.getD_eq_getElem?_getD, List.getElem?_eq_getElem (by rw [A.ra.len]; exact hi)]
    exact List.getElem_mem _
  have : tt A i j ∈ A.a.getD i [] := by
    unfold tt tat
    rw [getD_le (by omega)]
    exact List.getElem_mem _
  exact A.ra.lo _ hm _ this
theorem tij (hq : A.n = A.m) {S : DSt} {v : Nat} {t u : ET} {i j : Nat} {g : G} (hv : S[v]? = some (some (Td A))) (ht : t S g = .ok (nD i) g) (hu : u S g = .ok (nD j) g) (hi : i < A.m) (hj : j < A.m) : dBin idxD (dBin idxD (eVar v) t) u S g = .ok (.int (tt A i j)) g :=
  bin_ok (bin_ok (var_ok hv) ht (idx_row A.ra hi)) hu (idx_at A.ra hi (by omega))
def smf (cf : Nat → Int) (l : Nat) : Int := ((List.range A.m).map fun k => cf k * tt A l k).sum - tt A l l
abbrev sm (c : List Int) (l : Nat) : Int := smf A (fun k => c.getD k 0) l
theorem sumfor_ok (hq : A.n = A.m) {c : List Int} (hc : c.length = A.m) {l : Nat} (hl : l < A.m) (g : G) : m_sum_for [Td A, rowD c, nD l] g = .ok (.int (sm A c l)) g := by
  have hr := row_len A.ra hl
  have hz : iZipD (aCons (eVar 1) (aCons (dBin idxD (eVar 0) (eVar 2)) aNil)) (view (startD 5 [Td A, rowD c, nD l])) g = .ok ((List.range A.m).map fun k => D.tup [.int (c.getD k 0), .int (tt A l k)]) g :=
    zip_ok (args2 (var_ok rfl) (bin_ok (var_ok rfl) (var_ok rfl) (idx_row A.ra hl))) (show some (pairD (c.map D.int) ((A.a.getD l []).map D.int)) = _ by rw [pairD_ints hc (hr.trans hq)]; rfl)
  have c1 := compL_map (own := [3, 4]) (tg := .tp [3, 4]) (c := tTrue) (e := dBin mulD (eVar 3) (eVar 4)) (S := view (startD 5 [Td A, rowD c, nD l])) (g := g) (fun k => D.tup [.int (c.getD k 0), .int (tt A l k)]) (fun _ => true) (fun k => .int (c.getD k 0 * tt A l k)) (xs := List.range A.m) fun k hk => ⟨_, rfl, rfl, fun _ => bin_ok (var_ok rfl) (var_ok rfl) (mul_sm (by have := tt_bd A hq hl (List.mem_range.mp hk); omega))⟩
  rw [filter_all, ints_of] at c1
  exact call_ret rfl (bin_ok (cb_ok (args1 (eF_ok (comp_ok hz c1))) (sum_lst _)) (tij A hq rfl (var_ok rfl) (var_ok rfl) hl hl) rfl)
theorem lsum_ok (hq : A.n = A.m) {C : D} {cf : Nat → Int} (hC : ∀ k < A.m, idxD C (nD k) = some (.int (cf k))) {l : Nat} (hl : l < A.m) (g : G) : m__law_sum [Td A, C, nD l] g = .ok (.int (smf A cf l)) g := by
  let S (x : Int) (x4 : Option SV) : SS := [some (.val (Td A)), some (.val C), some (.val (nD l)), some (.val (.int x)), x4]
  let f (j : Nat) : Int := 0 - tt A l l + ((List.range j).map fun k => cf k * tt A l k).sum
  have s1 : sSet 3 ([] ++ (([0] ++ [2]) ++ [2])) (xV (dBin subD (eC (.int 0)) (dBin idxD (dBin idxD (eVar 0) (eVar 2)) (eVar 2)))) (startD 5 [Td A, C, nD l]) g = .nx (S (f 0) none) g := by
    refine (sSet_val (f := .v (.int (0 - tt A l l))) (xV_ok (bin_ok rfl (tij A hq rfl (var_ok rfl) (var_ok rfl) hl hl) rfl)) rfl).trans ?_
    show RS.nx (S (0 - tt A l l) none) g = RS.nx (S (0 - tt A l l + 0) none) g
    rw [Int.add_zero]
  obtain ⟨S', g', e2, ⟨x4, hS⟩, hg⟩ := forL_at (tg := .nm 4) (body := b__law_sum_1) ((List.range A.m).map nD) (fun j S' g' => (∃ x4, S' = S (f j) x4) ∧ g' = g) (fun j hj S' g' ⟨⟨x4, hS⟩, eg⟩ => by
    subst hS eg
    rw [List.length_map, List.length_range] at hj
    refine ⟨S (f j) (some (.val (nD j))), S (f (j + 1)) (some (.val (nD j))), _, ?_, (sSet_val (f := .v (.int (f j + cf j * tt A l j))) (bin_ok (a := .int (f j)) (b := .int (cf j * tt A l j)) (var_ok rfl) (bin_ok (bin_ok (var_ok rfl) (var_ok rfl) (hC j hj)) (tij A hq rfl (var_ok rfl) (var_ok rfl) hl hj) (mul_sm (by have := tt_bd A hq hl hj; omega))) rfl) rfl).trans ?_, ⟨_, rfl⟩, rfl⟩
    · rw [List.getElem_map, List.getElem_range]; rfl
    · show RS.nx (S (f j + cf j * tt A l j) (some (.val (nD j)))) g' = _
      have : f (j + 1) = f j + cf j * tt A l j := by
        show 0 - tt A l l + ((List.range (j + 1)).map fun k => cf k * tt A l k).sum = 0 - tt A l l + ((List.range j).map fun k => cf k * tt A l k).sum + cf j * tt A l j
        rw [List.range_succ, List.map_append, List.sum_append, List.map_singleton, List.sum_singleton]
        omega
      rw [this]) (S (f 0) none) g ⟨⟨none, rfl⟩, rfl⟩
  subst hS hg
  rw [List.length_map, List.length_range] at e2
  refine call_body rfl ((sSeq_nx s1).trans ((sSeq_nx (forR_ok (range_ok (n := A.m) (cb_ok (args1 (var_ok rfl)) (len_tb A.ra)) (by have := A.m4; omega)) e2)).trans (ret_ok ((var_ok (d := .int (f A.m)) rfl).trans ?_))))
  show DI.R.ok (D.int (f A.m)) _ = DI.R.ok (D.int (smf A cf l)) _
  have : f A.m = smf A cf l := by
    show 0 - tt A l l + ((List.range A.m).map fun k => cf k * tt A l k).sum = ((List.range A.m).map fun k => cf k * tt A l k).sum - tt A l l
    omega
  rw [this]
end
/-- lines held -/
def hl (c : List Int) : List Nat := (List.range c.length).filter fun k => decide (0 < c.getD k 0)
theorem gt0 (i : Int) : ltI (fun i j => decide (j < i)) (.int i) (.int 0) = some (.bl (decide (0 < i))) := rfl
theorem held_ok (c : List Int) (g : G) : m_held [rowD c] g = .ok (.lst ((hl c).map nD)) g := by
  have c1 := compL_map (own := [1, 2]) (tg := .tp [1, 2]) (c := tOf (dBin (ltI fun i j => decide (j < i)) (eVar 2) (eC (.int 0)))) (e := eVar 1) (S := view (startD 3 [rowD c])) (g := g) (fun l => D.tup [nD l, .int (c.getD l 0)]) (fun k => decide (0 < c.getD k 0)) nD (xs := List.range c.length) fun k hk => ⟨_, rfl, tOf_ok (bin_ok (var_ok rfl) rfl (gt0 _)), fun _ => var_ok rfl⟩
  exact call_ret rfl (eF_ok (f := .f ((hl c).map nD)) (comp_ok ((enum_ok (var_ok rfl) rfl).trans (by rw [enum_ints])) c1))
/-- one holder's change -/
def mvd (c : List Int) (a b : Nat) : List Int := (List.range c.length).map fun k => c.getD k 0 - (if k = a then 1 else 0) + (if k = b then 1 else 0)
theorem mvd_len (c : List Int) (a b : Nat) : (mvd c a b).length = c.length := by unfold mvd; rw [List.length_map, List.length_range]
theorem moved_ok {c : List Int} {a b : Nat} (ha : a < c.length) (hb : b < c.length) (g : G) : m_moved [rowD c, nD a, nD b] g = .ok (rowD (mvd c a b)) g := by
  let S (d : List Int) : SS := [some (.val (rowD c)), some (.val (nD a)), some (.val (nD b)), some (.own (d.map D.int))]
  let d1 := c.set a (c[a] - 1)
  have hb1 : b < d1.length := by rw [List.length_set]; exact hb
  have s1 : sSet 3 ([0] ++ []) (dCB lstOfD (aCons (eVar 0) aNil)) (startD 4 [rowD c, nD a, nD b]) g = .nx (S c) g := (sSet_val (f := .f (c.map D.int)) (cb_ok (args1 (var_ok rfl)) rfl) rfl).trans rfl
  have s2 : sAugIx 3 (fun i j : Int => i - j) (eC (.int 1)) (eVar 1) (S c) g = .nx (S d1) g := by
    refine (sAugIx_ok (i := a) (a := c[a]) (b := 1) (var_ok rfl) rfl (by rw [List.getElem?_map, List.getElem?_eq_getElem ha]; rfl) rfl).trans ?_
    show RS.nx [_, _, _, some (.own ((c.map D.int).set a (D.int (c[a] - 1))))] g = _
    rw [← List.map_set]
  have s3 : sAugIx 3 (fun i j : Int => i + j) (eC (.int 1)) (eVar 2) (S d1) g = .nx (S (d1.set b (d1[b] + 1))) g := by
    refine (sAugIx_ok (i := b) (a := d1[b]) (b := 1) (var_ok rfl) rfl (by rw [List.getElem?_map, List.getElem?_eq_getElem hb1]; rfl) rfl).trans ?_
    show RS.nx [_, _, _, some (.own ((d1.map D.int).set b (D.int (d1[b] + 1))))] g = _
    rw [← List.map_set]
  have e : d1.set b (d1[b] + 1) = mvd c a b := by
    apply List.ext_getElem
    · rw [List.length_set, List.length_set, mvd_len]
    · intro i h1 h2
      have h2 : i < c.length := by rw [mvd_len] at h2; exact h2
      have e0 : (mvd c a b)[i]? = some (c.getD i 0 - (if i = a then 1 else 0) + (if i = b then 1 else 0)) := by
        unfold mvd
        rw [List.getElem?_map, List.getElem?_range h2]
        rfl
      rw [(List.getElem?_eq_some_iff.mp e0).2, List.getElem_set, getD_le h2]
      by_cases hb2 : b = i
      · subst hb2
        rw [if_pos rfl, if_pos rfl]
        show (c.set a (c[a] - 1))[b] + 1 = _
        rw [List.getElem_set]
        by_cases ha2 : a = b
        · subst ha2
          rw [if_pos rfl, if_pos rfl]
        · rw [if_neg ha2, if_neg (Ne.symm ha2)]
          omega
      · rw [if_neg hb2, if_neg (Ne.symm hb2)]
        have hi1 : i < (c.set a (c[a] - 1)).length := by rw [List.length_set]; exact h2
        show (c.set a (c[a] - 1))[i] = _
        rw [List.getElem_set]
        by_cases ha2 : a = i
        · subst ha2
          rw [if_pos rfl, if_pos rfl]
          omega
        · rw [if_neg ha2, if_neg (Ne.symm ha2)]
          omega
  refine call_body rfl ((sSeq_nx s1).trans ((sSeq_nx s2).trans ((sSeq_nx s3).trans (ret_ok ?_))))
  rw [e]
  exact cb_ok (args1 (var_ok (d := .lst ((mvd c a b).map D.int)) rfl)) rfl
theorem intOf_bl (p : Prop) [Decidable p] : intOfD [.bl (decide p)] = some (.int (if p then 1 else 0)) := by
  by_cases h : p
  · rw [decide_eq_true h, if_pos h]; rfl
  · rw [decide_eq_false h, if_neg h]; rfl
theorem eq_nat (a b : Nat) : eqD (nD a) (nD b) = some (.bl (decide (a = b))) := by
  refine (eq_int _ _).trans ?_
  congr 2
  rw [Bool.eq_iff_iff, beq_iff_eq, decide_eq_true_iff]
  omega
theorem ne_nat (a b : Nat) : neD (nD a) (nD b) = some (.bl (decide (a ≠ b))) := by
  refine (ne_int _ _).trans ?_
  congr 2
  rw [Bool.eq_iff_iff, decide_eq_true_iff]
  simp
  try omega
theorem lother_ok {c : List Int} (hm : c.length ≤ 4) (a b : Nat) (g : G) : m__law_other [rowD c, nD a, nD b] g = .ok (rowD (mvd c a b)) g := by
  have c1 := compL_map (own := [3]) (tg := .nm 3) (c := tTrue) (e := eF (dBin addD (dBin subD (dBin idxD (eVar 0) (eVar 3)) (dCB intOfD (aCons (dBin eqD (eVar 3) (eVar 1)) aNil))) (dCB intOfD (aCons (dBin eqD (eVar 3) (eVar 2)) aNil)))) (S := view (startD 4 [rowD c, nD a, nD b])) (g := g) nD (fun _ => true) (fun k => .int (c.getD k 0 - (if k = a then 1 else 0) + (if k = b then 1 else 0))) (xs := List.range c.length) fun k hk => ⟨_, rfl, rfl, fun _ => eF_ok (f := .v (.int (c.getD k 0 - (if k = a then 1 else 0) + (if k = b then 1 else 0)))) (bin_ok (bin_ok (bin_ok (var_ok rfl) (var_ok rfl) (idx_ri (List.mem_range.mp hk))) (cb_ok (args1 (bin_ok (var_ok rfl) (var_ok rfl) (eq_nat k a))) (intOf_bl _)) rfl) (cb_ok (args1 (bin_ok (var_ok rfl) (var_ok rfl) (eq_nat k b))) (intOf_bl _)) rfl)⟩
  rw [filter_all, ints_of] at c1
  exact call_ret rfl (cb_ok (args1 (eF_ok (comp_ok (range_ok (n := c.length) (cb_ok (args1 (var_ok rfl)) (show lenD [rowD c] = some (.int (c.length : Nat)) by show some (D.int ((c.map D.int).length : Nat)) = _; rw [List.length_map])) (by omega)) c1))) rfl)
section
variable (A : Gm)
/-- a line comes in -/
def ent (c : List Int) (a b : Nat) : Bool := ((hl (mvd c a b)).filter fun k => decide (k ≠ b)).all fun k => decide (sm A (mvd c a b) k < sm A (mvd c a b) b)
theorem lti (i j : Int) : ltI (fun i j => decide (i < j)) (.int i) (.int j) = some (.bl (decide (i < j))) := rfl
theorem mem_hl {c : List Int} {k : Nat} : k ∈ hl c ↔ k < c.length ∧ 0 < c.getD k 0 := by
  unfold hl
  rw [List.mem_filter, List.mem_range, decide_eq_true_iff]
end

/-! what is asked first; lines that come in; crowds that are shut -/
theorem lei (i j : Int) : ltI (fun i j => decide (i ≤ j)) (.int i) (.int j) = some (.bl (decide (i ≤ j))) := rfl
section
variable (A : Gm) (hq : A.n = A.m)
include hq
theorem sq_ok (g : G) : m_is_square [Td A] g = .ok (.bl true) g := by
  have l0 := len_tb A.ra
  have h1 := A.m1
  have h4 := A.m4
  refine call_body rfl ((sSeq_nx (S1 := startD 1 [Td A]) (g1 := g) ((sIf_f (tor_f (tNot_f (isi_ok (var_ok rfl) rfl)) (tNot_f (tOf_ok ((chain2 (i := 1) (j := (A.m : Nat)) (k := 4) rfl (cb_ok (args1 (var_ok rfl)) l0) rfl).trans ?_))))).trans rfl)).trans (ret_ok (calls_ok (args3 (var_ok rfl) (cb_ok (args1 (var_ok rfl)) l0) (cb_ok (args1 (var_ok rfl)) l0)) rfl ?_)))
  · show DI.R.ok (D.bl (decide ((1 : Int) ≤ (A.m : Nat)) && decide (((A.m : Nat) : Int) ≤ 4))) g = _
    rw [decide_eq_true (by omega), decide_eq_true (by omega)]
    rfl
  · have := table_ok A A.ra g
    rw [hq] at this
    exact this
theorem chs_ok (g : G) : m_check_square [Td A] g = .ok .non g := call_end rfl ((sIf_f (tNot_f (tTru_ok (calls_ok (args1 (var_ok rfl)) rfl (sq_ok A hq g)) rfl))).trans rfl)
end
/-- no square -/
theorem sq_no {ds : List D} (h : ∀ r ∈ ds, (∃ xs, r = .tup xs ∧ xs.length ≠ ds.length) ∨ ∃ xs, r = .lst xs) (g : G) : m_is_square [.tup ds] g = .ok (.bl false) g := by
  have lt : ∀ S : DSt, S[0]? = some (some (.tup ds)) → dCB lenD (aCons (eVar 0) aNil) S g = .ok (nD ds.length) g := fun S h => cb_ok (args1 (var_ok h)) rfl
  have ch := chain2 (S := view (startD 1 [.tup ds])) (g := g) (t := eC (.int 1)) (u := dCB lenD (aCons (eVar 0) aNil)) (v := eC c_MOST_LINES) (i := 1) (j := (ds.length : Nat)) (k := 4) (p := fun i j => decide (i ≤ j)) (q := fun i j => decide (i ≤ j)) rfl (lt _ rfl) rfl
  have e1 := tNot_f (isi_ok (S := view (startD 1 [.tup ds])) (g := g) (t := eVar 0) (T := "tuple") (k := true) (var_ok rfl) rfl)
  cases hz : (decide ((1 : Int) ≤ (ds.length : Nat)) && decide (((ds.length : Nat) : Int) ≤ 4)) with
  | false =>
    have ch : eChain (ltI fun i j => decide (i ≤ j)) (ltI fun i j => decide (i ≤ j)) (eC (.int 1)) (dCB lenD (aCons (eVar 0) aNil)) (eC c_MOST_LINES) (view (startD 1 [.tup ds])) g = .ok (.bl false) g := ch.trans (by rw [hz])
    exact call_body rfl (sSeq_ret ((sIf_t (tor_f e1 (tNot_t (tOf_ok ch)))).trans (ret_ok rfl)))
  | true =>
    have ch : eChain (ltI fun i j => decide (i ≤ j)) (ltI fun i j => decide (i ≤ j)) (eC (.int 1)) (dCB lenD (aCons (eVar 0) aNil)) (eC c_MOST_LINES) (view (startD 1 [.tup ds])) g = .ok (.bl true) g := ch.trans (by rw [hz])
    rw [Bool.and_eq_true, decide_eq_true_iff, decide_eq_true_iff] at hz
    have tb : m_is_table [.tup ds, nD ds.length, nD ds.length] g = .ok (.bl false) g := by
      have c1 := compL_map (own := [3]) (tg := .nm 3) (c := tTrue) (e := eAnd (dUn (isiD "tuple") (eVar 3)) (dBin eqD (dCB lenD (aCons (eVar 3) aNil)) (eVar 2))) (S := view (startD 5 [.tup ds, nD ds.length, nD ds.length])) (g := g) (fun d : D => d) (fun _ => true) (fun _ => .bl false) (xs := ds) fun r hr => ⟨(view (startD 5 [.tup ds, nD ds.length, nD ds.length])).set 3 (some r), rfl, rfl, fun _ => by
        rcases h r hr with ⟨xs, rfl, hx⟩ | ⟨xs, rfl⟩
        · refine and_t (un_ok (z := .bl true) (var_ok rfl) rfl) rfl (bin_ok (cb_ok (args1 (var_ok rfl)) (show lenD [.tup xs] = some (nD xs.length) from rfl)) (var_ok rfl) ((eq_nat _ _).trans ?_))
          rw [decide_eq_false hx]
        · exact and_f (un_ok (a := D.lst xs) (z := D.bl false) (var_ok rfl) rfl) rfl⟩
      rw [filter_all, List.map_id'] at c1
      have al : allD [.lst (ds.map fun _ => D.bl false)] = some (.bl false) := by
        refine (all_true (fun _ => false) ds).trans ?_
        cases ds with
        | nil => simp at hz
        | cons d ds => rfl
      exact call_body rfl ((sSeq_nx (S1 := startD 5 [.tup ds, nD ds.length, nD ds.length]) (g1 := g) ((sIf_f (tor_f (tNot_f (isi_ok (var_ok rfl) rfl)) (tOf_ok (bin_ok (lt _ rfl) (var_ok rfl) ((ne_nat _ _).trans (by simp)))))).trans rfl)).trans (sSeq_ret ((sIf_t (tNot_t (tTru_ok (cb_ok (args1 (eF_ok (comp_ok (items_ok (var_ok rfl) rfl) c1))) al) rfl))).trans (ret_ok rfl))))
    exact call_body rfl ((sSeq_nx (S1 := startD 1 [.tup ds]) (g1 := g) ((sIf_f (tor_f e1 (tNot_f (tOf_ok ch)))).trans rfl)).trans (ret_ok (calls_ok (args3 (var_ok rfl) (lt _ rfl) (lt _ rfl)) rfl tb)))
theorem chs_er {d : D} {g : G} (h : m_is_square [d] g = .ok (.bl false) g) : m_check_square [d] g = .er mf g := call_er rfl ((sIf_t (tNot_t (tTru_ok (calls_ok (args1 (var_ok rfl)) rfl h) rfl))).trans rfl)
/-! crowds -/
def cB : D → Bool
  | .int i => decide (0 ≤ i)
  | _ => false
theorem cBP {x : D} (hx : cv x = true) {t : ET} {S : DSt} {g : G} (ht : t S g = .ok x g) : eAnd (eCalls 1 m_is_whole (aCons t aNil)) (dBin (ltI fun i j => decide (j ≤ i)) t (eC (.int 0))) S g = .ok (.bl (cB x)) g := by
  have hw := calls_ok (n := 1) (args1 ht) rfl (whole_ok hx g)
  cases hwh : wh x with
  | false =>
    rw [hwh] at hw
    refine (and_f hw rfl).trans ?_
    cases x with
    | int i => cases hwh
    | _ => rfl
  | true =>
    obtain ⟨i, rfl⟩ := wh_int hwh
    rw [hwh] at hw
    exact and_t hw rfl (bin_ok ht rfl rfl)
theorem cBL {x : D} (hx : cv x = true) {t : ET} {S : DSt} {g : G} (ht : t S g = .ok x g) : eAnd (dUn (isiD "int") t) (eAnd (eNot (dUn (isiD "bool") t)) (dBin (ltI fun i j => decide (j ≤ i)) t (eC (.int 0)))) S g = .ok (.bl (cB x)) g := by
  cases x with
  | int i => exact and_t (un_ok (z := D.bl true) ht rfl) rfl (and_t (not_ok (un_ok (z := D.bl false) ht rfl) rfl) rfl (bin_ok ht rfl rfl))
  | bl b => exact and_t (un_ok (z := D.bl true) ht rfl) rfl (and_f (not_ok (un_ok (z := D.bl true) ht rfl) rfl) rfl)
  | non => exact and_f (un_ok (z := D.bl false) ht rfl) rfl
  | str s => exact and_f (un_ok (z := D.bl false) ht rfl) rfl
  | tup ds => exact and_f (un_ok (z := D.bl false) ht rfl) rfl
  | lst ds => exact and_f (un_ok (z := D.bl false) ht rfl) rfl
  | draw => cases hx
  | fn _ => cases hx
  | dct _ _ => cases hx
theorem cB_all : ∀ {ds : List D}, ds.all cB = true → ∃ c : List Int, ds = c.map D.int ∧ ∀ x ∈ c, 0 ≤ x
  | [], _ => ⟨[], rfl, fun _ h => (nomatch h)⟩
  | d :: ds, h => by
    rw [List.all_cons, Bool.and_eq_true] at h
    obtain ⟨c, rfl, hc⟩ := cB_all h.2
    cases d with
    | int i => exact ⟨i :: c, rfl, fun x hx => by
        rcases List.mem_cons.mp hx with rfl | hx
        · exact of_decide_eq_true h.1
        · exact hc x hx⟩
    | _ => exact absurd (show false = true from h.1) (by decide)
section
variable (A : Gm)
theorem crowd_gen {v : D} (hv : cv v = true) (g : G) : ∃ b, m_is_crowd [Td A, v] g = .ok (.bl b) g ∧ m__law_crowd_right [Td A, v] g = .ok (.bl b) g ∧ (b = true → ∃ c, v = rowD c ∧ CrOk A.m c) ∧ ((∃ c, v = rowD c ∧ CrOk A.m c) → b = true) := by
  have l0 := len_tb A.ra
  by_cases ht : ∃ ds, v = .tup ds
  · obtain ⟨ds, rfl⟩ := ht
    have hd := cvA_mem hv
    let S0 : SS := startD 3 [Td A, .tup ds]
    have e1 := tNot_f (isi_ok (S := view S0) (g := g) (t := eVar 1) (T := "tuple") (k := true) (var_ok rfl) rfl)
    have e2 := tOf_ok (bin_ok (S := view S0) (g := g) (t := dCB lenD (aCons (eVar 1) aNil)) (u := dCB lenD (aCons (eVar 0) aNil)) (cb_ok (args1 (var_ok rfl)) (show lenD [.tup ds] = some (nD ds.length) from rfl)) (cb_ok (args1 (var_ok rfl)) l0) (ne_nat ds.length A.m))
    by_cases hl : ds.length = A.m
    · rw [show decide (ds.length ≠ A.m) = false by simp [hl]] at e2
      have c1 := compL_map (own := [2]) (tg := .nm 2) (c := tTrue) (e := eAnd (eCalls 1 m_is_whole (aCons (eVar 2) aNil)) (dBin (ltI fun i j => decide (j ≤ i)) (eVar 2) (eC (.int 0)))) (S := view S0) (g := g) (fun d : D => d) (fun _ => true) (fun d => .bl (cB d)) (xs := ds) fun d h => ⟨(view S0).set 2 (some d), rfl, rfl, fun _ => cBP (hd d h) (var_ok rfl)⟩
      rw [filter_all, List.map_id'] at c1
      have c2 := compL_map (own := [2]) (tg := .nm 2) (c := tTrue) (e := eAnd (dUn (isiD "int") (eVar 2)) (eAnd (eNot (dUn (isiD "bool") (eVar 2))) (dBin (ltI fun i j => decide (j ≤ i)) (eVar 2) (eC (.int 0))))) (S := view S0) (g := g) (fun d : D => d) (fun _ => true) (fun d => .bl (cB d)) (xs := ds) fun d h => ⟨(view S0).set 2 (some d), rfl, rfl, fun _ => cBL (hd d h) (var_ok rfl)⟩
      rw [filter_all, List.map_id'] at c2
      have a1 : dCB allD (aCons (eF (xComp [2] (.nm 2) (iItems (eVar 1)) tTrue (eAnd (eCalls 1 m_is_whole (aCons (eVar 2) aNil)) (dBin (ltI fun i j => decide (j ≤ i)) (eVar 2) (eC (.int 0)))))) aNil) (view S0) g = .ok (.bl (ds.all cB)) g := cb_ok (args1 (eF_ok (comp_ok (items_ok (var_ok rfl) rfl) c1))) (all_true cB ds)
      have a2 : dCB allD (aCons (eF (xComp [2] (.nm 2) (iItems (eVar 1)) tTrue (eAnd (dUn (isiD "int") (eVar 2)) (eAnd (eNot (dUn (isiD "bool") (eVar 2))) (dBin (ltI fun i j => decide (j ≤ i)) (eVar 2) (eC (.int 0))))))) aNil) (view S0) g = .ok (.bl (ds.all cB)) g := cb_ok (args1 (eF_ok (comp_ok (items_ok (var_ok rfl) rfl) c2))) (all_true cB ds)
      cases ha : ds.all cB with
      | false =>
        rw [ha] at a1 a2
        refine ⟨false, call_body rfl (sSeq_ret ((sIf_t (tor_f e1 (tor_f e2 (tNot_t (tTru_ok a1 rfl))))).trans (ret_ok rfl))), call_body rfl ((sSeq_nx (S1 := S0) (g1 := g) ((sIf_f (tor_f e1 e2)).trans rfl)).trans (ret_ok (and_f a2 rfl))), fun h => (nomatch h), fun ⟨c, hc, hk⟩ => ?_⟩
        have : ds = c.map D.int := by injection hc
        subst this
        rw [List.all_map, List.all_eq_false] at ha
        obtain ⟨x, hx, hx2⟩ := ha
        exact absurd (decide_eq_true (hk.nn x hx) : cB (.int x) = true) hx2
      | true =>
        rw [ha] at a1 a2
        obtain ⟨c, rfl, hn⟩ := cB_all ha
        have ch : eChain (ltI fun i j => decide (i ≤ j)) (ltI fun i j => decide (i ≤ j)) (eC (.int 2)) (dCB sumA (aCons (eVar 1) aNil)) (eC c_MOST_HOLDERS) (view S0) g = .ok (.bl (decide (2 ≤ c.sum) && decide (c.sum ≤ 6))) g := chain2 (i := 2) (j := c.sum) (k := 6) rfl (cb_ok (args1 (var_ok rfl)) (sum_tup c)) rfl
        have ch2 : eChain (ltI fun i j => decide (i ≤ j)) (ltI fun i j => decide (i ≤ j)) (eC (.int 2)) (dCB sumA (aCons (eVar 1) aNil)) (eC (.int 6)) (view S0) g = .ok (.bl (decide (2 ≤ c.sum) && decide (c.sum ≤ 6))) g := chain2 (i := 2) (j := c.sum) (k := 6) rfl (cb_ok (args1 (var_ok rfl)) (sum_tup c)) rfl
        refine ⟨decide (2 ≤ c.sum) && decide (c.sum ≤ 6), call_body rfl ((sSeq_nx (S1 := S0) (g1 := g) ((sIf_f (tor_f e1 (tor_f e2 (tNot_f (tTru_ok a1 rfl))))).trans rfl)).trans (ret_ok ch)), call_body rfl ((sSeq_nx (S1 := S0) (g1 := g) ((sIf_f (tor_f e1 e2)).trans rfl)).trans (ret_ok (and_t a2 rfl ch2))), fun h => ?_, fun ⟨c', hc, hk⟩ => ?_⟩
        · rw [Bool.and_eq_true, decide_eq_true_iff, decide_eq_true_iff] at h
          exact ⟨c, rfl, by rw [List.length_map] at hl; exact hl, hn, h.1, h.2⟩
        · have : c'.map D.int = c.map D.int := by injection hc with hc; exact hc.symm
          have e : c' = c := (List.map_inj_right fun a b h => by injection h).mp this
          subst e
          rw [decide_eq_true hk.lo, decide_eq_true hk.hi]
          rfl
    · rw [decide_eq_true hl] at e2
      exact ⟨false, call_body rfl (sSeq_ret ((sIf_t (tor_f e1 (tor_t e2))).trans (ret_ok rfl))), call_body rfl (sSeq_ret ((sIf_t (tor_f e1 e2)).trans (ret_ok rfl))), fun h => (nomatch h), fun ⟨c, hc, hk⟩ => by
        have : ds = c.map D.int := by injection hc
        rw [this, List.length_map] at hl
        exact absurd hk.len hl⟩
  · have hn : ∀ ds, v ≠ .tup ds := fun ds h => ht ⟨ds, h⟩
    have hi : isiD "tuple" v = some (.bl false) := by
      cases v with
      | tup ds => exact absurd rfl (hn ds)
      | draw => cases hv
      | fn _ => cases hv
      | dct _ _ => cases hv
      | _ => rfl
    have e1 := tNot_t (isi_ok (S := view (startD 3 [Td A, v])) (g := g) (t := eVar 1) (var_ok rfl) hi)
    exact ⟨false, call_body rfl (sSeq_ret ((sIf_t (tor_t e1)).trans (ret_ok rfl))), call_body rfl (sSeq_ret ((sIf_t (tor_t e1)).trans (ret_ok rfl))), fun h => (nomatch h), fun ⟨c, hc, _⟩ => absurd hc (hn _)⟩
theorem cv_row (c : List Int) : cv (rowD c) = true := cv_tup fun d hd => by
  obtain ⟨i, _, rfl⟩ := List.mem_map.mp hd
  rfl
theorem chc_ok {c : List Int} (hc : CrOk A.m c) (g : G) : m_check_crowd [Td A, rowD c] g = .ok .non g := by
  obtain ⟨b, h1, _, _, h2⟩ := crowd_gen A (cv_row c) g
  rw [h2 ⟨c, rfl, hc⟩] at h1
  exact call_end rfl ((sIf_f (tNot_f (tTru_ok (calls_ok (args2 (var_ok rfl) (var_ok rfl)) rfl h1) rfl))).trans rfl)
theorem chc_er {v : D} (hv : cv v = true) (hn : ¬ ∃ c, v = rowD c ∧ CrOk A.m c) (g : G) : m_check_crowd [Td A, v] g = .er mf g ∧ m__law_crowd_right [Td A, v] g = .ok (.bl false) g := by
  obtain ⟨b, h1, h2, h3, _⟩ := crowd_gen A hv g
  have hb : b = false := by
    cases b with
    | false => rfl
    | true => exact absurd (h3 rfl) hn
  subst hb
  exact ⟨call_er rfl ((sIf_t (tNot_t (tTru_ok (calls_ok (args2 (var_ok rfl) (var_ok rfl)) rfl h1) rfl))).trans rfl), h2⟩
/-! lines -/
def lnB (m : Nat) : D → Bool
  | .int i => decide (0 ≤ i) && decide (i < (m : Nat))
  | _ => false
/-! entries -/
variable (hq : A.n = A.m)
def prs (c : List Int) : List (Nat × Nat) := ((hl c).flatMap fun a => ((List.range A.m).filter fun b => !decide (b ∈ hl c)).map fun b => (a, b)).filter fun p => ent A c p.1 p.2
theorem notin_nat (b : Nat) (xs : List Nat) : notInD (nD b) (.lst (xs.map nD)) = some (.bl (!decide (b ∈ xs))) := by
  unfold notInD inB
  dsimp only
  rw [if_pos ⟨(sh_nD b).ok (by omega), (sh_lst (n := 1) fun d hd => by
    obtain ⟨c, _, rfl⟩ := List.mem_map.mp hd
    exact sh_nD c).ok (by omega)⟩]
  show some (D.bl (!((xs.map nD).any fun z => PyData.eqv z.py (nD b).py))) = _
  congr 3
  rw [List.any_map, Bool.eq_iff_iff, List.any_eq_true, decide_eq_true_iff]
  constructor
  · rintro ⟨c, hc, e⟩
    have e : (((c : Nat) : Int) == (b : Nat)) = true := e
    have : c = b := by have := beq_iff_eq.mp e; omega
    exact this ▸ hc
  · intro h
    refine ⟨b, h, ?_⟩
    show (((b : Nat) : Int) == (b : Nat)) = true
    simp
include hq
end

/-! lines held by all; how much more a holder gets -/
theorem sum_if (f : Nat → Int) (a : Nat) : ∀ n, ((List.range n).map fun k => if k = a then f k else 0).sum = if a < n then f a else 0
  | 0 => rfl
  | n + 1 => by
    rw [List.range_succ, List.map_append, List.sum_append, sum_if f a n, List.map_singleton, List.sum_singleton]
    by_cases h : n = a
    · subst h
      rw [if_neg (Nat.lt_irrefl _), if_pos rfl, if_pos (Nat.lt_succ_self _)]
      omega
    · rw [if_neg h]
      by_cases h2 : a < n
      · rw [if_pos h2, if_pos (by omega)]; omega
      · rw [if_neg h2, if_neg (by omega)]; omega
theorem sum_add (f g : Nat → Int) (n : Nat) : ((List.range n).map fun k => f k + g k).sum = ((List.range n).map f).sum + ((List.range n).map g).sum := by
  induction n with
  | zero => rfl
  | succ n ih =>
    rw [List.range_succ, List.map_append, List.map_append, List.map_append, List.sum_append, List.sum_append, List.sum_append, ih]
    simp only [List.map_singleton, List.sum_singleton]
    omega
theorem one_of : ∀ m < 5, ∀ l < m, ((List.range m).filter fun i => decide (i = l)) = [l] := by decide
theorem fdiv_ok {n : Int} {k : Nat} (h1 : 0 < k) (h2 : k ≤ 1000) : fdivD (.int n) (.int (k : Nat)) = some (.int (n.fdiv (k : Nat))) := by
  show (if CDivN n (k : Nat) then _ else _) = _
  rw [if_pos ⟨by omega, by rw [Int.natAbs_natCast]; omega⟩]
theorem enum_range (f : Nat → D) (n : Nat) : enumD 0 ((List.range n).map f) = (List.range n).map fun l => .tup [nD l, f l] := by
  apply List.ext_getElem?
  intro i
  by_cases hi : i < n
  · rw [enumD_get (x := f i) (by rw [List.getElem?_map, List.getElem?_range hi]; rfl), List.getElem?_map, List.getElem?_range hi, Nat.zero_add]
    rfl
  · rw [List.getElem?_eq_none (by rw [enumD_len, List.length_map, List.length_range]; omega), List.getElem?_eq_none (by rw [List.length_map, List.length_range]; omega)]
theorem row_nol (c : List Int) : (rowD c).nol = true := nol_map D.int (fun _ => rfl) c
section
variable (A : Gm) (hq : A.n = A.m)
/-- all hold one line -/
def alone (l k : Nat) : List Int := (List.range A.m).map fun i => if i = l then (k : Int) else 0
theorem alone_at {l k i : Nat} (hi : i < A.m) : (alone A l k).getD i 0 = if i = l then (k : Int) else 0 := by
  unfold alone
  rw [List.getD_eq_getElem?_getD, List.getElem?_map, List.getElem?_range hi]
  rfl
theorem alone_ok {l k : Nat} (hl : l < A.m) (h2 : 2 ≤ k) (h6 : k ≤ 6) : CrOk A.m (alone A l k) := by
  have hs : (alone A l k).sum = k := by
    unfold alone
    rw [sum_if (fun _ => (k : Int)) l A.m, if_pos hl]
  refine ⟨by unfold alone; rw [List.length_map, List.length_range], fun x hx => ?_, by omega, by omega⟩
  obtain ⟨i, _, rfl⟩ := List.mem_map.mp hx
  split <;> omega
theorem hl_alone {l k : Nat} (hl' : l < A.m) (h2 : 2 ≤ k) : hl (alone A l k) = [l] := by
  rw [← one_of A.m (by have := A.m4; omega) l hl']
  unfold hl
  have : (alone A l k).length = A.m := by unfold alone; rw [List.length_map, List.length_range]
  rw [this]
  refine List.filter_congr fun i hi => ?_
  rw [alone_at A (List.mem_range.mp hi)]
  by_cases h : i = l
  · rw [if_pos h, decide_eq_true h]; exact decide_eq_true (by omega)
  · rw [if_neg h, decide_eq_false h]; rfl
theorem prs_alone {l k : Nat} (hl' : l < A.m) (h2 : 2 ≤ k) : (prs A (alone A l k)).isEmpty = !(((List.range A.m).filter fun b => decide (b ≠ l)).any fun b => ent A (alone A l k) l b) := by
  unfold prs
  rw [hl_alone A hl' h2, List.flatMap_cons, List.flatMap_nil, List.append_nil]
  have e : ((List.range A.m).filter fun b => !decide (b ∈ [l])) = (List.range A.m).filter fun b => decide (b ≠ l) := List.filter_congr fun b _ => by simp
  rw [e, Bool.eq_iff_iff, List.isEmpty_iff, Bool.not_eq_true', List.filter_eq_nil_iff, List.any_eq_false]
  constructor
  · intro h b hb
    exact h (l, b) (List.mem_map.mpr ⟨b, hb, rfl⟩)
  · intro h p hp
    obtain ⟨b, hb, rfl⟩ := List.mem_map.mp hp
    exact h b hb
theorem whole_nat (k : Nat) (g : G) : m_is_whole [nD k] g = .ok (.bl true) g := whole_int _ g
include hq
/-! how much more -/
omit hq
end

/-! what is no table, no crowd; what is raised -/
theorem cut1 (xs : List D) : cutD xs (some 1) none = xs.drop 1 := by
  unfold cutD
  rw [HT.sIx_none, show (some 1 : Option Int) = some ((1 : Nat) : Int) from rfl, HT.sIx_nat]
  cases xs with
  | nil => rfl
  | cons x xs =>
    rw [Nat.min_eq_left (by rw [List.length_cons]; omega)]
    exact List.take_of_length_le (by rw [List.length_drop]; exact Nat.le_refl _)
theorem map_int_inj {a b : List Int} (h : a.map D.int = b.map D.int) : a = b := (List.map_inj_right fun a b h => by injection h).mp h
section
variable (A : Gm)
def t10 : List D := [.tup [], .tup (A.a.map rowD ++ [rowD (A.a.getD 0 [])]), .tup (cutD (A.a.map rowD) (some 1) none), .lst [Td A], .non, .int 0, .tup [.tup [.int 101]], .tup [.tup [.bl true]], .tup (A.a.map fun r => .lst (r.map D.int)), .tup (List.replicate 5 (.tup [.int 0]))]
def badT : List D := t10 A ++ [.tup (A.a.map fun r => .tup (r.map D.int ++ [.int 0])), .tup [.tup [.int 0, .int 0], .tup [.int 0]]]
theorem badT_no (hq : A.n = A.m) {v : D} (hv : v ∈ badT A) (g : G) : m_is_square [v] g = .ok (.bl false) g := by
  have hm := A.m1
  have row : ∀ r ∈ A.a, r.length = A.m := fun r hr => (A.ra.row r hr).trans hq
  have r0 : (A.a.getD 0 []).length = A.m := (row_len A.ra A.m1).trans hq
  have la : (A.a.map rowD).length = A.m := by rw [List.length_map]; exact A.ra.len
  simp only [badT, t10, List.mem_append, List.mem_cons, List.not_mem_nil, or_false] at hv
  rcases hv with (rfl | rfl | rfl | rfl | rfl | rfl | rfl | rfl | rfl | rfl) | rfl | rfl
  · exact sq_no (ds := []) (fun r hr => by cases hr) g
  · refine sq_no (fun r hr => ?_) g
    have hl : (A.a.map rowD ++ [rowD (A.a.getD 0 [])]).length = A.m + 1 := by rw [List.length_append, la]; rfl
    rw [hl]
    rcases List.mem_append.mp hr with hr | hr
    · obtain ⟨x, hx, rfl⟩ := List.mem_map.mp hr
      exact .inl ⟨x.map D.int, rfl, by rw [List.length_map, row x hx]; omega⟩
    · rw [List.mem_singleton.mp hr]
      exact .inl ⟨(A.a.getD 0 []).map D.int, rfl, by rw [List.length_map, r0]; omega⟩
  · rw [cut1]
    refine sq_no (fun r hr => ?_) g
    obtain ⟨x, hx, rfl⟩ := List.mem_map.mp (List.mem_of_mem_drop hr)
    exact .inl ⟨x.map D.int, rfl, by rw [List.length_map, row x hx, List.length_drop, la]; omega⟩
  · exact call_body rfl (sSeq_ret ((sIf_t (tor_t (tNot_t (isi_ok (var_ok rfl) rfl)))).trans (ret_ok rfl)))
  · kernel_rfl
  · kernel_rfl
  · kernel_rfl
  · kernel_rfl
  · exact sq_no (fun r hr => by
      obtain ⟨x, hx, rfl⟩ := List.mem_map.mp hr
      exact .inr ⟨_, rfl⟩) g
  · exact sq_no (fun r hr => by
      rw [(List.mem_replicate.mp hr).2]
      exact .inl ⟨[.int 0], rfl, by rw [List.length_replicate]; simp⟩) g
  · exact sq_no (fun r hr => by
      obtain ⟨x, hx, rfl⟩ := List.mem_map.mp hr
      exact .inl ⟨_, rfl, by rw [List.length_append, List.length_map, row x hx, List.length_map, A.ra.len]; simp⟩) g
  · kernel_rfl
theorem badT_run (g : G) (hg : -1 ≤ g.at_) : ∃ v g', m__law_bad_table [.draw, Td A] g = .ok v g' ∧ v ∈ badT A ∧ -1 ≤ g'.at_ := by
  have hm := A.m4
  have h1 := A.m1
  have la : (A.a.map rowD).length = A.m := by rw [List.length_map]; exact A.ra.len
  let S0 : SS := startD 4 [.draw, Td A]
  let S1 : SS := [some (.val .draw), some (.val (Td A)), some (.own (t10 A)), none]
  have c1 := compL_map (own := [3]) (tg := .nm 3) (c := tTrue) (e := eF (dCB lstOfD (aCons (eVar 3) aNil))) (S := view S0) (g := g) rowD (fun _ => true) (fun r => .lst (r.map D.int)) (xs := A.a) fun r hr => ⟨(view S0).set 3 (some (rowD r)), rfl, rfl, fun _ => eF_ok (f := .f (r.map D.int)) (cb_ok (args1 (var_ok rfl)) rfl)⟩
  rw [filter_all] at c1
  have i0 : dBin idxD (eVar 1) (eC (.int 0)) (view S0) g = .ok (rowD (A.a.getD 0 [])) g := bin_ok (var_ok rfl) rfl (idx_row A.ra (i := 0) h1)
  have a9 : dBin mulT (eTup (aCons (eTup (aCons (eC (.int 0)) aNil)) aNil)) (eC (.int 5)) (view S0) g = .ok (.tup (List.replicate 5 (.tup [.int 0]))) g := bin_ok (tup_ok (args1 (tup_ok (args1 rfl) (by simp))) (by simp)) rfl (mulT_rep (.tup [.int 0]) (n := 5) (by omega) (by omega))
  have s1 : (sSet 2 ([] ++ (([1] ++ (([1] ++ []) ++ [])) ++ (([1] ++ ([] ++ [])) ++ (([1] ++ []) ++ ([] ++ ([] ++ ((([] ++ []) ++ []) ++ ((([] ++ []) ++ []) ++ ((([1] ++ []) ++ []) ++ (((([] ++ []) ++ []) ++ []) ++ [])))))))))) (xLst (aCons (eTup aNil) (aCons (eF (dBin addD (eVar 1) (eTup (aCons (dBin idxD (eVar 1) (eC (.int 0))) aNil)))) (aCons (eF (xSlice (eVar 1) (oAt (eC (.int 1))) oNo)) (aCons (eF (xLst (aCons (eVar 1) aNil))) (aCons (eC .non) (aCons (eC (.int 0)) (aCons (eTup (aCons (eTup (aCons (eC (.int 101)) aNil)) aNil)) (aCons (eTup (aCons (eTup (aCons (eC (.bl true)) aNil)) aNil)) (aCons (dCB tupOfD (aCons (eF (xComp [3] (.nm 3) (iItems (eVar 1)) tTrue (eF (dCB lstOfD (aCons (eVar 3) aNil))))) aNil)) (aCons (dBin mulT (eTup (aCons (eTup (aCons (eC (.int 0)) aNil)) aNil)) (eC (.int 5))) aNil)))))))))))) S0 g = .nx S1 g := (sSet_val (f := .f (t10 A)) (lst_ok (args_cons (tup_ok rfl (by simp)) (args_cons (eF_ok (f := .v (.tup (A.a.map rowD ++ [rowD (A.a.getD 0 [])]))) (bin_ok (a := Td A) (var_ok rfl) (tup_ok (args1 i0) (by simp)) (add_tup (by rw [la]; show A.m + 1 ≤ 1000; omega)))) (args_cons (eF_ok (f := .v (.tup (cutD (A.a.map rowD) (some 1) none))) (slice_ok (a := Td A) (l := some 1) (h := none) (var_ok rfl) (oat_ok rfl) rfl rfl)) (args_cons (eF_ok (f := .f [Td A]) (lst_ok (args1 (var_ok rfl)) (by simp))) (args_cons rfl (args_cons rfl (args_cons (tup_ok (args1 (tup_ok (args1 rfl) (by simp))) (by simp)) (args_cons (tup_ok (args1 (tup_ok (args1 rfl) (by simp))) (by simp)) (args_cons (cb_ok (f := tupOfD) (args1 (eF_ok (comp_ok (items_ok (d := Td A) (var_ok rfl) rfl) c1))) rfl) (args1 a9)))))))))) (by show (10 : Nat) ≤ 1000; omega)) rfl).trans rfl
  obtain ⟨k, g1, e1, hk, hg1⟩ := etake_ok (n := 12) (i := 0) (t := eC (.int 12)) (S := view S1) (by omega) (by omega) rfl (fun _ => rfl) hg
  obtain ⟨v, hv, ev⟩ := pick (k := k) (ds := badT A) hk
  have c2 := compL_map (own := [3]) (tg := .nm 3) (c := tTrue) (e := eF (dBin addD (eVar 3) (eTup (aCons (eC (.int 0)) aNil)))) (S := view S1) (g := g) rowD (fun _ => true) (fun r => .tup (r.map D.int ++ [.int 0])) (xs := A.a) fun r hr => ⟨(view S1).set 3 (some (rowD r)), rfl, rfl, fun _ => eF_ok (f := .v (.tup (r.map D.int ++ [.int 0]))) (bin_ok (a := rowD r) (var_ok rfl) (tup_ok (args1 rfl) (by simp)) (add_tup (by rw [List.length_map, A.ra.row r hr]; have := A.n4; simp; omega)))⟩
  rw [filter_all] at c2
  refine ⟨v, g1, call_body rfl ((sSeq_nx s1).trans (ret_ok (bin_ok (a := .lst (badT A)) (eF_ok (f := .f (badT A)) (bin_ok (a := .lst (t10 A)) (var_ok rfl) (eF_ok (f := .f [.tup (A.a.map fun r => .tup (r.map D.int ++ [.int 0])), .tup [.tup [.int 0, .int 0], .tup [.int 0]]]) (lst_ok (args2 (cb_ok (f := tupOfD) (args1 (eF_ok (comp_ok (items_ok (d := Td A) (var_ok rfl) rfl) c2))) rfl) (tup_ok (args2 (tup_ok (args2 rfl rfl) (by simp)) (tup_ok (args1 rfl) (by simp))) (by simp))) (by simp))) (add_lst (by show (10 : Nat) + 2 ≤ 1000; omega)))) e1 ev))), hv, hg1⟩
/-! crowds -/
def badC (c : List Int) : List D := [.tup (List.replicate A.m (.int 0)), .tup (c.map D.int ++ [.int 1]), .tup (cutD (c.map D.int) (some 1) none), .lst (c.map D.int), .tup (List.replicate A.m (.int 7)), .tup ([.int (-1)] ++ cutD (c.map D.int) (some 1) none), .non, .int 0, .tup (List.replicate A.m (.bl true)), .tup ([.int 1] ++ List.replicate (A.m - 1) (.int 0))]
theorem rep_sum (x : Int) : ∀ n : Nat, (List.replicate n x).sum = x * n
  | 0 => by simp
  | n + 1 => by rw [List.replicate_succ, List.sum_cons, rep_sum x n]; push_cast; rw [Int.mul_add, Int.mul_one]; omega
theorem cv_cut {c : List Int} : ∀ d ∈ cutD (c.map D.int) (some 1) none, cv d = true := fun d hd => by
  obtain ⟨i, _, rfl⟩ := List.mem_map.mp (cutD_mem hd)
  rfl
theorem badC_no {c : List Int} (hc : CrOk A.m c) {v : D} (hv : v ∈ badC A c) : cv v = true ∧ ¬ ∃ c', v = rowD c' ∧ CrOk A.m c' := by
  have hm := A.m1
  simp only [badC, List.mem_cons, List.not_mem_nil, or_false] at hv
  rcases hv with rfl | rfl | rfl | rfl | rfl | rfl | rfl | rfl | rfl | rfl
  · refine ⟨cv_tup fun d hd => by rw [(List.mem_replicate.mp hd).2]; rfl, fun ⟨c', e, hk⟩ => ?_⟩
    injection e with e
    rw [← List.map_replicate] at e
    have := map_int_inj e
    have h2 := hk.lo
    rw [← this, rep_sum] at h2
    omega
  · refine ⟨cv_tup fun d hd => ?_, fun ⟨c', e, hk⟩ => ?_⟩
    · rcases List.mem_append.mp hd with hd | hd
      · obtain ⟨i, _, rfl⟩ := List.mem_map.mp hd; rfl
      · rw [List.mem_singleton.mp hd]; rfl
    · injection e with e
      have := congrArg List.length e
      rw [List.length_append, List.length_map, List.length_map, hc.len, hk.len] at this
      simp at this
  · refine ⟨cv_tup fun d hd => cv_cut d hd, fun ⟨c', e, hk⟩ => ?_⟩
    injection e with e
    have := congrArg List.length e
    rw [cut1, List.length_drop, List.length_map, List.length_map, hc.len, hk.len] at this
    omega
  · exact ⟨cv_lst fun d hd => by obtain ⟨i, _, rfl⟩ := List.mem_map.mp hd; rfl, fun ⟨c', e, hk⟩ => by cases e⟩
  · refine ⟨cv_tup fun d hd => by rw [(List.mem_replicate.mp hd).2]; rfl, fun ⟨c', e, hk⟩ => ?_⟩
    injection e with e
    rw [← List.map_replicate] at e
    have := map_int_inj e
    have h2 := hk.hi
    rw [← this, rep_sum] at h2
    omega
  · refine ⟨cv_tup fun d hd => ?_, fun ⟨c', e, hk⟩ => ?_⟩
    · rcases List.mem_append.mp hd with hd | hd
      · rw [List.mem_singleton.mp hd]; rfl
      · exact cv_cut d hd
    · injection e with e
      cases c' with
      | nil => cases e
      | cons x xs =>
        rw [List.map_cons] at e
        injection e with e1 e2
        injection e1 with e1
        have := hk.nn x List.mem_cons_self
        omega
  · exact ⟨rfl, fun ⟨c', e, hk⟩ => by cases e⟩
  · exact ⟨rfl, fun ⟨c', e, hk⟩ => by cases e⟩
  · refine ⟨cv_tup fun d hd => by rw [(List.mem_replicate.mp hd).2]; rfl, fun ⟨c', e, hk⟩ => ?_⟩
    injection e with e
    obtain ⟨k, hk2⟩ : ∃ k, A.m = k + 1 := ⟨A.m - 1, by omega⟩
    rw [hk2, List.replicate_succ] at e
    cases c' with
    | nil => cases e
    | cons x xs =>
      rw [List.map_cons] at e
      injection e with e1 _
      cases e1
  · refine ⟨cv_tup fun d hd => ?_, fun ⟨c', e, hk⟩ => ?_⟩
    · rcases List.mem_append.mp hd with hd | hd
      · rw [List.mem_singleton.mp hd]; rfl
      · rw [(List.mem_replicate.mp hd).2]; rfl
    · injection e with e
      have e' : ((1 : Int) :: List.replicate (A.m - 1) 0).map D.int = c'.map D.int := by
        rw [← e, List.map_cons, List.map_replicate]; rfl
      have := map_int_inj e'
      have h2 := hk.lo
      rw [← this, List.sum_cons, rep_sum] at h2
      omega
theorem badC_run {c : List Int} (hc : CrOk A.m c) (g : G) (hg : -1 ≤ g.at_) : ∃ v g', m__law_bad_crowd [.draw, Td A, rowD c] g = .ok v g' ∧ v ∈ badC A c ∧ -1 ≤ g'.at_ := by
  have hm := A.m4
  have h1 := A.m1
  let S0 : SS := startD 4 [.draw, Td A, rowD c]
  let S1 : SS := [some (.val .draw), some (.val (Td A)), some (.val (rowD c)), some (.val (nD A.m))]
  have s1 : sSet 3 ([1] ++ []) (xV (dCB lenD (aCons (eVar 1) aNil))) S0 g = .nx S1 g := (sSet_val (f := .v (nD A.m)) (xV_ok (cb_ok (args1 (var_ok rfl)) (len_tb A.ra))) rfl).trans rfl
  obtain ⟨k, g1, e1, hk, hg1⟩ := etake_ok (n := 10) (i := 0) (t := eC (.int 10)) (S := view S1) (by omega) (by omega) rfl (fun _ => rfl) hg
  obtain ⟨v, hv, ev⟩ := pick (k := k) (ds := badC A c) hk
  have ml : ∀ d : D, ∀ t : ET, t (view S1) g = .ok d g → dBin mulT (eTup (aCons t aNil)) (eVar 3) (view S1) g = .ok (.tup (List.replicate A.m d)) g := fun d t ht => bin_ok (a := .tup [d]) (tup_ok (args1 ht) (by simp)) (var_ok rfl) (mulT_rep d (by omega) (by omega))
  have sl : xSlice (eVar 2) (oAt (eC (.int 1))) oNo (view S1) g = .ok (.v (.tup (cutD (c.map D.int) (some 1) none))) g := slice_ok (a := rowD c) (l := some 1) (h := none) (var_ok rfl) (oat_ok rfl) rfl rfl
  have a10 : dBin mulZ (eTup (aCons (eC (.int 0)) aNil)) (dBin subD (eVar 3) (eC (.int 1))) (view S1) g = .ok (.tup (List.replicate (A.m - 1) (.int 0))) g := bin_ok (a := .tup [.int 0]) (b := nD (A.m - 1)) (tup_ok (args1 rfl) (by simp)) (bin_ok (var_ok rfl) rfl (by
    show some (D.int (((A.m : Nat) : Int) - 1)) = some (D.int ((A.m - 1 : Nat) : Int))
    congr 2
    omega)) (mulZ_rep (.int 0) (by omega))
  have lc : (c.map D.int).length ≤ 4 := by rw [List.length_map, hc.len]; exact hm
  have lcut : (cutD (c.map D.int) (some 1) none).length ≤ 4 := Nat.le_trans (cutD_len _ _ _) lc
  refine ⟨v, g1, call_body rfl ((sSeq_nx s1).trans (ret_ok (bin_ok (a := .lst (badC A c)) (eF_ok (f := .f (badC A c)) (lst_ok (args_cons (ml (.int 0) _ rfl) (args_cons (eF_ok (f := .v (.tup (c.map D.int ++ [.int 1]))) (bin_ok (a := rowD c) (var_ok rfl) (tup_ok (args1 rfl) (by simp)) (add_tup (by simp only [List.length_singleton]; omega)))) (args_cons (eF_ok sl) (args_cons (eF_ok (f := .f (c.map D.int)) (cb_ok (args1 (var_ok rfl)) rfl)) (args_cons (ml (.int 7) _ rfl) (args_cons (eF_ok (f := .v (.tup ([.int (-1)] ++ cutD (c.map D.int) (some 1) none))) (bin_ok (a := .tup [.int (-1)]) (tup_ok (args1 rfl) (by simp)) (eF_ok sl) (add_tup (by simp only [List.length_singleton]; omega)))) (args_cons rfl (args_cons rfl (args_cons (ml (.bl true) _ rfl) (args1 (eF_ok (f := .v (.tup ([.int 1] ++ List.replicate (A.m - 1) (.int 0)))) (bin_ok (a := .tup [.int 1]) (tup_ok (args1 rfl) (by simp)) a10 (add_tup (by rw [List.length_replicate]; simp only [List.length_singleton]; omega)))))))))))))) (by show (10 : Nat) ≤ 1000; omega))) e1 ev))), hv, hg1⟩
end
/-! what is raised -/
theorem acons_er {t : ET} {ts : DSt → G → R (List D)} {S : DSt} {g g' : G} {x : Exn} (h : t S g = .er x g') : aCons t ts S g = .er x g' := by unfold aCons; rw [h]; rfl
theorem cb_er {α : Type} {f : List D → Option α} {ts : DSt → G → R (List D)} {S : DSt} {g g' : G} {x : Exn} (h : ts S g = .er x g') : dCB f ts S g = .er x g' := by unfold dCB; rw [h]; rfl
theorem bin_er {α : Type} {f : D → D → Option α} {t u : ET} {S : DSt} {g g' : G} {x : Exn} (h : t S g = .er x g') : dBin f t u S g = .er x g' := by unfold dBin; rw [h]; rfl
section
variable (A : Gm) (hq : A.n = A.m)
include hq
/-- a number of holders that is none -/
def nmB (hi : Int) : D → Bool
  | .int i => decide (2 ≤ i) && decide (i ≤ hi)
  | _ => false
end

/-! crowds behind copying; sums -/
theorem sh_row (c : List Int) : Sh 2 (rowD c) := sh_tup (n := 1) fun d hd => by
  obtain ⟨i, _, rfl⟩ := List.mem_map.mp hd
  exact ⟨rfl, Nat.zero_le _⟩
theorem sh_rows (xs : List (List Int)) : Sh 3 (.tup (xs.map rowD)) := sh_tup (n := 2) fun d hd => by
  obtain ⟨c, _, rfl⟩ := List.mem_map.mp hd
  exact sh_row c
theorem alike_ints : ∀ xs ys : List Int, PySem.W.alikeAll (pyAll (xs.map D.int)) (pyAll (ys.map D.int)) = true
  | [], ys => by simp only [List.map_nil, pyAll, PySem.W.alikeAll]
  | x :: xs, [] => by simp only [List.map_nil, List.map_cons, pyAll, PySem.W.alikeAll]
  | x :: xs, y :: ys => by
    show (PySem.W.alike (.int x) (.int y) && PySem.W.alikeAll (pyAll (xs.map D.int)) (pyAll (ys.map D.int))) = true
    rw [alike_ints xs ys, Bool.and_true]
    simp only [PySem.W.alike]
/-- rows in order -/
abbrev srt (xs : List (List Int)) : List D := (xs.map rowD).mergeSort leD
theorem sort_rows {xs : List (List Int)} (hx : ∀ c ∈ xs, c ≠ []) : sortD [.lst (xs.map rowD)] = some (.f (srt xs)) := by
  show sortL (xs.map rowD) = _
  have hp : ∀ p ∈ pyAll (xs.map rowD), ∃ c ∈ xs, p = (rowD c).py := fun p h => by
    rw [pyAll_map, List.map_map] at h
    obtain ⟨c, hc, rfl⟩ := List.mem_map.mp h
    exact ⟨c, hc, rfl⟩
  unfold sortL
  refine (fun hc : alikeAll2 (pyAll (xs.map rowD)) = true ∧ sortable2 (pyAll (xs.map rowD)) = true ∧ (pyAll (xs.map rowD)).all (fun p => SeqAt.shaped p) = true => if_pos hc) ⟨?_, ?_, ?_⟩
  · unfold alikeAll2
    rw [List.all_eq_true]
    intro p h
    rw [List.all_eq_true]
    intro q h2
    obtain ⟨c, _, rfl⟩ := hp p h
    obtain ⟨e, _, rfl⟩ := hp q h2
    show PySem.W.alike (.tuple (pyAll (c.map D.int))) (.tuple (pyAll (e.map D.int))) = true
    simp only [PySem.W.alike, alike_ints]
  · unfold sortable2
    rw [Bool.or_eq_true]
    left
    rw [List.all_eq_true]
    intro p h
    obtain ⟨c, hc, rfl⟩ := hp p h
    cases c with
    | nil => exact absurd rfl (hx _ hc)
    | cons i c => rfl
  · rw [List.all_eq_true]
    intro p h
    obtain ⟨c, _, rfl⟩ := hp p h
    exact (sh_row c).ok (by omega)
theorem nol_rows (xs : List (List Int)) : nolAll (xs.map rowD) = true := nol_map rowD row_nol xs
theorem srt_len (xs : List (List Int)) : (srt xs).length = xs.length := by rw [List.length_mergeSort, List.length_map]
theorem flat_le {α β : Type} (f : α → List β) (k : Nat) : ∀ xs : List α, (∀ x ∈ xs, (f x).length ≤ k) → (xs.flatMap f).length ≤ xs.length * k
  | [], _ => by simp
  | x :: xs, h => by
    rw [List.flatMap_cons, List.length_append, List.length_cons, Nat.succ_mul]
    have h1 := h x List.mem_cons_self
    have h2 := flat_le f k xs fun y hy => h y (List.mem_cons_of_mem _ hy)
    omega
theorem hl_le (c : List Int) : (hl c).length ≤ c.length := by
  unfold hl
  exact Nat.le_trans (List.length_filter_le _ _) (by rw [List.length_range]; exact Nat.le_refl _)
theorem nodup_map_inj {α β : Type} {f : α → β} {xs : List α} (h : xs.Nodup) (inj : ∀ a b, f a = f b → a = b) : (xs.map f).Nodup := List.pairwise_map.mpr (h.imp fun hne e => hne (inj _ _ e))
theorem hl_nodup (c : List Int) : (hl c).Nodup := List.nodup_range.filter _
section
variable (A : Gm)
/-- the sum of b is more than that of a -/
def bt (c : List Int) (a b : Nat) : Bool := decide (sm A c a < sm A c b)
def nbs (c : List Int) (a : Nat) : List (List Int) := ((hl c).filter (bt A c a)).map fun b => mvd c a b
/-- crowds behind one copying, not sorted -/
def cps (c : List Int) : List (List Int) := (hl c).flatMap (nbs A c)
theorem nbs_le (c : List Int) (a : Nat) : (nbs A c a).length ≤ c.length := by
  unfold nbs
  rw [List.length_map]
  exact Nat.le_trans (List.length_filter_le _ _) (hl_le c)
theorem mem_cps {c x : List Int} : x ∈ cps A c ↔ ∃ a b, a ∈ hl c ∧ b ∈ hl c ∧ sm A c a < sm A c b ∧ x = mvd c a b := by
  unfold cps nbs bt
  simp only [List.mem_flatMap, List.mem_map, List.mem_filter, decide_eq_true_iff]
  constructor
  · rintro ⟨a, ha, b, ⟨hb, h⟩, rfl⟩
    exact ⟨a, b, ha, hb, h, rfl⟩
  · rintro ⟨a, b, ha, hb, h, rfl⟩
    exact ⟨a, ha, b, ⟨hb, h⟩, rfl⟩
theorem cps_ne {c : List Int} (hc : c.length = A.m) : ∀ x ∈ cps A c, x ≠ [] := fun x hx => by
  obtain ⟨a, b, ha, _, _, rfl⟩ := (mem_cps A).mp hx
  have := (mem_hl.mp ha).1
  intro z
  have e := congrArg List.length z
  rw [mvd_len] at e
  have e : c.length = 0 := e
  omega
theorem bt_op (i j : Int) : ltI (fun i j => decide (j < i)) (.int i) (.int j) = some (.bl (decide (j < i))) := rfl
variable (hq : A.n = A.m)
include hq
theorem copiesof_ok {c : List Int} (hc : c.length = A.m) (g : G) : m_copies_of [Td A, rowD c] g = .ok (.lst (srt (cps A c))) g := by
  have hm := A.m4
  let F : Nat → Key × D := fun k => ((Sum.inl (k : Int) : Key), .int (sm A c k))
  let ws : D := dctOf ((hl c).map F)
  let ps : List (Nat × Nat) := (hl c).flatMap fun a => ((hl c).filter (bt A c a)).map fun b => (a, b)
  let L : D := .lst ((hl c).map nD)
  let S (x2 x3 x4 : Option SV) : SS := [some (.val (Td A)), some (.val (rowD c)), x2, x3, x4, none, none, none]
  have lt : ∀ k ∈ hl c, k < A.m := fun k hk => by have := (mem_hl.mp hk).1; omega
  have s1 : sSet 2 ([1] ++ []) (xV (eCalls 1 m_held (aCons (eVar 1) aNil))) (startD 8 [Td A, rowD c]) g = .nx (S (some (.val L)) none none) g := (sSet_val (f := .v L) (xV_ok (calls_ok (args1 (var_ok rfl)) rfl (held_ok c g))) rfl).trans rfl
  let V : DSt := view (S (some (.val L)) none none)
  have nd : ((hl c).map fun k => (F k).1).Nodup := nodup_map_inj (hl_nodup c) fun a b e => by
    have := Sum.inl.inj e
    omega
  have hi : iItems (eVar 2) V g = .ok ((hl c).map nD) g := items_ok (d := L) (var_ok rfl) rfl
  have hh : ∀ k ∈ hl c, ∃ S1, setD (.nm 5) (nD k) (wipeD V [5]) = some S1 ∧ tTrue S1 g = .ok true g ∧ eVar 5 S1 g = .ok (keyD (F k).1) g ∧ eCalls 3 m_sum_for (aCons (eVar 0) (aCons (eVar 1) (aCons (eVar 5) aNil))) S1 g = .ok (F k).2 g := fun k hk =>
    ⟨(wipeD V [5]).set 5 (some (nD k)), rfl, rfl, var_ok rfl, calls_ok (args3 (var_ok rfl) (var_ok rfl) (var_ok rfl)) rfl (sumfor_ok A hq hc (lt k hk) g)⟩
  have e2 : eDct [5] (.nm 5) (iItems (eVar 2)) tTrue (eVar 5) (eCalls 3 m_sum_for (aCons (eVar 0) (aCons (eVar 1) (aCons (eVar 5) aNil)))) V g = .ok ws g := eDct_ok nD F hi hh nd
  have z2 : frzB ([2] ++ [0, 1]) (S (some (.val L)) none none) = S (some (.val L)) none none := rfl
  have s2 := sSet_val (i := 3) (B := [2] ++ [0, 1]) (S := S (some (.val L)) none none) (f := .v ws) (xV_ok e2) z2
  have look : ∀ k ∈ hl c, dgetD ws (nD k) = some (.int (sm A c k)) := fun k hk => by
    show dlook _ _ (Sum.inl (k : Int)) = _
    refine dlook_nodup _ _ _ ?_ (List.mem_map_of_mem (f := F) hk)
    rw [List.map_map]
    exact nd
  have c3 := comp2_map (own := [6, 7]) (own1 := [7]) (tg := .nm 6) (tg1 := .nm 7) (c := tTrue) (c1 := tOf (dBin (ltI fun i j => decide (j < i)) (dBin dgetD (eVar 3) (eVar 7)) (dBin dgetD (eVar 3) (eVar 6)))) (it1 := iItems (eVar 2)) (e := eTup (aCons (eVar 6) (aCons (eVar 7) aNil))) (S := view (S (some (.val L)) (some (.val ws)) none)) (g := g) nD nD (fun _ => hl c) (bt A c) (fun a b => cD (a, b)) (xs := hl c)
    fun a ha => ⟨_, rfl, rfl, items_ok (d := L) (var_ok rfl) rfl, fun b hb => ⟨_, rfl, tOf_ok (bin_ok (bin_ok (a := ws) (var_ok rfl) (var_ok rfl) (look b hb)) (bin_ok (a := ws) (var_ok rfl) (var_ok rfl) (look a ha)) (bt_op _ _)), fun _ => tup_ok (args2 (var_ok rfl) (var_ok rfl)) (by simp)⟩⟩
  have e3 : ((hl c).flatMap fun x => ((hl c).filter (bt A c x)).map fun b => cD (x, b)) = ps.map cD := by
    show _ = List.map cD (List.flatMap _ _)
    rw [List.map_flatMap]
    simp only [List.map_map]
    rfl
  rw [e3] at c3
  have lp : ps.length ≤ 16 := by
    refine Nat.le_trans (flat_le _ 4 (hl c) fun a _ => ?_) ?_
    · rw [List.length_map]
      have := List.length_filter_le (bt A c a) (hl c)
      have := hl_le c
      omega
    · have := hl_le c
      omega
  have s3 : sSet 4 ([2] ++ [2, 3]) (xComp2 [6, 7] [7] (.nm 6) (iItems (eVar 2)) tTrue (iItems (eVar 2)) (.nm 7) (tOf (dBin (ltI fun i j => decide (j < i)) (dBin dgetD (eVar 3) (eVar 7)) (dBin dgetD (eVar 3) (eVar 6)))) (eTup (aCons (eVar 6) (aCons (eVar 7) aNil)))) (S (some (.val L)) (some (.val ws)) none) g = .nx (S (some (.val L)) (some (.val ws)) (some (.own (ps.map cD)))) g :=
    (sSet_nol (f := .f (ps.map cD)) (comp2_ok (items_ok (d := L) (var_ok rfl) rfl) c3 (by rw [List.length_map]; omega)) (nol_cD ps)).trans rfl
  have c4 := compL_map (own := [6, 7]) (tg := .tp [6, 7]) (c := tTrue) (e := eCalls 3 m_moved (aCons (eVar 1) (aCons (eVar 6) (aCons (eVar 7) aNil)))) (S := view (S (some (.val L)) (some (.val ws)) (some (.own (ps.map cD))))) (g := g) cD (fun _ => true) (fun p => rowD (mvd c p.1 p.2)) (xs := ps) fun p hp => ⟨_, rfl, rfl, fun _ => calls_ok (args3 (var_ok rfl) (var_ok rfl) (var_ok rfl)) rfl (by
    obtain ⟨a, ha, hp⟩ := List.mem_flatMap.mp hp
    obtain ⟨b, hb, rfl⟩ := List.mem_map.mp hp
    exact moved_ok (mem_hl.mp ha).1 (mem_hl.mp (List.mem_filter.mp hb).1).1 g)⟩
  have e4 : (ps.map fun p => rowD (mvd c p.1 p.2)) = (cps A c).map rowD := by
    show List.map _ (List.flatMap _ _) = List.map rowD (List.flatMap _ _)
    rw [List.map_flatMap, List.map_flatMap]
    unfold nbs
    simp only [List.map_map]
    rfl
  rw [filter_all, e4] at c4
  exact call_body rfl ((sSeq_nx s1).trans ((sSeq_nx s2).trans ((sSeq_nx s3).trans (ret_ok (eF_ok (f := .f (srt (cps A c))) (cb_ok (args1 (eF_ok (comp_ok (items_ok (d := .lst (ps.map cD)) (var_ok rfl) rfl) c4))) (sort_rows (cps_ne A hc))))))))
theorem lcopies_ok {c : List Int} (hc : c.length = A.m) (g : G) : m__law_copies [Td A, rowD c] g = .ok (.lst (srt (cps A c))) g := by
  have hm := A.m4
  have hi : ∀ k < A.m, idxD (rowD c) (nD k) = some (.int (c.getD k 0)) := fun k hk => idx_ri (by omega)
  let L : D := .lst ((hl c).map nD)
  let W (x2 : Option SV) (f : List (List Int)) (x4 : Option SV) : SS := [some (.val (Td A)), some (.val (rowD c)), x2, some (.own (f.map rowD)), x4, none, none]
  have lt : ∀ k ∈ hl c, k < A.m := fun k hk => by have := (mem_hl.mp hk).1; omega
  have c1 := compL_map (own := [5]) (tg := .nm 5) (c := tOf (dBin (ltI fun i j => decide (j < i)) (dBin idxD (eVar 1) (eVar 5)) (eC (.int 0)))) (e := eVar 5) (S := view (startD 7 [Td A, rowD c])) (g := g) nD (fun k => decide (0 < c.getD k 0)) nD (xs := List.range A.m) fun k hk => ⟨_, rfl, tOf_ok (bin_ok (bin_ok (var_ok rfl) (var_ok rfl) (hi k (List.mem_range.mp hk))) rfl (gt0 _)), fun _ => var_ok rfl⟩
  have e1 : (List.range A.m).filter (fun k => decide (0 < c.getD k 0)) = hl c := by unfold hl; rw [hc]
  rw [e1] at c1
  have s1 : sSetAll [2, 3] (((([0] ++ []) ++ []) ++ [1]) ++ ([] ++ [])) (axCons (xComp [5] (.nm 5) (iRange1 (aCons (dCB lenD (aCons (eVar 0) aNil)) aNil)) (tOf (dBin (ltI fun i j => decide (j < i)) (dBin idxD (eVar 1) (eVar 5)) (eC (.int 0)))) (eVar 5)) (axCons (xLst aNil) axNil)) (startD 7 [Td A, rowD c]) g = .nx (W (some (.own ((hl c).map nD))) [] none) g :=
    (sSetAll_val (fs := [.f ((hl c).map nD), .f []]) (ax_cons (comp_ok (range_ok (n := A.m) (cb_ok (args1 (var_ok rfl)) (len_tb A.ra)) (by omega)) c1) (ax_cons (lst_ok rfl (by simp)) rfl)) rfl rfl).trans rfl
  obtain ⟨S', e2, x4, hS⟩ := forL_seq (tg := .nm 4) (body := b__law_copies_1) nD (fun pre S => ∃ x4, S = W (some (.val L)) (pre.flatMap (nbs A c)) x4) (g := g) (xs := hl c) (fun pre a post S hp ⟨x4, hS⟩ => by
    subst hS
    have ha : a ∈ hl c := by rw [hp]; simp
    have hpl : pre.length ≤ 4 := by
      have := hl_le c
      rw [hp, List.length_append] at this
      omega
    refine ⟨W (some (.val L)) (pre.flatMap (nbs A c)) (some (.val (nD a))), W (some (.val L)) ((pre ++ [a]).flatMap (nbs A c)) (some (.val (nD a))), rfl, ?_, _, rfl⟩
    have c2 := compL_map (own := [6]) (tg := .nm 6) (c := tOf (dBin (ltI fun i j => decide (j < i)) (eCalls 3 m__law_sum (aCons (eVar 0) (aCons (eVar 1) (aCons (eVar 6) aNil)))) (eCalls 3 m__law_sum (aCons (eVar 0) (aCons (eVar 1) (aCons (eVar 4) aNil)))))) (e := eCalls 3 m__law_other (aCons (eVar 1) (aCons (eVar 4) (aCons (eVar 6) aNil)))) (S := view (W (some (.val L)) (pre.flatMap (nbs A c)) (some (.val (nD a))))) (g := g) nD (bt A c a) (fun b => rowD (mvd c a b)) (xs := hl c) fun b hb => ⟨_, rfl, tOf_ok (bin_ok (calls_ok (args3 (var_ok rfl) (var_ok rfl) (var_ok rfl)) rfl (lsum_ok A hq hi (lt b hb) g)) (calls_ok (args3 (var_ok rfl) (var_ok rfl) (var_ok rfl)) rfl (lsum_ok A hq hi (lt a ha) g)) (bt_op _ _)), fun _ => calls_ok (args3 (var_ok rfl) (var_ok rfl) (var_ok rfl)) rfl (lother_ok (by omega) a b g)⟩
    have e2 : (((hl c).filter (bt A c a)).map fun b => rowD (mvd c a b)) = (nbs A c a).map rowD := by unfold nbs; rw [List.map_map]; rfl
    rw [e2] at c2
    have e3 : (pre ++ [a]).flatMap (nbs A c) = pre.flatMap (nbs A c) ++ nbs A c a := by rw [List.flatMap_append]; simp
    refine (sSet_nol (f := .f (((pre ++ [a]).flatMap (nbs A c)).map rowD)) (bin_ok (a := .lst ((pre.flatMap (nbs A c)).map rowD)) (b := .lst ((nbs A c a).map rowD)) (var_ok rfl) (eF_ok (comp_ok (items_ok (d := L) (var_ok rfl) rfl) c2)) ?_) (nol_rows _)).trans rfl
    rw [e3, List.map_append]
    refine add_lst ?_
    rw [List.length_map, List.length_map]
    have h1 := nbs_le A c a
    have h2 := flat_le (nbs A c) 4 pre fun x _ => by have := nbs_le A c x; omega
    omega) (S := W (some (.val L)) [] none) ⟨none, rfl⟩
  subst hS
  exact call_body rfl ((sSeq_nx s1).trans ((sSeq_nx (forT_ok (items_ok (d := L) (var_ok rfl) rfl) e2)).trans (ret_ok (eF_ok (f := .f (srt (cps A c))) (cb_ok (args1 (var_ok (d := .lst ((cps A c).map rowD)) rfl)) (sort_rows (cps_ne A hc)))))))
end

/-! crowds and copying, in plain words -/
abbrev Cw := List Int
theorem nodup_lenG {α : Type} [DecidableEq α] : ∀ {xs ys : List α}, xs.Nodup → (∀ x ∈ xs, x ∈ ys) → xs.length ≤ ys.length
  | [], _, _, _ => Nat.zero_le _
  | x :: xs, ys, hn, hs => by
    have hx := hs x List.mem_cons_self
    have := nodup_lenG (xs := xs) (ys := ys.erase x) (List.nodup_cons.mp hn).2 fun y hy => (List.mem_erase_of_ne fun (e : y = x) => (List.nodup_cons.mp hn).1 (e ▸ hy)).mpr (hs y (List.mem_cons_of_mem _ hy))
    rw [List.length_erase_of_mem hx] at this
    have := List.length_pos_of_mem hx
    rw [List.length_cons]
    omega
theorem pig {α : Type} [DecidableEq α] (f : Nat → α) (xs : List α) (n : Nat) (h : ∀ i < n, f i ∈ xs) (hl : xs.length < n) : ∃ i j, i < j ∧ j < n ∧ f i = f j := by
  by_cases hz : ∃ i j, i < j ∧ j < n ∧ f i = f j
  · exact hz
  · have nd : ((List.range n).map f).Nodup := by
      refine List.pairwise_map.mpr (List.Pairwise.imp_of_mem (R := fun a b => a < b) (fun {a b} ha hb hab e => hz ⟨a, b, hab, List.mem_range.mp hb, e⟩) List.pairwise_lt_range)
    have := nodup_lenG nd fun x hx => by
      obtain ⟨i, hi, rfl⟩ := List.mem_map.mp hx
      exact h i (List.mem_range.mp hi)
    rw [List.length_map, List.length_range] at this
    omega
/-! all crowds -/
def ext (M : Nat) (r : Cw) : List Cw := (List.range (M + 1 - r.sum.toNat)).map fun k => r ++ [((k : Nat) : Int)]
def rws (M : Nat) : Nat → List Cw
  | 0 => [[]]
  | n + 1 => (rws M n).flatMap (ext M)
theorem sum_nn : ∀ c : Cw, (∀ x ∈ c, 0 ≤ x) → 0 ≤ c.sum
  | [], _ => by simp
  | x :: c, h => by
    rw [List.sum_cons]
    have h1 := h x List.mem_cons_self
    have h2 := sum_nn c fun y hy => h y (List.mem_cons_of_mem _ hy)
    omega
theorem in_rws {M : Nat} : ∀ {n : Nat} {r : Cw}, r.length = n → (∀ x ∈ r, 0 ≤ x) → r.sum ≤ M → r ∈ rws M n
  | 0, r, h, _, _ => by
    rw [List.length_eq_zero_iff.mp h]
    exact List.mem_singleton.mpr rfl
  | n + 1, r, h, hn, hs => by
    have hne : r ≠ [] := fun z => by rw [z] at h; cases h
    have e := List.dropLast_concat_getLast hne
    have hx := hn _ (List.getLast_mem hne)
    have hq : ∀ x ∈ r.dropLast, 0 ≤ x := fun x hx => hn x (List.dropLast_subset _ hx)
    have h0 := sum_nn _ hq
    have hsum : r.dropLast.sum + r.getLast hne = r.sum := by
      conv => rhs; rw [← e]
      rw [List.sum_append, List.sum_singleton]
    refine List.mem_flatMap.mpr ⟨r.dropLast, in_rws (by rw [List.length_dropLast, h]; rfl) hq (by omega), List.mem_map.mpr ⟨(r.getLast hne).toNat, List.mem_range.mpr (by omega), ?_⟩⟩
    rw [Int.toNat_of_nonneg hx]
    exact e
def fl (M n : Nat) : List Cw := (rws M n).filter fun r => r.sum == (M : Int)
theorem fl_len : ∀ M < 7, ∀ n < 5, (fl M n).length ≤ 84 := by decide +kernel
theorem fl_supp : ∀ M < 7, ∀ n < 5, ∀ c ∈ fl M n, ((fl M n).filter fun d => decide (hl d = hl c)).length ≤ 10 := by decide +kernel
theorem in_fl {M n : Nat} {c : Cw} (hc : CrOk n c) (hs : c.sum = (M : Int)) : c ∈ fl M n := List.mem_filter.mpr ⟨in_rws hc.len hc.nn (by omega), beq_iff_eq.mpr hs⟩
/-! one copying -/
theorem mvd_get {c : Cw} {a b k : Nat} (hk : k < c.length) : (mvd c a b).getD k 0 = c.getD k 0 - (if k = a then 1 else 0) + (if k = b then 1 else 0) := by
  unfold mvd
  rw [List.getD_eq_getElem?_getD, List.getElem?_map, List.getElem?_range hk]
  rfl
theorem map_getD (c : Cw) : (List.range c.length).map (fun k => c.getD k 0) = c := by
  apply List.ext_getElem
  · rw [List.length_map, List.length_range]
  · intro i h1 h2
    rw [List.getElem_map, List.getElem_range, getD_le h2]
theorem mvd_sum {c : Cw} {a b : Nat} (ha : a < c.length) (hb : b < c.length) : (mvd c a b).sum = c.sum := by
  have e : (fun k => c.getD k 0 - (if k = a then (1 : Int) else 0) + (if k = b then 1 else 0)) = fun k => c.getD k 0 + ((if k = a then (fun _ : Nat => (-1 : Int)) k else 0) + (if k = b then (fun _ : Nat => (1 : Int)) k else 0)) := by
    funext k
    show _ = c.getD k 0 + ((if k = a then (-1 : Int) else 0) + (if k = b then (1 : Int) else 0))
    split <;> split <;> omega
  unfold mvd
  rw [e, sum_add, sum_add, sum_if, sum_if, if_pos ha, if_pos hb, map_getD]
  omega
theorem mvd_ok {m : Nat} {c : Cw} (hc : CrOk m c) {a b : Nat} (ha : a ∈ hl c) (hb : b ∈ hl c) : CrOk m (mvd c a b) := by
  obtain ⟨a1, a2⟩ := mem_hl.mp ha
  obtain ⟨b1, b2⟩ := mem_hl.mp hb
  have hs := mvd_sum a1 b1
  refine ⟨by rw [mvd_len, hc.len], fun x hx => ?_, by rw [hs]; exact hc.lo, by rw [hs]; exact hc.hi⟩
  obtain ⟨k, hk, rfl⟩ := List.mem_map.mp hx
  have hk := List.mem_range.mp hk
  have h0 : 0 ≤ c.getD k 0 := by rw [getD_le hk]; exact hc.nn _ (List.getElem_mem _)
  by_cases e : k = a
  · subst e
    rw [if_pos rfl]
    split <;> omega
  · rw [if_neg e]
    split <;> omega
theorem mvd_inj {c : Cw} {a b a' b' : Nat} (ha : a < c.length) (hb : b < c.length) (h : a ≠ b) (h' : a' ≠ b') (e : mvd c a b = mvd c a' b') : a = a' ∧ b = b' := by
  have ea : (mvd c a b).getD a 0 = (mvd c a' b').getD a 0 := congrArg (fun l : Cw => l.getD a 0) e
  have eb : (mvd c a b).getD b 0 = (mvd c a' b').getD b 0 := congrArg (fun l : Cw => l.getD b 0) e
  rw [mvd_get ha, mvd_get ha, if_pos rfl, if_neg h] at ea
  rw [mvd_get hb, mvd_get hb, if_pos rfl, if_neg (Ne.symm h)] at eb
  refine ⟨?_, ?_⟩
  · by_cases z : a = a'
    · exact z
    · rw [if_neg z] at ea
      split at ea <;> omega
  · by_cases z : b = b'
    · exact z
    · rw [if_neg z] at eb
      split at eb <;> omega
theorem mvd_ne {c : Cw} {a b : Nat} (ha : a < c.length) (h : a ≠ b) : mvd c a b ≠ c := fun e => by
  have ea : (mvd c a b).getD a 0 = c.getD a 0 := congrArg (fun l : Cw => l.getD a 0) e
  rw [mvd_get ha, if_pos rfl, if_neg h] at ea
  omega
theorem mvd_hl {c : Cw} {a b k : Nat} (hb : b ∈ hl c) (h : k ∈ hl (mvd c a b)) : k ∈ hl c := by
  obtain ⟨h1, h2⟩ := mem_hl.mp h
  rw [mvd_len] at h1
  rw [mvd_get h1] at h2
  by_cases e : k = b
  · rw [e]; exact hb
  · rw [if_neg e] at h2
    exact mem_hl.mpr ⟨h1, by split at h2 <;> omega⟩
section
variable (A : Gm)
def leR (a b : Cw) : Bool := leD (rowD a) (rowD b)
/-- crowds behind one copying -/
def cpy (c : Cw) : List Cw := (cps A c).mergeSort leR
theorem srt_cpy (c : Cw) : srt (cps A c) = (cpy A c).map rowD := by
  unfold cpy
  rw [List.map_mergeSort (r := leR) (s := leD) fun a _ b _ => rfl]
theorem mem_cpy {c x : Cw} : x ∈ cpy A c ↔ ∃ a b, a ∈ hl c ∧ b ∈ hl c ∧ sm A c a < sm A c b ∧ x = mvd c a b := by
  unfold cpy
  rw [List.mem_mergeSort, mem_cps]
theorem cpy_len {c : Cw} (hc : c.length ≤ 4) : (cpy A c).length ≤ 16 := by
  unfold cpy cps
  rw [List.length_mergeSort]
  have h1 := flat_le (nbs A c) 4 (hl c) fun x _ => by have := nbs_le A c x; omega
  have h2 := hl_le c
  omega
theorem cpy_ok {m : Nat} {c x : Cw} (hc : CrOk m c) (h : x ∈ cpy A c) : CrOk m x ∧ x.sum = c.sum ∧ x ≠ c ∧ ∀ k ∈ hl x, k ∈ hl c := by
  obtain ⟨a, b, ha, hb, hs, rfl⟩ := (mem_cpy A).mp h
  have a1 := (mem_hl.mp ha).1
  have b1 := (mem_hl.mp hb).1
  have hne : a ≠ b := fun z => by rw [z] at hs; omega
  exact ⟨mvd_ok hc ha hb, mvd_sum a1 b1, mvd_ne a1 hne, fun k hk => mvd_hl hb hk⟩
theorem cpy_nodup (c : Cw) : (cpy A c).Nodup := by
  refine (List.mergeSort_perm _ _).nodup_iff.mpr ?_
  unfold cps
  refine List.pairwise_flatMap.mpr ⟨fun a ha => ?_, ?_⟩
  · unfold nbs
    refine List.pairwise_map.mpr (List.Pairwise.imp_of_mem (fun {b b'} hb hb' hne e => hne ?_) ((hl_nodup c).filter (bt A c a)))
    obtain ⟨h1, h2⟩ := List.mem_filter.mp hb
    obtain ⟨h3, h4⟩ := List.mem_filter.mp hb'
    unfold bt at h2 h4
    rw [decide_eq_true_iff] at h2 h4
    exact (mvd_inj (mem_hl.mp ha).1 (mem_hl.mp h1).1 (fun z => by rw [z] at h2; omega) (fun z => by rw [z] at h4; omega) e).2
  · refine List.Pairwise.imp_of_mem (fun {a a'} ha ha' hne x hx y hy e => hne ?_) (hl_nodup c)
    obtain ⟨b, hb, rfl⟩ := List.mem_map.mp hx
    obtain ⟨b', hb', rfl⟩ := List.mem_map.mp hy
    obtain ⟨h1, h2⟩ := List.mem_filter.mp hb
    obtain ⟨h3, h4⟩ := List.mem_filter.mp hb'
    unfold bt at h2 h4
    rw [decide_eq_true_iff] at h2 h4
    exact (mvd_inj (mem_hl.mp ha).1 (mem_hl.mp h1).1 (fun z => by rw [z] at h2; omega) (fun z => by rw [z] at h4; omega) e).1
/-! the crowds led to -/
/-- of as many holders as c0 -/
structure Ok (c0 x : Cw) : Prop where
  ok : CrOk A.m x
  sm : x.sum = c0.sum
theorem Ok.cpy {c0 c x : Cw} (h : Ok A c0 c) (hx : x ∈ cpy A c) : Ok A c0 x := by
  obtain ⟨h1, h2, _⟩ := cpy_ok A h.ok hx
  exact ⟨h1, h2.trans h.sm⟩
theorem Ok.inf {c0 : Cw} (h0 : CrOk A.m c0) {x : Cw} (h : Ok A c0 x) : x ∈ fl c0.sum.toNat A.m := in_fl h.ok (by have := h0.lo; have := h.sm; omega)
theorem ok_len {c0 : Cw} (h0 : CrOk A.m c0) {xs : List Cw} (nd : xs.Nodup) (h : ∀ x ∈ xs, Ok A c0 x) : xs.length ≤ 84 := by
  have h1 := h0.hi
  have h2 := h0.lo
  have := A.m4
  exact Nat.le_trans (nodup_lenG nd fun x hx => (h x hx).inf A h0) (fl_len _ (by omega) _ (by omega))
def stp (f : List Cw) (p : Nat) : List Cw := f ++ (cpy A (f.getD p [])).filter fun y => !decide (y ∈ f)
def rch : Nat → List Cw → Nat → List Cw
  | 0, f, _ => f
  | n + 1, f, p => if p < f.length then rch n (stp A f p) (p + 1) else f
structure Iv (c0 : Cw) (p : Nat) (f : List Cw) : Prop where
  nd : f.Nodup
  ok : ∀ x ∈ f, Ok A c0 x
  st : c0 ∈ f
  le : p ≤ f.length
  cl : ∀ i < p, ∀ y ∈ cpy A (f.getD i []), y ∈ f
theorem getD_mem {f : List Cw} {p : Nat} (h : p < f.length) : f.getD p [] ∈ f := by
  rw [List.getD_eq_getElem?_getD, List.getElem?_eq_getElem h]
  exact List.getElem_mem h
theorem Iv.step {c0 : Cw} {p : Nat} {f : List Cw} (h : Iv A c0 p f) (hp : p < f.length) : Iv A c0 (p + 1) (stp A f p) := by
  have hm := getD_mem hp
  refine ⟨?_, fun x hx => ?_, List.mem_append_left _ h.st, by unfold stp; rw [List.length_append]; omega, fun i hi y hy => ?_⟩
  · unfold stp
    refine List.nodup_append.mpr ⟨h.nd, (cpy_nodup A _).filter _, fun a ha b hb e => ?_⟩
    have := (List.mem_filter.mp hb).2
    rw [← e, decide_eq_true ha] at this
    cases this
  · rcases List.mem_append.mp hx with hx | hx
    · exact h.ok x hx
    · exact (h.ok _ hm).cpy A (List.mem_filter.mp hx).1
  · have e : (stp A f p).getD i [] = f.getD i [] := by
      unfold stp
      rw [List.getD_eq_getElem?_getD, List.getElem?_append_left (by omega), ← List.getD_eq_getElem?_getD]
    rw [e] at hy
    by_cases hi2 : i = p
    · subst hi2
      by_cases hin : y ∈ f
      · exact List.mem_append_left _ hin
      · exact List.mem_append_right _ (List.mem_filter.mpr ⟨hy, by rw [decide_eq_false hin]; rfl⟩)
    · exact List.mem_append_left _ (h.cl i (by omega) y hy)
/-- all crowds led to -/
structure Fc (c0 : Cw) (f : List Cw) : Prop where
  nd : f.Nodup
  ok : ∀ x ∈ f, Ok A c0 x
  st : c0 ∈ f
  cl : ∀ x ∈ f, ∀ y ∈ cpy A x, y ∈ f
theorem Iv.fin {c0 : Cw} {p : Nat} {f : List Cw} (h : Iv A c0 p f) (hp : ¬ p < f.length) : Fc A c0 f := ⟨h.nd, h.ok, h.st, fun x hx y hy => by
  obtain ⟨i, hi, e⟩ := List.getElem_of_mem hx
  refine h.cl i (by omega) y ?_
  rw [List.getD_eq_getElem?_getD, List.getElem?_eq_getElem hi]
  show y ∈ cpy A f[i]
  rw [e]
  exact hy⟩
theorem Iv.start {c0 : Cw} (h0 : CrOk A.m c0) : Iv A c0 0 [c0] := ⟨List.nodup_cons.mpr ⟨fun z => (nomatch z), List.nodup_nil⟩, fun x hx => by rw [List.mem_singleton.mp hx]; exact ⟨h0, rfl⟩, List.mem_singleton.mpr rfl, Nat.zero_le _, fun i hi => absurd hi (by omega)⟩
abbrev there (c0 : Cw) : List Cw := rch A 100 [c0] 0
end

/-! the crowds led to: the program's list and the law's -/
theorem eqvA_ints : ∀ as bs : Cw, PyData.eqvAll (pyAll (as.map D.int)) (pyAll (bs.map D.int)) = decide (as = bs)
  | [], [] => rfl
  | [], _ :: _ => rfl
  | _ :: _, [] => rfl
  | a :: as, b :: bs => by
    show (((a : Int) == b) && PyData.eqvAll (pyAll (as.map D.int)) (pyAll (bs.map D.int))) = _
    rw [eqvA_ints as bs, Bool.eq_iff_iff, Bool.and_eq_true, beq_iff_eq, decide_eq_true_iff, decide_eq_true_iff, List.cons.injEq]
theorem eqv_row (a b : Cw) : PyData.eqv (rowD a).py (rowD b).py = decide (a = b) := eqvA_ints a b
section
variable {α : Type} [DecidableEq α] (f : α → D)
theorem any_gen (ev : ∀ a b, PyData.eqv (f a).py (f b).py = decide (a = b)) (b : α) (xs : List α) : ((xs.map f).any fun z => PyData.eqv z.py (f b).py) = decide (b ∈ xs) := by
  rw [List.any_map, Bool.eq_iff_iff, List.any_eq_true, decide_eq_true_iff]
  constructor
  · rintro ⟨c, hc, e⟩
    have e : PyData.eqv (f c).py (f b).py = true := e
    rw [ev, decide_eq_true_iff] at e
    exact e ▸ hc
  · intro h
    refine ⟨b, h, ?_⟩
    show PyData.eqv (f b).py (f b).py = true
    rw [ev, decide_eq_true rfl]
end
theorem any_rows (b : Cw) (xs : List Cw) : ((xs.map rowD).any fun z => PyData.eqv z.py (rowD b).py) = decide (b ∈ xs) := (any_gen rowD eqv_row b xs).trans (decide_eq_decide.mpr Iff.rfl)
theorem notin_rows (b : Cw) (xs : List Cw) : notInD (rowD b) (.lst (xs.map rowD)) = some (.bl (!decide (b ∈ xs))) := by
  unfold notInD inB
  dsimp only
  rw [if_pos ⟨(sh_row b).ok (by omega), (sh_lst (n := 2) fun d hd => by
    obtain ⟨c, _, rfl⟩ := List.mem_map.mp hd
    exact sh_row c).ok (by omega)⟩]
  show some (D.bl (!((xs.map rowD).any fun z => PyData.eqv z.py (rowD b).py))) = _
  rw [any_rows]
theorem in_rows (b : Cw) (xs : List Cw) : inD (rowD b) (.lst (xs.map rowD)) = some (.bl (decide (b ∈ xs))) := by
  unfold inD inB
  dsimp only
  rw [if_pos ⟨(sh_row b).ok (by omega), (sh_lst (n := 2) fun d hd => by
    obtain ⟨c, _, rfl⟩ := List.mem_map.mp hd
    exact sh_row c).ok (by omega)⟩]
  show some (D.bl ((xs.map rowD).any fun z => PyData.eqv z.py (rowD b).py)) = _
  rw [any_rows]
theorem lt_nat (a b : Nat) : ltI (fun i j => decide (i < j)) (nD a) (nD b) = some (.bl (decide (a < b))) := by
  show some (D.bl (decide (((a : Nat) : Int) < (b : Nat)))) = _
  congr 2
  rw [Bool.eq_iff_iff, decide_eq_true_iff, decide_eq_true_iff]
  omega
theorem len_rows (xs : List Cw) : lenD [.lst (xs.map rowD)] = some (nD xs.length) := by
  show some (D.int ((xs.map rowD).length : Nat)) = _
  rw [List.length_map]
  rfl
section
variable (A : Gm) (hq : A.n = A.m)
include hq
theorem copiesC_ok {c : Cw} (hc : c.length = A.m) (g : G) : m_copies_of [Td A, rowD c] g = .ok (.lst ((cpy A c).map rowD)) g := by
  rw [← srt_cpy]; exact copiesof_ok A hq hc g
theorem lcopiesC_ok {c : Cw} (hc : c.length = A.m) (g : G) : m__law_copies [Td A, rowD c] g = .ok (.lst ((cpy A c).map rowD)) g := by
  rw [← srt_cpy]; exact lcopies_ok A hq hc g
omit hq
abbrev Wst (c0 : Cw) (f : List Cw) (p : Nat) (x4 : Option SV) : SS := [some (.val (Td A)), some (.val (rowD c0)), some (.own (f.map rowD)), some (.val (nD p)), x4]
theorem while_rch {c0 : Cw} (h0 : CrOk A.m c0) {B : List Nat} {T : BT} {body : SB} (g : G) (hT : ∀ f p x4, T (view (Wst A c0 f p x4)) g = .ok (decide (p < f.length)) g)
    (hb : ∀ f p x4, Iv A c0 p f → p < f.length → ∃ y4, body (Wst A c0 f p x4) g = .nx (Wst A c0 (stp A f p) (p + 1) y4) g) : ∀ (n : Nat) (f : List Cw) (p : Nat) (x4 : Option SV), Iv A c0 p f → 85 ≤ n + p →
    ∃ p' y4, whileL B T body n (Wst A c0 f p x4) g = .nx (Wst A c0 (rch A n f p) p' y4) g ∧ Fc A c0 (rch A n f p)
  | 0, f, p, x4, iv, h => by
    have := ok_len A h0 iv.nd iv.ok
    have := iv.le
    omega
  | n + 1, f, p, x4, iv, h => by
    unfold rch
    by_cases hp : p < f.length
    · rw [if_pos hp]
      obtain ⟨y4, e⟩ := hb f p x4 iv hp
      obtain ⟨p', z4, e2, fc⟩ := while_rch h0 g hT hb n (stp A f p) (p + 1) y4 (iv.step A hp) (by omega)
      refine ⟨p', z4, ?_, fc⟩
      conv => lhs; unfold whileL
      rw [hT, decide_eq_true hp]
      show (match body _ g with | .nx S2 g2 => _ | .ct S2 g2 => _ | .bk S2 g2 => _ | r => r) = _
      rw [e]
      exact e2
    · rw [if_neg hp]
      refine ⟨p, x4, ?_, iv.fin A hp⟩
      conv => lhs; unfold whileL
      rw [hT, decide_eq_false hp]
include hq
theorem reached_ok {c0 : Cw} (h0 : CrOk A.m c0) (g : G) : m_reached_by [Td A, rowD c0] g = .ok (.lst ((there A c0).map rowD)) g := by
  have hm := A.m4
  have s1 : sSetAll [2, 3] (([1] ++ []) ++ ([] ++ [])) (axCons (xLst (aCons (eVar 1) aNil)) (axCons (xV (eC (.int 0))) axNil)) (startD 5 [Td A, rowD c0]) g = .nx (Wst A c0 [c0] 0 none) g :=
    (sSetAll_val (fs := [.f [rowD c0], .v (nD 0)]) (ax_cons (lst_ok (args1 (var_ok rfl)) (by simp)) (ax_cons (xV_ok rfl) rfl)) rfl rfl).trans rfl
  obtain ⟨p', y4, e2, fc⟩ := while_rch A h0 (B := [3] ++ ([2] ++ [])) (T := tOf (dBin (ltI fun i j => decide (i < j)) (eVar 3) (dCB lenD (aCons (eVar 2) aNil)))) (body := b_reached_by_1) g (fun f p x4 => tOf_ok (bin_ok (var_ok rfl) (cb_ok (args1 (var_ok (d := .lst (f.map rowD)) rfl)) (len_rows f)) (lt_nat p f.length))) (fun f p x4 iv hp => by
    have hx := iv.ok _ (getD_mem hp)
    have hl := ok_len A h0 iv.nd iv.ok
    have hc := hx.ok.len
    have h16 := cpy_len A (c := f.getD p []) (by omega)
    let F : List Cw := (cpy A (f.getD p [])).filter fun y => !decide (y ∈ f)
    have hF : F.length ≤ (cpy A (f.getD p [])).length := List.length_filter_le _ _
    have c1 := compL_map (own := [4]) (tg := .nm 4) (c := tOf (dBin notInD (eVar 4) (eVar 2))) (e := eVar 4) (S := view (Wst A c0 f p x4)) (g := g) rowD (fun y => !decide (y ∈ f)) rowD (xs := cpy A (f.getD p [])) fun y hy => ⟨(wipeD (view (Wst A c0 f p x4)) [4]).set 4 (some (rowD y)), rfl, tOf_ok (bin_ok (var_ok rfl) (var_ok (d := .lst (f.map rowD)) rfl) (notin_rows y f)), fun _ => var_ok rfl⟩
    have ix : dBin idxD (eVar 2) (eVar 3) (view (Wst A c0 f p x4)) g = .ok (rowD (f.getD p [])) g := bin_ok (a := .lst (f.map rowD)) (b := nD p) (var_ok rfl) (var_ok rfl) (idx_lst (by rw [List.getElem?_map, List.getD_eq_getElem?_getD, List.getElem?_eq_getElem hp]; rfl))
    have a1 : sExt 2 (([0] ++ (([2] ++ [3]) ++ [])) ++ [2]) (xComp [4] (.nm 4) (iItems (eCalls 2 m_copies_of (aCons (eVar 0) (aCons (dBin idxD (eVar 2) (eVar 3)) aNil)))) (tOf (dBin notInD (eVar 4) (eVar 2))) (eVar 4)) (Wst A c0 f p x4) g = .nx ((Wst A c0 f p x4).set 2 (some (.own (f.map rowD ++ F.map rowD)))) g := sExt_ok (ds := f.map rowD) (es := F.map rowD) (comp_ok (items_ok (d := .lst ((cpy A (f.getD p [])).map rowD)) (calls_ok (args2 (var_ok rfl) ix) rfl (copiesC_ok A hq hc g)) rfl) c1) (nol_rows F) rfl (by rw [List.length_map, List.length_map]; omega)
    have e1 : f.map rowD ++ F.map rowD = (stp A f p).map rowD := by unfold stp; rw [List.map_append]
    rw [e1] at a1
    exact ⟨x4, (sSeq_nx (S1 := Wst A c0 (stp A f p) p x4) (g1 := g) a1).trans ((sAugI_ok (x := (p : Nat)) (y := 1) rfl rfl).trans rfl)⟩) 100 [c0] 0 none (Iv.start A h0) (by omega)
  exact call_body rfl ((sSeq_nx s1).trans ((sSeq_nx e2).trans (ret_ok (var_ok (d := .lst ((there A c0).map rowD)) rfl))))
theorem spread_ok {c0 : Cw} (h0 : CrOk A.m c0) (g : G) : m__law_spread [Td A, rowD c0] g = .ok (.lst ((there A c0).map rowD)) g ∧ Fc A c0 (there A c0) := by
  have hm := A.m4
  have s1 : sSetAll [2, 3] (([1] ++ []) ++ ([] ++ [])) (axCons (xLst (aCons (eVar 1) aNil)) (axCons (xV (eC (.int 0))) axNil)) (startD 5 [Td A, rowD c0]) g = .nx (Wst A c0 [c0] 0 none) g :=
    (sSetAll_val (fs := [.f [rowD c0], .v (nD 0)]) (ax_cons (lst_ok (args1 (var_ok rfl)) (by simp)) (ax_cons (xV_ok rfl) rfl)) rfl rfl).trans rfl
  obtain ⟨p', y4, e2, fc⟩ := while_rch A h0 (B := [3] ++ ([2] ++ [])) (T := tOf (dBin (ltI fun i j => decide (i < j)) (eVar 3) (dCB lenD (aCons (eVar 2) aNil)))) (body := b__law_spread_1) g (fun f p x4 => tOf_ok (bin_ok (var_ok rfl) (cb_ok (args1 (var_ok (d := .lst (f.map rowD)) rfl)) (len_rows f)) (lt_nat p f.length))) (fun f p x4 iv hp => by
    have hx := iv.ok _ (getD_mem hp)
    have hl := ok_len A h0 iv.nd iv.ok
    have hc := hx.ok.len
    have h16 := cpy_len A (c := f.getD p []) (by omega)
    let F : List Cw := (cpy A (f.getD p [])).filter fun y => !decide (y ∈ f)
    have hF : F.length ≤ (cpy A (f.getD p [])).length := List.length_filter_le _ _
    have c1 := compL_map (own := [4]) (tg := .nm 4) (c := tOf (dBin notInD (eVar 4) (eVar 2))) (e := eVar 4) (S := view (Wst A c0 f p x4)) (g := g) rowD (fun y => !decide (y ∈ f)) rowD (xs := cpy A (f.getD p [])) fun y hy => ⟨(wipeD (view (Wst A c0 f p x4)) [4]).set 4 (some (rowD y)), rfl, tOf_ok (bin_ok (var_ok rfl) (var_ok (d := .lst (f.map rowD)) rfl) (notin_rows y f)), fun _ => var_ok rfl⟩
    have ix : dBin idxD (eVar 2) (eVar 3) (view (Wst A c0 f p x4)) g = .ok (rowD (f.getD p [])) g := bin_ok (a := .lst (f.map rowD)) (b := nD p) (var_ok rfl) (var_ok rfl) (idx_lst (by rw [List.getElem?_map, List.getD_eq_getElem?_getD, List.getElem?_eq_getElem hp]; rfl))
    have e1 : f.map rowD ++ F.map rowD = (stp A f p).map rowD := by unfold stp; rw [List.map_append]
    have a1 : sSet 2 ([2] ++ (([0] ++ (([2] ++ [3]) ++ [])) ++ [2])) (dBin addD (eVar 2) (eF (xComp [4] (.nm 4) (iItems (eCalls 2 m__law_copies (aCons (eVar 0) (aCons (dBin idxD (eVar 2) (eVar 3)) aNil)))) (tOf (dBin notInD (eVar 4) (eVar 2))) (eVar 4)))) (Wst A c0 f p x4) g = .nx (Wst A c0 (stp A f p) p x4) g := (sSet_nol (f := .f ((stp A f p).map rowD)) (bin_ok (a := .lst (f.map rowD)) (b := .lst (F.map rowD)) (var_ok rfl) (eF_ok (f := .f (F.map rowD)) (comp_ok (items_ok (d := .lst ((cpy A (f.getD p [])).map rowD)) (calls_ok (args2 (var_ok rfl) ix) rfl (lcopiesC_ok A hq hc g)) rfl) c1)) ((add_lst (by rw [List.length_map, List.length_map]; omega)).trans (by rw [e1]))) (nol_rows _)).trans rfl
    exact ⟨x4, (sSeq_nx (S1 := Wst A c0 (stp A f p) p x4) (g1 := g) a1).trans ((sSet_nol (f := .v (nD (p + 1))) (bin_ok (a := nD p) (b := nD 1) (var_ok rfl) rfl (nD_add p 1)) rfl).trans rfl)⟩) 100 [c0] 0 none (Iv.start A h0) (by omega)
  exact ⟨call_body rfl ((sSeq_nx s1).trans ((sSeq_nx e2).trans (ret_ok (var_ok (d := .lst ((there A c0).map rowD)) rfl)))), fc⟩
end

/-! a ring of crowds, sought layer by layer -/
theorem idx_lastT (xs : List D) (x : D) : idxD (.tup (xs ++ [x])) (.int (-1)) = some x := idx_last xs x
theorem eq_row (a b : Cw) : eqD (rowD a) (rowD b) = some (.bl (decide (a = b))) := by
  unfold eqD
  rw [if_pos ⟨(sh_row a).ok (by omega), (sh_row b).ok (by omega)⟩, eqv_row]
theorem forL_ret {tg : Tgt} {body : SB} (ds : List D) (P : Nat → SS → G → Prop) (Q : D → G → Prop) (h : ∀ (j : Nat) (hj : j < ds.length) S g, P j S g → ∃ S1, setS tg ds[j] S = some S1 ∧ ((∃ S2 g2, body S1 g = .nx S2 g2 ∧ P (j + 1) S2 g2) ∨ ∃ d g2, body S1 g = .ret d g2 ∧ Q d g2)) : ∀ S g, P 0 S g → (∃ S' g', forL tg body ds S g = .nx S' g' ∧ P ds.length S' g') ∨ ∃ d g2, forL tg body ds S g = .ret d g2 ∧ Q d g2 := by
  have go : ∀ (n k : Nat), k + n = ds.length → ∀ S g, P k S g → (∃ S' g', forL tg body (ds.drop k) S g = .nx S' g' ∧ P ds.length S' g') ∨ ∃ d g2, forL tg body (ds.drop k) S g = .ret d g2 ∧ Q d g2 := by
    intro n
    induction n with
    | zero =>
      intro k hk S g p
      rw [List.drop_eq_nil_of_le (by omega)]
      exact .inl ⟨S, g, rfl, by rw [← hk]; exact p⟩
    | succ n ih =>
      intro k hk S g p
      have hj : k < ds.length := by omega
      obtain ⟨S1, h1, h2⟩ := h k hj S g p
      rw [List.drop_eq_getElem_cons hj]
      unfold forL
      rw [h1]
      dsimp only
      rcases h2 with ⟨S2, g2, h2, h3⟩ | ⟨d, g2, h2, h3⟩
      · rw [h2]
        exact ih (k + 1) (by omega) S2 g2 h3
      · rw [h2]
        exact .inr ⟨d, g2, rfl, h3⟩
  intro S g p
  have := go ds.length 0 (by omega) S g p
  rw [List.drop_zero] at this
  exact this
abbrev Wk := List Cw × Cw
def nds (w : Wk) : List Cw := w.1 ++ [w.2]
def wD (w : Wk) : D := .tup ((nds w).map rowD)
theorem wD_last (w : Wk) : idxD (wD w) (.int (-1)) = some (rowD w.2) := by
  unfold wD nds
  rw [List.map_append]
  exact idx_lastT _ _
theorem wD_nol (w : Wk) : (wD w).nol = true := nol_rows _
section
variable (A : Gm) (c0 s : Cw)
/-- a way of copying from s, no crowd twice -/
structure Wv (seen : List Cw) (w : Wk) : Prop where
  hd : (nds w).getD 0 [] = s
  nd : (nds w).Nodup
  sb : ∀ x ∈ nds w, x ∈ seen
  ch : ∀ i, i + 1 < (nds w).length → (nds w).getD (i + 1) [] ∈ cpy A ((nds w).getD i [])
structure BI (k n0 : Nat) (Pd : Cw → Prop) (seen : List Cw) (lg : List Wk) : Prop where
  nd : seen.Nodup
  st : s ∈ seen
  ok : ∀ c ∈ seen, Ok A c0 c
  ln : ∀ w ∈ lg, w.1.length = k + 1 ∧ Wv A s seen w
  ct : n0 + lg.length = seen.length
  pr : ∀ c ∈ seen, (∀ e ∈ cpy A c, e ∈ seen ∧ e ≠ s) ∨ Pd c ∨ ∃ w ∈ lg, w.2 = c
variable {A c0 s}
def pM (met : List Cw) (e : Cw) : List Cw := if e ∈ met then met else met ++ [e]
def pL (met : List Cw) (lg : List Wk) (w : Wk) (e : Cw) : List Wk := if e ∈ met then lg else lg ++ [(nds w, e)]
theorem pM_sub {met : List Cw} {e c : Cw} (h : c ∈ met) : c ∈ pM met e := by
  unfold pM; split
  · exact h
  · exact List.mem_append_left _ h
theorem pM_mem (met : List Cw) (e : Cw) : e ∈ pM met e := by
  unfold pM; split
  · assumption
  · exact List.mem_append_right _ (List.mem_singleton.mpr rfl)
theorem nds_in (w : Wk) : w.2 ∈ nds w := List.mem_append_right _ (List.mem_singleton.mpr rfl)
theorem nds_len (w : Wk) : (nds w).length = w.1.length + 1 := by unfold nds; rw [List.length_append]; rfl
theorem nds_last (w : Wk) : (nds w).getD w.1.length [] = w.2 := by
  unfold nds
  rw [List.getD_eq_getElem?_getD, List.getElem?_append_right (Nat.le_refl _), Nat.sub_self]
  rfl
theorem getD_left {xs ys : List Cw} {i : Nat} (h : i < xs.length) : (xs ++ ys).getD i [] = xs.getD i [] := by
  rw [List.getD_eq_getElem?_getD, List.getElem?_append_left h, ← List.getD_eq_getElem?_getD]
theorem Wv.mono {seen seen' : List Cw} {w : Wk} (h : Wv A s seen w) (i : ∀ x ∈ seen, x ∈ seen') : Wv A s seen' w := ⟨h.hd, h.nd, fun x hx => i x (h.sb x hx), h.ch⟩
theorem Wv.push {seen : List Cw} {w : Wk} (h : Wv A s seen w) {e : Cw} (he : e ∈ cpy A w.2) (hn : e ∉ seen) : Wv A s (seen ++ [e]) (nds w, e) := by
  have hl := nds_len w
  have e0 : nds (nds w, e) = nds w ++ [e] := rfl
  refine ⟨?_, ?_, fun x hx => ?_, fun i hi => ?_⟩
  · rw [e0, getD_left (by omega)]; exact h.hd
  · rw [e0]
    refine List.nodup_append.mpr ⟨h.nd, List.nodup_cons.mpr ⟨fun z => (nomatch z), List.nodup_nil⟩, fun a ha b hb e2 => hn ?_⟩
    rw [List.mem_singleton.mp hb] at e2
    exact e2 ▸ h.sb a ha
  · rw [e0] at hx
    rcases List.mem_append.mp hx with hx | hx
    · exact List.mem_append_left _ (h.sb x hx)
    · exact List.mem_append_right _ hx
  · rw [e0, List.length_append] at hi
    have hi : i + 1 < (nds w).length + 1 := hi
    by_cases hz : i + 1 < (nds w).length
    · rw [e0, getD_left hz, getD_left (by omega)]; exact h.ch i hz
    · have : i + 1 = (nds w).length := by omega
      have hi2 : i = w.1.length := by omega
      rw [e0, getD_left (by omega), hi2, nds_last, ← hl, List.getD_eq_getElem?_getD, List.getElem?_append_right (Nat.le_refl _), Nat.sub_self]
      exact he
theorem BI.push {k n0 : Nat} {Pd : Cw → Prop} {met : List Cw} {lg : List Wk} (h : BI A c0 s k n0 Pd (s :: met) lg) {w : Wk} (hw : w.1.length = k) (hv : Wv A s (s :: met) w) {e : Cw} (he : Ok A c0 e) (hc : e ∈ cpy A w.2) (hs : e ≠ s) : BI A c0 s k n0 Pd (s :: pM met e) (pL met lg w e) := by
  by_cases hx : e ∈ met
  · unfold pM pL
    rw [if_pos hx, if_pos hx]
    exact h
  · have hn : e ∉ s :: met := fun z => by
      rcases List.mem_cons.mp z with z | z
      · exact hs z
      · exact hx z
    have sub : ∀ c ∈ s :: met, c ∈ s :: (met ++ [e]) := fun c hc => by
      rcases List.mem_cons.mp hc with hc | hc
      · rw [hc]; exact List.mem_cons_self
      · exact List.mem_cons_of_mem _ (List.mem_append_left _ hc)
    unfold pM pL
    rw [if_neg hx, if_neg hx]
    refine ⟨?_, List.mem_cons_self, fun c hc => ?_, fun v hv2 => ?_, ?_, fun c hc => ?_⟩
    · show ((s :: met) ++ [e]).Nodup
      exact List.nodup_append.mpr ⟨h.nd, List.nodup_cons.mpr ⟨fun z => (nomatch z), List.nodup_nil⟩, fun a ha b hb e2 => hn (by rw [List.mem_singleton.mp hb] at e2; exact e2 ▸ ha)⟩
    · have hc : c ∈ (s :: met) ++ [e] := hc
      rcases List.mem_append.mp hc with hc | hc
      · exact h.ok c hc
      · rw [List.mem_singleton.mp hc]; exact he
    · rcases List.mem_append.mp hv2 with hv2 | hv2
      · exact ⟨(h.ln v hv2).1, (h.ln v hv2).2.mono sub⟩
      · rw [List.mem_singleton.mp hv2]
        exact ⟨by rw [nds_len, hw], hv.push hc hn⟩
    · have := h.ct
      simp only [List.length_append, List.length_cons, List.length_nil] at this ⊢
      omega
    · have hc : c ∈ (s :: met) ++ [e] := hc
      rcases List.mem_append.mp hc with hc | hc
      · rcases h.pr c hc with d | d | ⟨v, hv, d⟩
        · exact .inl fun x hx => ⟨sub _ (d x hx).1, (d x hx).2⟩
        · exact .inr (.inl d)
        · exact .inr (.inr ⟨v, List.mem_append_left _ hv, d⟩)
      · rw [List.mem_singleton.mp hc]
        exact .inr (.inr ⟨_, List.mem_append_right _ (List.mem_singleton.mpr rfl), rfl⟩)
theorem BI.done {k n0 : Nat} {Pd : Cw → Prop} {seen : List Cw} {lg : List Wk} (h : BI A c0 s k n0 Pd seen lg) {x : Cw} (hx : ∀ e ∈ cpy A x, e ∈ seen ∧ e ≠ s) : BI A c0 s k n0 (fun c => Pd c ∧ c ≠ x) seen lg :=
  ⟨h.nd, h.st, h.ok, h.ln, h.ct, fun c hc => by
    by_cases e : c = x
    · subst e; exact .inl hx
    · rcases h.pr c hc with d | d | d
      · exact .inl d
      · exact .inr (.inl ⟨d, e⟩)
      · exact .inr (.inr d)⟩
theorem BI.mono {k n0 : Nat} {Pd Pd' : Cw → Prop} {seen : List Cw} {lg : List Wk} (h : BI A c0 s k n0 Pd seen lg) (i : ∀ c, Pd c → Pd' c) : BI A c0 s k n0 Pd' seen lg :=
  ⟨h.nd, h.st, h.ok, h.ln, h.ct, fun c hc => by
    rcases h.pr c hc with d | d | d
    · exact .inl d
    · exact .inr (.inl (i c d))
    · exact .inr (.inr d)⟩
abbrev Rg (A : Gm) (c0 s : Cw) (x3 : Option SV) (met : List Cw) (lg : List Wk) (x6 x7 : Option SV) : SS := [some (.val (Td A)), some (.val (rowD c0)), some (.val (rowD s)), x3, some (.own (met.map rowD)), some (.own (lg.map wD)), x6, x7]
theorem rg1 {met : List Cw} {lg : List Wk} {w : Wk} {e : Cw} (hl : met.length ≤ 100) (hl2 : lg.length ≤ 100) (hw : w.1.length ≤ 100) (g : DI.G) (x3 : Option SV) :
    (e = s → b_copy_ring_1 (Rg A c0 s x3 met lg (some (.val (wD w))) (some (.val (rowD e)))) g = .ret (wD w) g) ∧ (e ≠ s → b_copy_ring_1 (Rg A c0 s x3 met lg (some (.val (wD w))) (some (.val (rowD e)))) g = .nx (Rg A c0 s x3 (pM met e) (pL met lg w e) (some (.val (wD w))) (some (.val (rowD e)))) g) := by
  let S0 : SS := Rg A c0 s x3 met lg (some (.val (wD w))) (some (.val (rowD e)))
  have t1 := tOf_ok (bin_ok (S := view S0) (g := g) (t := eVar 7) (u := eVar 2) (var_ok rfl) (var_ok rfl) (eq_row e s))
  constructor
  · intro he
    rw [decide_eq_true he] at t1
    exact sSeq_ret ((sIf_t t1).trans (ret_ok (var_ok rfl)))
  · intro he
    rw [decide_eq_false he] at t1
    refine (sSeq_nx (S1 := S0) (g1 := g) ((sIf_f t1).trans rfl)).trans ?_
    have t2 := tOf_ok (bin_ok (S := view S0) (g := g) (t := eVar 7) (u := eVar 4) (var_ok rfl) (var_ok (d := .lst (met.map rowD)) rfl) (notin_rows e met))
    unfold pM pL
    by_cases hx : e ∈ met
    · rw [decide_eq_true hx] at t2
      rw [if_pos hx, if_pos hx]
      exact (sIf_f t2).trans rfl
    · rw [decide_eq_false hx] at t2
      rw [if_neg hx, if_neg hx]
      refine (sIf_t t2).trans ((sSeq_nx (S1 := Rg A c0 s x3 (met ++ [e]) lg (some (.val (wD w))) (some (.val (rowD e)))) (g1 := g) ?_).trans ?_)
      · refine (sMut_ok (d := rowD e) (ds := met.map rowD) (var_ok rfl) (row_nol e) rfl (app_ok (by rw [List.length_map]; omega))).trans ?_
        show RS.nx [_, _, _, _, some (.own (met.map rowD ++ [rowD e])), _, _, _] g = _
        rw [show met.map rowD ++ [rowD e] = (met ++ [e]).map rowD by rw [List.map_append]; rfl]
      · have ad : addD (wD w) (.tup [rowD e]) = some (.v (wD (nds w, e))) := (add_tup (a := (nds w).map rowD) (b := [rowD e]) (by rw [List.length_map, nds_len]; simp; omega)).trans (by
          show _ = some (Fv.v (D.tup (List.map rowD (nds w ++ [e]))))
          rw [List.map_append]
          rfl)
        refine (sMut_ok (d := wD (nds w, e)) (ds := lg.map wD) (eF_ok (f := .v (wD (nds w, e))) (bin_ok (var_ok rfl) (tup_ok (args1 (var_ok rfl)) (by simp)) ad)) (wD_nol _) rfl (app_ok (by rw [List.length_map]; omega))).trans ?_
        show RS.nx [_, _, _, _, _, some (.own (lg.map wD ++ [wD (nds w, e)])), _, _] g = _
        rw [show lg.map wD ++ [wD (nds w, e)] = (lg ++ [(nds w, e)]).map wD by rw [List.map_append]; rfl]
/-- a ring -/
def Rt (A : Gm) (c0 s : Cw) (d : D) : Prop := ∃ (w : Wk) (seen : List Cw), d = wD w ∧ Wv A s seen w ∧ (∀ x ∈ seen, Ok A c0 x) ∧ s ∈ cpy A w.2
variable (h0 : CrOk A.m c0) (hq : A.n = A.m)
include h0 hq
theorem rg2 {k n0 : Nat} {Pd : Cw → Prop} {met : List Cw} {lg : List Wk} (h : BI A c0 s k n0 Pd (s :: met) lg) (hk : k ≤ 90) {w : Wk} (hw : w.1.length = k) (hv : Wv A s (s :: met) w) (g : DI.G) (x3 x7 : Option SV) :
    (∃ met' lg' y7, b_copy_ring_2 (Rg A c0 s x3 met lg (some (.val (wD w))) x7) g = .nx (Rg A c0 s x3 met' lg' (some (.val (wD w))) y7) g ∧ BI A c0 s k n0 (fun c => Pd c ∧ c ≠ w.2) (s :: met') lg' ∧ ∀ x ∈ met, x ∈ met') ∨ ∃ d, b_copy_ring_2 (Rg A c0 s x3 met lg (some (.val (wD w))) x7) g = .ret d g ∧ Rt A c0 s d := by
  have hc : Ok A c0 w.2 := h.ok _ (hv.sb _ (nds_in w))
  have hmb : eCalls 2 m_copies_of (aCons (eVar 0) (aCons (dBin idxD (eVar 6) (dUn negD (eC (.int 1)))) aNil)) (view (Rg A c0 s x3 met lg (some (.val (wD w))) x7)) g = .ok (.lst ((cpy A w.2).map rowD)) g :=
    calls_ok (args2 (var_ok rfl) (bin_ok (var_ok rfl) rfl (wD_last w))) rfl (copiesC_ok A hq hc.ok.len g)
  rcases forL_ret (tg := .nm 7) (body := b_copy_ring_1) ((cpy A w.2).map rowD) (fun j S g' => (∃ met' lg' y7, S = Rg A c0 s x3 met' lg' (some (.val (wD w))) y7 ∧ BI A c0 s k n0 Pd (s :: met') lg' ∧ (∀ x ∈ met, x ∈ met') ∧ ∀ e ∈ (cpy A w.2).take j, e ∈ s :: met' ∧ e ≠ s) ∧ g' = g) (fun d g' => Rt A c0 s d ∧ g' = g) (fun j hj S g' ⟨⟨met', lg', y7, eS, hb, hsub, hd⟩, eg⟩ => by
    subst eS eg
    rw [List.length_map] at hj
    let e := (cpy A w.2)[j]
    have hem : e ∈ cpy A w.2 := List.getElem_mem hj
    have hl1 := ok_len A h0 hb.nd hb.ok
    rw [List.length_cons] at hl1
    have hl2 := hb.ct
    rw [List.length_cons] at hl2
    obtain ⟨q1, q2⟩ := rg1 (A := A) (c0 := c0) (s := s) (met := met') (lg := lg') (w := w) (e := e) (by omega) (by omega) (by omega) g' x3
    have hv' : Wv A s (s :: met') w := hv.mono fun x hx => by
      rcases List.mem_cons.mp hx with hx | hx
      · rw [hx]; exact List.mem_cons_self
      · exact List.mem_cons_of_mem _ (hsub x hx)
    refine ⟨Rg A c0 s x3 met' lg' (some (.val (wD w))) (some (.val (rowD e))), by rw [List.getElem_map]; rfl, ?_⟩
    by_cases he : e = s
    · exact .inr ⟨wD w, g', q1 he, ⟨w, _, rfl, hv', hb.ok, he ▸ hem⟩, rfl⟩
    · refine .inl ⟨_, _, q2 he, ⟨pM met' e, pL met' lg' w e, _, rfl, hb.push hw hv' (hc.cpy A hem) hem he, fun x hx => pM_sub (hsub x hx), fun x hx => ?_⟩, rfl⟩
      rw [List.take_succ, List.getElem?_eq_getElem hj] at hx
      rcases List.mem_append.mp hx with hx | hx
      · obtain ⟨i1, i2⟩ := hd x hx
        refine ⟨?_, i2⟩
        rcases List.mem_cons.mp i1 with z | z
        · exact absurd z i2
        · exact List.mem_cons_of_mem _ (pM_sub z)
      · obtain rfl : x = e := List.mem_singleton.mp hx
        exact ⟨List.mem_cons_of_mem _ (pM_mem _ _), he⟩) (Rg A c0 s x3 met lg (some (.val (wD w))) x7) g ⟨⟨met, lg, x7, rfl, h, fun x hx => hx, fun e he => by rw [List.take_zero] at he; cases he⟩, rfl⟩ with ⟨S', g', e1, ⟨met', lg', y7, eS, hb, hsub, hd⟩, eg⟩ | ⟨d, g', e1, hd, eg⟩
  · subst eS eg
    rw [List.length_map, List.take_length] at hd
    exact .inl ⟨met', lg', y7, forT_ok (items_ok hmb rfl) e1, hb.done hd, hsub⟩
  · subst eg
    exact .inr ⟨d, forT_ok (items_ok hmb rfl) e1, hd⟩
abbrev Q3 (A : Gm) (c0 s : Cw) (ly : List Wk) (met : List Cw) (x5 x6 x7 : Option SV) : SS := [some (.val (Td A)), some (.val (rowD c0)), some (.val (rowD s)), some (.own (ly.map wD)), some (.own (met.map rowD)), x5, x6, x7]
theorem rg3 {k : Nat} {met : List Cw} {ly : List Wk} (h : BI A c0 s k (met.length + 1) (fun c => ∃ w ∈ ly, w.2 = c) (s :: met) []) (hk : k ≤ 90) (hly : ∀ w ∈ ly, w.1.length = k ∧ Wv A s (s :: met) w) (g : DI.G) (x5 x6 x7 : Option SV) :
    (∃ met' ly' y5 y6 y7, b_copy_ring_3 (Q3 A c0 s ly met x5 x6 x7) g = .nx (Q3 A c0 s ly' met' y5 y6 y7) g ∧ BI A c0 s (k + 1) (met'.length + 1) (fun c => ∃ w ∈ ly', w.2 = c) (s :: met') [] ∧ (∀ w ∈ ly', w.1.length = k + 1 ∧ Wv A s (s :: met') w) ∧ (ly' ≠ [] → met.length + 1 ≤ met'.length)) ∨ ∃ d, b_copy_ring_3 (Q3 A c0 s ly met x5 x6 x7) g = .ret d g ∧ Rt A c0 s d := by
  let F3 : Option SV := some (.val (.lst (ly.map wD)))
  have s1 : sSet 5 [] (xLst aNil) (Q3 A c0 s ly met x5 x6 x7) g = .nx (Rg A c0 s (some (.own (ly.map wD))) met [] x6 x7) g := (sSet_nol (f := .f []) (lst_ok rfl (by simp)) rfl).trans rfl
  rcases forL_ret (tg := .nm 6) (body := b_copy_ring_2) (ly.map wD) (fun j S g' => (∃ met' lg' y6 y7, S = Rg A c0 s F3 met' lg' y6 y7 ∧ BI A c0 s k (met.length + 1) (fun c => ∃ w ∈ ly.drop j, w.2 = c) (s :: met') lg' ∧ ∀ x ∈ met, x ∈ met') ∧ g' = g) (fun d g' => Rt A c0 s d ∧ g' = g) (fun j hj S g' ⟨⟨met', lg', y6, y7, eS, hb, hsub⟩, eg⟩ => by
    subst eS eg
    rw [List.length_map] at hj
    have hw := hly _ (List.getElem_mem hj)
    refine ⟨Rg A c0 s F3 met' lg' (some (.val (wD ly[j]))) y7, by rw [List.getElem_map]; rfl, ?_⟩
    rcases rg2 h0 hq hb hk hw.1 (hw.2.mono fun x hx => by
      rcases List.mem_cons.mp hx with hx | hx
      · rw [hx]; exact List.mem_cons_self
      · exact List.mem_cons_of_mem _ (hsub x hx)) g' F3 y7 with ⟨met2, lg2, z7, e2, hb2, hs2⟩ | ⟨d, e2, hd⟩
    · refine .inl ⟨_, _, e2, ⟨met2, lg2, _, z7, rfl, hb2.mono fun c ⟨⟨w, hw, hc⟩, hne⟩ => ?_, fun x hx => hs2 x (hsub x hx)⟩, rfl⟩
      rw [List.drop_eq_getElem_cons hj] at hw
      rcases List.mem_cons.mp hw with rfl | hw
      · exact absurd hc.symm hne
      · exact ⟨w, hw, hc⟩
    · exact .inr ⟨d, g', e2, hd, rfl⟩) (Rg A c0 s F3 met [] x6 x7) g ⟨⟨met, [], x6, x7, rfl, h.mono fun c hc => hc, fun x hx => hx⟩, rfl⟩ with ⟨S', g', e1, ⟨met', lg', y6, y7, eS, hb, hsub⟩, eg⟩ | ⟨d, g', e1, hd, eg⟩
  · subst eS eg
    rw [List.length_map, List.drop_length] at hb
    have f1 : sFor true (.nm 6) [3] (iItems (eVar 3)) b_copy_ring_2 (Rg A c0 s (some (.own (ly.map wD))) met [] x6 x7) g' = .nx (Rg A c0 s F3 met' lg' y6 y7) g' := forT_ok (items_ok (d := .lst (ly.map wD)) (var_ok rfl) rfl) e1
    have hct := hb.ct
    rw [List.length_cons] at hct
    refine .inl ⟨met', lg', _, y6, y7, (sSeq_nx s1).trans ((sSeq_nx f1).trans ((sSet_nol (f := .f (lg'.map wD)) (cb_ok (args1 (var_ok (d := .lst (lg'.map wD)) rfl)) rfl) (nol_map wD wD_nol lg')).trans rfl)), ?_, fun w hw => hb.ln w hw, fun hne => ?_⟩
    · refine ⟨hb.nd, hb.st, hb.ok, fun w hw => (nomatch hw), by rw [List.length_cons]; rfl, fun c hc => ?_⟩
      rcases hb.pr c hc with d | ⟨w, hw, _⟩ | d
      · exact .inl d
      · cases hw
      · exact .inr (.inl d)
    · have : 0 < lg'.length := List.length_pos_iff.mpr hne
      omega
  · subst eg
    exact .inr ⟨d, (sSeq_nx s1).trans (sSeq_ret (forT_ok (items_ok (d := .lst (ly.map wD)) (var_ok rfl) rfl) e1)), hd⟩
omit h0 hq
/-- closed under copying, and no copying comes back -/
def Cls (A : Gm) (s : Cw) : Prop := ∃ S : List Cw, s ∈ S ∧ ∀ c ∈ S, ∀ e ∈ cpy A c, e ∈ S ∧ e ≠ s
abbrev T3 : BT := tOf (dBin (ltI fun i j => decide (j < i)) (dCB lenD (aCons (eVar 3) aNil)) (eC (.int 0)))
include h0 hq
theorem rgl (g : DI.G) : ∀ (n k : Nat) (met : List Cw) (ly : List Wk) (F : Nat) (x5 x6 x7 : Option SV), k + n = 84 → n + 1 ≤ F → BI A c0 s k (met.length + 1) (fun c => ∃ w ∈ ly, w.2 = c) (s :: met) [] → (∀ w ∈ ly, w.1.length = k ∧ Wv A s (s :: met) w) → (ly ≠ [] → k ≤ met.length) →
    (∃ y3 y4 y5 y6 y7, whileL (([3] ++ []) ++ []) T3 b_copy_ring_3 F (Q3 A c0 s ly met x5 x6 x7) g = .nx [some (.val (Td A)), some (.val (rowD c0)), some (.val (rowD s)), y3, y4, y5, y6, y7] g ∧ Cls A s) ∨ ∃ d, whileL (([3] ++ []) ++ []) T3 b_copy_ring_3 F (Q3 A c0 s ly met x5 x6 x7) g = .ret d g ∧ Rt A c0 s d := by
  intro n
  induction n with
  | zero =>
    intro k met ly F x5 x6 x7 hk hF hb hly hne
    obtain ⟨F, rfl⟩ : ∃ F', F = F' + 1 := ⟨F - 1, by omega⟩
    have hz : ly = [] := by
      cases hL : ly with
      | nil => rfl
      | cons c cs =>
        have := hne (by rw [hL]; exact List.cons_ne_nil _ _)
        have h2 := ok_len A h0 hb.nd hb.ok
        rw [List.length_cons] at h2
        omega
    subst hz
    refine .inl ⟨some (.own (([] : List Wk).map wD)), some (.own (met.map rowD)), x5, x6, x7, ?_, s :: met, hb.st, fun c hc => ?_⟩
    · conv => lhs; unfold whileL
      rfl
    · rcases hb.pr c hc with d | ⟨w, hw, _⟩ | ⟨w, hw, _⟩
      · exact d
      · cases hw
      · cases hw
  | succ n ih =>
    intro k met ly F x5 x6 x7 hk hF hb hly hne
    obtain ⟨F, rfl⟩ : ∃ F', F = F' + 1 := ⟨F - 1, by omega⟩
    cases hL : ly with
    | nil =>
      subst hL
      refine .inl ⟨some (.own (([] : List Wk).map wD)), some (.own (met.map rowD)), x5, x6, x7, ?_, s :: met, hb.st, fun c hc => ?_⟩
      · conv => lhs; unfold whileL
        rfl
      · rcases hb.pr c hc with d | ⟨w, hw, _⟩ | ⟨w, hw, _⟩
        · exact d
        · cases hw
        · cases hw
    | cons v vs =>
      rw [← hL]
      have t : T3 (view (Q3 A c0 s ly met x5 x6 x7)) g = .ok true g := by
        have hlt : (ltI fun i j => decide (j < i)) (.int ((ly.map wD).length : Nat)) (.int 0) = some (.bl true) := by
          show some (D.bl (decide ((0 : Int) < ((ly.map wD).length : Nat)))) = _
          rw [List.length_map, hL, List.length_cons, decide_eq_true (by omega)]
        exact tOf_ok (bin_ok (cb_ok (args1 (var_ok (d := .lst (ly.map wD)) rfl)) rfl) rfl hlt)
      have hne1 := hne (by rw [hL]; exact List.cons_ne_nil _ _)
      rcases rg3 h0 hq hb (by omega) hly g x5 x6 x7 with ⟨met', ly', y5, y6, y7, e2, hb2, hly2, hne2⟩ | ⟨d, e2, hd⟩
      · rcases ih (k + 1) met' ly' F y5 y6 y7 (by omega) (by omega) hb2 hly2 (fun h => by have := hne2 h; omega) with ⟨z3, z4, z5, z6, z7, e3, h3⟩ | ⟨d, e3, h3⟩
        · refine .inl ⟨z3, z4, z5, z6, z7, ?_, h3⟩
          conv => lhs; unfold whileL
          rw [t]
          show (match b_copy_ring_3 _ g with | .nx S2 g2 => _ | .ct S2 g2 => _ | .bk S2 g2 => _ | r => r) = _
          rw [e2]
          exact e3
        · refine .inr ⟨d, ?_, h3⟩
          conv => lhs; unfold whileL
          rw [t]
          show (match b_copy_ring_3 _ g with | .nx S2 g2 => _ | .ct S2 g2 => _ | .bk S2 g2 => _ | r => r) = _
          rw [e2]
          exact e3
      · refine .inr ⟨d, ?_, hd⟩
        conv => lhs; unfold whileL
        rw [t]
        show (match b_copy_ring_3 _ g with | .nx S2 g2 => _ | .ct S2 g2 => _ | .bk S2 g2 => _ | r => r) = _
        rw [e2]
/-- a ring from s -/
theorem from_ok (hs : Ok A c0 s) (g : DI.G) (x3 x4 x5 x6 x7 : Option SV) : (∃ y3 y4 y5 y6 y7, b_copy_ring_4 [some (.val (Td A)), some (.val (rowD c0)), some (.val (rowD s)), x3, x4, x5, x6, x7] g = .nx [some (.val (Td A)), some (.val (rowD c0)), some (.val (rowD s)), y3, y4, y5, y6, y7] g ∧ Cls A s) ∨
    ∃ d, b_copy_ring_4 [some (.val (Td A)), some (.val (rowD c0)), some (.val (rowD s)), x3, x4, x5, x6, x7] g = .ret d g ∧ Rt A c0 s d := by
  have s1 : sSetAll [3, 4] ((([2] ++ []) ++ []) ++ ([] ++ [])) (axCons (xLst (aCons (eTup (aCons (eVar 2) aNil)) aNil)) (axCons (xLst aNil) axNil)) [some (.val (Td A)), some (.val (rowD c0)), some (.val (rowD s)), x3, x4, x5, x6, x7] g = .nx (Q3 A c0 s [([], s)] [] x5 x6 x7) g :=
    (sSetAll_val (fs := [.f [wD ([], s)], .f []]) (ax_cons (lst_ok (args1 (tup_ok (args1 (var_ok rfl)) (by show (1 : Nat) ≤ 1000; omega))) (by simp)) (ax_cons (lst_ok rfl (by simp)) rfl)) rfl rfl).trans rfl
  have hv : Wv A s [s] ([], s) := ⟨rfl, List.nodup_cons.mpr ⟨fun z => (nomatch z), List.nodup_nil⟩, fun x hx => hx, fun i hi => absurd hi (by show ¬ i + 1 < 1; omega)⟩
  rcases rgl (A := A) (c0 := c0) (s := s) h0 hq g 84 0 [] [([], s)] 100 x5 x6 x7 rfl (by omega) ⟨List.nodup_cons.mpr ⟨fun z => (nomatch z), List.nodup_nil⟩, List.mem_singleton.mpr rfl, fun c hc => by rw [List.mem_singleton.mp hc]; exact hs, fun w hw => (nomatch hw), rfl, fun c hc => .inr (.inl ⟨_, List.mem_singleton.mpr rfl, (List.mem_singleton.mp hc).symm⟩)⟩ (fun w hw => by rw [List.mem_singleton.mp hw]; exact ⟨rfl, hv⟩) (fun _ => by omega) with ⟨y3, y4, y5, y6, y7, e1, hc⟩ | ⟨d, e1, hd⟩
  · exact .inl ⟨y3, y4, y5, y6, y7, (sSeq_nx s1).trans e1, hc⟩
  · exact .inr ⟨d, (sSeq_nx s1).trans e1, hd⟩
end

/-! copy_ring, copy_ends; the judge and the law's judge -/
theorem cut_take (xs : List D) {p : Nat} (hp : p ≤ xs.length) : cutD xs none (some (p : Nat)) = xs.take p := by
  unfold cutD
  rw [HT.sIx_none, HT.sIx_nat, List.drop_zero, Nat.min_eq_left hp, Nat.sub_zero]
theorem in_len_rows (xs : List Cw) : lenD [.tup (xs.map rowD)] = some (nD xs.length) := by
  show some (D.int ((xs.map rowD).length : Nat)) = _
  rw [List.length_map]
  rfl
section
variable (A : Gm) (hq : A.n = A.m) {c0 : Cw} (h0 : CrOk A.m c0)
include hq
theorem chkS (d : List D) (n : Nat) (g : G) : sExpr ([0] ++ []) (eCalls 1 m_check_square (aCons (eVar 0) aNil)) (startD (n + 1) (Td A :: d)) g = .nx (startD (n + 1) (Td A :: d)) g :=
  sExpr_nx (calls_ok (args1 (var_ok rfl)) rfl (chs_ok A hq g))
theorem chkC {c : List Int} (hc : CrOk A.m c) (d : List D) (n : Nat) (g : G) : sExpr ([0] ++ ([1] ++ [])) (eCalls 2 m_check_crowd (aCons (eVar 0) (aCons (eVar 1) aNil))) (startD (n + 2) (Td A :: rowD c :: d)) g = .nx (startD (n + 2) (Td A :: rowD c :: d)) g :=
  sExpr_nx (calls_ok (args2 (var_ok rfl) (var_ok rfl)) rfl (chc_ok A hc g))
include h0
theorem ring_ok (g : G) : ∃ d, m_copy_ring [Td A, rowD c0] g = .ok d g ∧ ((d = .non ∧ ∀ s ∈ there A c0, Cls A s) ∨ ∃ s ∈ there A c0, Rt A c0 s d) := by
  obtain ⟨_, fc⟩ := spread_ok A hq h0 g
  let S (x2 x3 x4 x5 x6 x7 : Option SV) : SS := [some (.val (Td A)), some (.val (rowD c0)), x2, x3, x4, x5, x6, x7]
  have hit := items_ok (d := .lst ((there A c0).map rowD)) (S := view (S none none none none none none)) (g := g) (t := eCalls 2 m_reached_by (aCons (eVar 0) (aCons (eVar 1) aNil))) (calls_ok (args2 (var_ok rfl) (var_ok rfl)) rfl (reached_ok A hq h0 g)) rfl
  rcases forL_ret (tg := .nm 2) (body := b_copy_ring_4) ((there A c0).map rowD) (fun j S' g' => (∃ x2 x3 x4 x5 x6 x7, S' = S x2 x3 x4 x5 x6 x7) ∧ (∀ s ∈ (there A c0).take j, Cls A s) ∧ g' = g) (fun d g' => (∃ s ∈ there A c0, Rt A c0 s d) ∧ g' = g) (fun j hj S' g' ⟨⟨x2, x3, x4, x5, x6, x7, eS⟩, hc, eg⟩ => by
    subst eS eg
    rw [List.length_map] at hj
    have hm := List.getElem_mem hj
    refine ⟨S (some (.val (rowD (there A c0)[j]))) x3 x4 x5 x6 x7, by rw [List.getElem_map]; rfl, ?_⟩
    rcases from_ok h0 hq (fc.ok _ hm) g' x3 x4 x5 x6 x7 with ⟨y3, y4, y5, y6, y7, e, hcl⟩ | ⟨d, e, hd⟩
    · refine .inl ⟨_, g', e, ⟨_, _, _, _, _, _, rfl⟩, fun s hs => ?_, rfl⟩
      rw [List.take_succ, List.getElem?_eq_getElem hj] at hs
      rcases List.mem_append.mp hs with hs | hs
      · exact hc s hs
      · obtain rfl : s = (there A c0)[j] := List.mem_singleton.mp hs
        exact hcl
    · exact .inr ⟨d, g', e, ⟨_, hm, hd⟩, rfl⟩) (S none none none none none none) g ⟨⟨none, none, none, none, none, none, rfl⟩, (fun s hs => by rw [List.take_zero] at hs; cases hs), rfl⟩ with ⟨S', g', e, ⟨x2, x3, x4, x5, x6, x7, eS⟩, hc, eg⟩ | ⟨d, g', e, hd, eg⟩
  · subst eS eg
    rw [List.length_map, List.take_length] at hc
    exact ⟨.non, call_body rfl ((sSeq_nx (chkS A hq [rowD c0] 7 g')).trans ((sSeq_nx (chkC A hq h0 [] 6 g')).trans ((sSeq_nx (forT_ok hit e)).trans (ret_ok rfl)))), .inl ⟨rfl, hc⟩⟩
  · subst eg
    exact ⟨d, call_body rfl ((sSeq_nx (chkS A hq [rowD c0] 7 g')).trans ((sSeq_nx (chkC A hq h0 [] 6 g')).trans (sSeq_ret (forT_ok hit e)))), .inr hd⟩
/-- crowds led to in which none copies -/
def ends (c0 : Cw) : List Cw := (there A c0).filter fun c => (cpy A c).isEmpty
theorem ends_ok (g : G) : m_copy_ends [Td A, rowD c0] g = .ok (.tup (srt (ends A c0))) g := by
  have hm := A.m1
  obtain ⟨_, fc⟩ := spread_ok A hq h0 g
  let S : SS := startD 3 [Td A, rowD c0]
  have c1 := compL_map (own := [2]) (tg := .nm 2) (c := tOf (dBin eqD (dCB lenD (aCons (eCalls 2 m_copies_of (aCons (eVar 0) (aCons (eVar 2) aNil))) aNil)) (eC (.int 0)))) (e := eVar 2) (S := view S) (g := g) rowD (fun c => (cpy A c).isEmpty) rowD (xs := there A c0) fun c hc => ⟨(view S).set 2 (some (rowD c)), rfl, by
    have e : ((((cpy A c).length : Nat) : Int) == 0) = (cpy A c).isEmpty := by
      cases cpy A c with
      | nil => rfl
      | cons x xs => rw [Bool.eq_iff_iff, beq_iff_eq]; simp; omega
    rw [← e]
    exact tOf_ok (bin_ok (a := nD (cpy A c).length) (cb_ok (args1 (calls_ok (args2 (var_ok rfl) (var_ok rfl)) rfl (copiesC_ok A hq (fc.ok c hc).ok.len g))) (len_rows _)) rfl (eq_int _ _)), fun _ => var_ok rfl⟩
  exact call_body rfl ((sSeq_nx (chkS A hq [rowD c0] 2 g)).trans ((sSeq_nx (chkC A hq h0 [] 1 g)).trans (ret_ok (cb_ok (f := tupOfD) (args1 (eF_ok (f := .f (srt (ends A c0))) (cb_ok (args1 (eF_ok (comp_ok (items_ok (d := .lst ((there A c0).map rowD)) (calls_ok (args2 (var_ok rfl) (var_ok rfl)) rfl (reached_ok A hq h0 g)) rfl) c1))) (sort_rows (xs := ends A c0) fun c hc z => by
    have := (fc.ok c (List.mem_filter.mp hc).1).ok.len
    rw [z] at this
    have : 0 = A.m := this
    omega)))) rfl))))
end
/-! rings are short -/
theorem hl_ext {x y : Cw} (hxy : x.length = y.length) (h : ∀ k, k ∈ hl x ↔ k ∈ hl y) : hl x = hl y := by
  unfold hl
  rw [hxy]
  refine List.filter_congr fun k hk => ?_
  have hk := List.mem_range.mp hk
  have := h k
  rw [mem_hl, mem_hl] at this
  rw [Bool.eq_iff_iff, decide_eq_true_iff, decide_eq_true_iff]
  constructor
  · intro q; exact (this.mp ⟨by omega, q⟩).2
  · intro q; exact (this.mpr ⟨by omega, q⟩).2
section
variable (A : Gm) {c0 : Cw} (h0 : CrOk A.m c0)
structure Ring (s : Cw) (cs : List Cw) : Prop where
  hd : cs.getD 0 [] = s
  nd : cs.Nodup
  ok : ∀ x ∈ cs, Ok A c0 x
  ch : ∀ i, i + 1 < cs.length → cs.getD (i + 1) [] ∈ cpy A (cs.getD i [])
  cl : s ∈ cpy A (cs.getD (cs.length - 1) [])
  ne : 2 ≤ cs.length
theorem Rt.ring {s : Cw} {d : D} (h : Rt A c0 s d) : ∃ cs, d = .tup (cs.map rowD) ∧ Ring A (c0 := c0) s cs := by
  obtain ⟨w, seen, rfl, hv, ho, hs⟩ := h
  have hl := nds_len w
  refine ⟨nds w, rfl, hv.hd, hv.nd, fun x hx => ho x (hv.sb x hx), hv.ch, by rw [hl]; show s ∈ cpy A ((nds w).getD w.1.length []); rw [nds_last]; exact hs, ?_⟩
  rw [hl]
  cases hw : w.1 with
  | nil =>
    exfalso
    have e : w.2 = s := by
      have := hv.hd
      have e2 := nds_last w
      rw [hw] at e2
      exact e2.symm.trans this
    rw [e] at hs
    exact (cpy_ok A (ho s (e ▸ hv.sb _ (nds_in w))).ok hs).2.2.1 rfl
  | cons a b => rw [List.length_cons]; omega
include h0
theorem Ring.short {s : Cw} {cs : List Cw} (h : Ring A (c0 := c0) s cs) : cs.length ≤ 10 := by
  have hne := h.ne
  have at_ : ∀ i, i < cs.length → Ok A c0 (cs.getD i []) := fun i hi => h.ok _ (getD_mem hi)
  have mono : ∀ d i k, i + d < cs.length → k ∈ hl (cs.getD (i + d) []) → k ∈ hl (cs.getD i []) := by
    intro d
    induction d with
    | zero => intro i k _ hk; exact hk
    | succ d ih =>
      intro i k hi hk
      refine ih i k (by omega) ?_
      exact (cpy_ok A (at_ (i + d) (by omega)).ok (h.ch (i + d) (by omega))).2.2.2 k hk
  have back : ∀ k, k ∈ hl (cs.getD 0 []) → k ∈ hl (cs.getD (cs.length - 1) []) := fun k hk => by
    rw [h.hd] at hk
    exact (cpy_ok A (at_ (cs.length - 1) (by omega)).ok h.cl).2.2.2 k hk
  have same : ∀ i, i < cs.length → hl (cs.getD i []) = hl (cs.getD 0 []) := fun i hi => by
    refine hl_ext (by rw [(at_ i hi).ok.len, (at_ 0 (by omega)).ok.len]) fun k => ⟨fun hk => ?_, fun hk => ?_⟩
    · exact mono i 0 k (by omega) (by rw [Nat.zero_add]; exact hk)
    · refine mono (cs.length - 1 - i) i k (by omega) ?_
      rw [show i + (cs.length - 1 - i) = cs.length - 1 by omega]
      exact back k hk
  have h1 := h0.hi
  have h2 := h0.lo
  have := A.m4
  refine Nat.le_trans (nodup_lenG (ys := (fl c0.sum.toNat A.m).filter fun d => decide (hl d = hl (cs.getD 0 []))) h.nd fun x hx => ?_) (fl_supp _ (by omega) _ (by omega) _ ((at_ 0 (by omega)).inf A h0))
  obtain ⟨i, hi, rfl⟩ := List.getElem_of_mem hx
  refine List.mem_filter.mpr ⟨(h.ok _ hx).inf A h0, decide_eq_true ?_⟩
  have := same i hi
  rw [List.getD_eq_getElem?_getD, List.getElem?_eq_getElem hi] at this
  exact this
end
/-! the judge -/
section
variable (A : Gm)
noncomputable def crB (d : D) : Bool := @decide (∃ c, d = rowD c ∧ CrOk A.m c) (Classical.propDecidable _)
theorem crB_iff {d : D} : crB A d = true ↔ ∃ c, d = rowD c ∧ CrOk A.m c := @decide_eq_true_iff _ (Classical.propDecidable _)
theorem cw_at {xs : List Cw} {k : Nat} (h : k < xs.length) : xs.getD k [] = xs[k] := by rw [List.getD_eq_getElem?_getD, List.getElem?_eq_getElem h]; rfl
theorem crB_ok {v : D} (hv : cv v = true) (g : G) : m_is_crowd [Td A, v] g = .ok (.bl (crB A v)) g ∧ m__law_crowd_right [Td A, v] g = .ok (.bl (crB A v)) g := by
  obtain ⟨b, h1, h2, h3, h4⟩ := crowd_gen A hv g
  have : b = crB A v := by
    rw [Bool.eq_iff_iff, crB_iff]
    exact ⟨h3, h4⟩
  rw [← this]
  exact ⟨h1, h2⟩
theorem crB_all : ∀ {ds : List D}, ds.all (crB A) = true → ∃ cs : List Cw, ds = cs.map rowD ∧ ∀ c ∈ cs, CrOk A.m c
  | [], _ => ⟨[], rfl, fun _ h => (nomatch h)⟩
  | d :: ds, h => by
    rw [List.all_cons, Bool.and_eq_true] at h
    obtain ⟨cs, rfl, hc⟩ := crB_all h.2
    obtain ⟨c, rfl, hk⟩ := (crB_iff A).mp h.1
    exact ⟨c :: cs, rfl, fun x hx => by
      rcases List.mem_cons.mp hx with rfl | hx
      · exact hk
      · exact hc x hx⟩
theorem crB_rows {cs : List Cw} (h : ∀ c ∈ cs, CrOk A.m c) : (cs.map rowD).all (crB A) = true := by
  rw [List.all_map, List.all_eq_true]
  intro c hc
  show crB A (rowD c) = true
  exact (crB_iff A).mpr ⟨c, rfl, h c hc⟩
/-- each is led to by the one ahead, the first by the last -/
def Cyc (cs : List Cw) : Prop := ∀ k < cs.length, cs.getD ((k + 1) % cs.length) [] ∈ cpy A (cs.getD k [])
def rot (cs : List Cw) : List Cw := cs.drop 1 ++ cs.take 1
theorem rot_len (cs : List Cw) : (rot cs).length = cs.length := by
  unfold rot
  rw [List.length_append, List.length_drop, List.length_take]
  omega
theorem rot_get (cs : List Cw) {k : Nat} (hk : k < cs.length) : (rot cs).getD k [] = cs.getD ((k + 1) % cs.length) [] := by
  unfold rot
  rw [List.getD_eq_getElem?_getD, List.getD_eq_getElem?_getD]
  by_cases h : k + 1 < cs.length
  · rw [List.getElem?_append_left (by rw [List.length_drop]; omega), List.getElem?_drop, Nat.mod_eq_of_lt h, Nat.add_comm]
  · have e : k + 1 = cs.length := by omega
    rw [List.getElem?_append_right (by rw [List.length_drop]; omega), List.length_drop, e, Nat.mod_self, List.getElem?_take]
    rw [show k - (cs.length - 1) = 0 by omega]
    rfl
theorem zip_cyc {cs : List Cw} : (cs.zip (rot cs)).all (fun p => decide (p.2 ∈ cpy A p.1)) = true ↔ Cyc A cs := by
  rw [List.all_eq_true]
  constructor
  · intro h k hk
    have hk2 : k < (rot cs).length := by rw [rot_len]; exact hk
    have := h (cs[k], (rot cs)[k]) (List.mem_iff_getElem.mpr ⟨k, by rw [List.length_zip]; omega, List.getElem_zip⟩)
    rw [decide_eq_true_iff] at this
    rw [← rot_get cs hk, cw_at hk2, cw_at hk]
    exact this
  · intro h p hp
    obtain ⟨k, hk, rfl⟩ := List.mem_iff_getElem.mp hp
    rw [List.length_zip] at hk
    have hk1 : k < cs.length := by omega
    have hk2 : k < (rot cs).length := by omega
    rw [List.getElem_zip, decide_eq_true_iff]
    have := h k hk1
    rw [← rot_get cs hk1, cw_at hk2, cw_at hk1] at this
    exact this
/-- the one ahead -/
def prv (n k : Nat) : Nat := if k = 0 then n - 1 else k - 1
theorem prv_cyc {cs : List Cw} : (List.range cs.length).all (fun k => decide (cs.getD k [] ∈ cpy A (cs.getD (prv cs.length k) []))) = true ↔ Cyc A cs := by
  rw [List.all_eq_true]
  constructor
  · intro h k hk
    by_cases hz : k + 1 < cs.length
    · have := h (k + 1) (List.mem_range.mpr hz)
      rw [decide_eq_true_iff] at this
      rw [Nat.mod_eq_of_lt hz]
      exact this
    · have e : k + 1 = cs.length := by omega
      have := h 0 (List.mem_range.mpr (by omega))
      rw [decide_eq_true_iff] at this
      rw [e, Nat.mod_self]
      have hp : prv cs.length 0 = k := by unfold prv; rw [if_pos rfl]; omega
      rw [hp] at this
      exact this
  · intro h k hk
    have hk := List.mem_range.mp hk
    rw [decide_eq_true_iff]
    unfold prv
    by_cases hz : k = 0
    · rw [if_pos hz]
      have := h (cs.length - 1) (by omega)
      rw [show cs.length - 1 + 1 = cs.length by omega, Nat.mod_self] at this
      rw [hz]
      exact this
    · rw [if_neg hz]
      have := h (k - 1) (by omega)
      rw [show k - 1 + 1 = k by omega, Nat.mod_eq_of_lt hk] at this
      exact this
theorem Ring.cyc {c0 s : Cw} {cs : List Cw} (h : Ring A (c0 := c0) s cs) : Cyc A cs := fun k hk => by
  by_cases hz : k + 1 < cs.length
  · rw [Nat.mod_eq_of_lt hz]; exact h.ch k hz
  · have e : k + 1 = cs.length := by omega
    rw [e, Nat.mod_self, h.hd, show k = cs.length - 1 by omega]
    exact h.cl
end

/-! both judges say the same of every value -/
theorem pair_rows : ∀ xs ys : List Cw, pairD (xs.map rowD) (ys.map rowD) = (xs.zip ys).map fun p => .tup [rowD p.1, rowD p.2]
  | [], _ => rfl
  | _ :: _, [] => rfl
  | x :: xs, y :: ys => by
    rw [List.map_cons, List.map_cons]
    unfold pairD
    rw [pair_rows xs ys]
    rfl
theorem idx_tl {ds : List D} {d : D} (h : ds ≠ []) (e : ds.getLast? = some d) : idxD (.tup ds) (.int (-1)) = some d := by
  have h2 := List.getLast?_eq_some_iff.mp e
  obtain ⟨ys, rfl⟩ := h2
  exact idx_lastT ys d
section
variable (A : Gm) (hq : A.n = A.m) {c0 : Cw} (h0 : CrOk A.m c0)
include hq h0
theorem judge {v : D} (hv : cv v = true) (hl : ∀ ds, v = .tup ds → ds.length < 64) (g : G) : ∃ b, m_takes_copy_ring [Td A, rowD c0, v] g = .ok (.bl b) g ∧ m__law_ring [Td A, rowD c0, v] g = .ok (.bl b) g ∧ ∀ s cs, s ∈ there A c0 → Ring A (c0 := c0) s cs → v = .tup (cs.map rowD) → b = true := by
  obtain ⟨sp, fc⟩ := spread_ok A hq h0 g
  have rc := reached_ok A hq h0 g
  let SP : SS := startD 6 [Td A, rowD c0, v]
  let SL : SS := startD 5 [Td A, rowD c0, v]
  have ck1 : sExpr ([0] ++ []) (eCalls 1 m_check_square (aCons (eVar 0) aNil)) SP g = .nx SP g := chkS A hq [rowD c0, v] 5 g
  have ck2 : sExpr ([0] ++ ([1] ++ [])) (eCalls 2 m_check_crowd (aCons (eVar 0) (aCons (eVar 1) aNil))) SP g = .nx SP g := chkC A hq h0 [v] 4 g
  by_cases ht : ∃ ds, v = .tup ds
  · obtain ⟨ds, rfl⟩ := ht
    have hd := cvA_mem hv
    have h64 := hl ds rfl
    have eP := tNot_f (isi_ok (S := view SP) (g := g) (t := eVar 2) (T := "tuple") (k := true) (var_ok rfl) rfl)
    have eL := tNot_f (isi_ok (S := view SL) (g := g) (t := eVar 2) (T := "tuple") (k := true) (var_ok rfl) rfl)
    have lP := tOf_ok (bin_ok (S := view SP) (g := g) (t := dCB lenD (aCons (eVar 2) aNil)) (u := eC (.int 2)) (cb_ok (args1 (var_ok rfl)) (show lenD [.tup ds] = some (nD ds.length) from rfl)) rfl (lt_nat ds.length 2))
    have lL := tOf_ok (bin_ok (S := view SL) (g := g) (t := dCB lenD (aCons (eVar 2) aNil)) (u := eC (.int 2)) (cb_ok (args1 (var_ok rfl)) (show lenD [.tup ds] = some (nD ds.length) from rfl)) rfl (lt_nat ds.length 2))
    by_cases h2 : ds.length < 2
    · rw [decide_eq_true h2] at lP lL
      exact ⟨false, call_body rfl ((sSeq_nx ck1).trans ((sSeq_nx ck2).trans (sSeq_ret ((sIf_t (tor_f eP (tor_t lP))).trans (ret_ok rfl))))), call_body rfl (sSeq_ret ((sIf_t (tor_f eL (tor_t lL))).trans (ret_ok rfl))), fun s cs _ hr e => by
        injection e with e
        have := hr.ne
        rw [e, List.length_map] at h2
        omega⟩
    · rw [decide_eq_false h2] at lP lL
      have cP := compL_map (own := [3]) (tg := .nm 3) (c := tTrue) (e := eCalls 2 m_is_crowd (aCons (eVar 0) (aCons (eVar 3) aNil))) (S := view SP) (g := g) (fun d : D => d) (fun _ => true) (fun d => .bl (crB A d)) (xs := ds) fun d h => ⟨(view SP).set 3 (some d), rfl, rfl, fun _ => calls_ok (args2 (var_ok rfl) (var_ok rfl)) rfl (crB_ok A (hd d h) g).1⟩
      rw [filter_all, List.map_id'] at cP
      have cL := compL_map (own := [3]) (tg := .nm 3) (c := tTrue) (e := eCalls 2 m__law_crowd_right (aCons (eVar 0) (aCons (eVar 3) aNil))) (S := view SL) (g := g) (fun d : D => d) (fun _ => true) (fun d => .bl (crB A d)) (xs := ds) fun d h => ⟨(view SL).set 3 (some d), rfl, rfl, fun _ => calls_ok (args2 (var_ok rfl) (var_ok rfl)) rfl (crB_ok A (hd d h) g).2⟩
      rw [filter_all, List.map_id'] at cL
      have aP : dCB allD (aCons (eF (xComp [3] (.nm 3) (iItems (eVar 2)) tTrue (eCalls 2 m_is_crowd (aCons (eVar 0) (aCons (eVar 3) aNil))))) aNil) (view SP) g = .ok (.bl (ds.all (crB A))) g := cb_ok (f := allD) (args1 (eF_ok (comp_ok (items_ok (var_ok rfl) rfl) cP))) (all_true (crB A) ds)
      have aL : dCB allD (aCons (eF (xComp [3] (.nm 3) (iItems (eVar 2)) tTrue (eCalls 2 m__law_crowd_right (aCons (eVar 0) (aCons (eVar 3) aNil))))) aNil) (view SL) g = .ok (.bl (ds.all (crB A))) g := cb_ok (f := allD) (args1 (eF_ok (comp_ok (items_ok (var_ok rfl) rfl) cL))) (all_true (crB A) ds)
      cases ha : ds.all (crB A) with
      | false =>
        rw [ha] at aP aL
        refine ⟨false, call_body rfl ((sSeq_nx ck1).trans ((sSeq_nx ck2).trans (sSeq_ret ((sIf_t (tor_f eP (tor_f lP (tNot_t (tTru_ok aP rfl))))).trans (ret_ok rfl))))), call_body rfl (sSeq_ret ((sIf_t (tor_f eL (tor_f lL (tNot_t (tTru_ok aL rfl))))).trans (ret_ok rfl))), fun s cs _ hr e => ?_⟩
        injection e with e
        rw [e, crB_rows A fun c hc => (hr.ok c hc).ok] at ha
        exact ha.symm
      | true =>
        rw [ha] at aP aL
        obtain ⟨cs, rfl, hcs⟩ := crB_all A ha
        rw [List.length_map] at h64 h2
        have hn : 0 < cs.length := by omega
        have nP : ∀ (S : SS), view S = view SP → sIf ([2] ++ ((([2] ++ []) ++ []) ++ (([2] ++ [0]) ++ []))) (tOrD (tNotD (tTru (dUn (isiD "tuple") (eVar 2)))) (tOrD (tOf (dBin (ltI fun i j => decide (i < j)) (dCB lenD (aCons (eVar 2) aNil)) (eC (.int 2)))) (tNotD (tTru (dCB allD (aCons (eF (xComp [3] (.nm 3) (iItems (eVar 2)) tTrue (eCalls 2 m_is_crowd (aCons (eVar 0) (aCons (eVar 3) aNil))))) aNil)))))) (sRet [] (eC (.bl false))) sSkip S g = .nx S g := fun S hS => (sIf_f (by rw [hS]; exact tor_f eP (tor_f lP (tNot_f (tTru_ok aP rfl))))).trans rfl
        have nL : ∀ (S : SS), view S = view SL → sIf ([2] ++ ((([2] ++ []) ++ []) ++ (([2] ++ [0]) ++ []))) (tOrD (tNotD (tTru (dUn (isiD "tuple") (eVar 2)))) (tOrD (tOf (dBin (ltI fun i j => decide (i < j)) (dCB lenD (aCons (eVar 2) aNil)) (eC (.int 2)))) (tNotD (tTru (dCB allD (aCons (eF (xComp [3] (.nm 3) (iItems (eVar 2)) tTrue (eCalls 2 m__law_crowd_right (aCons (eVar 0) (aCons (eVar 3) aNil))))) aNil)))))) (sRet [] (eC (.bl false))) sSkip S g = .nx S g := fun S hS => (sIf_f (by rw [hS]; exact tor_f eL (tor_f lL (tNot_f (tTru_ok aL rfl))))).trans rfl
        have ls : lenSetD [.tup (cs.map rowD)] = some (nD (ddR cs).length) := lenSet_ok h64
        have i0 : idxD (.tup (cs.map rowD)) (.int 0) = some (rowD (cs.getD 0 [])) := idx_tup (k := 0) (by rw [List.getElem?_map, cw_at hn, List.getElem?_eq_getElem hn]; rfl)
        have dP := tOf_ok (bin_ok (S := view SP) (g := g) (t := dCB lenSetD (aCons (eVar 2) aNil)) (u := dCB lenD (aCons (eVar 2) aNil)) (cb_ok (args1 (var_ok rfl)) ls) (cb_ok (args1 (var_ok rfl)) (in_len_rows cs)) (ne_nat _ _))
        have dL := tOf_ok (bin_ok (S := view SL) (g := g) (t := dCB lenSetD (aCons (eVar 2) aNil)) (u := dCB lenD (aCons (eVar 2) aNil)) (cb_ok (args1 (var_ok rfl)) ls) (cb_ok (args1 (var_ok rfl)) (in_len_rows cs)) (ne_nat _ _))
        have fP := tOf_ok (bin_ok (S := view SP) (g := g) (t := dBin idxD (eVar 2) (eC (.int 0))) (u := eCalls 2 m_reached_by (aCons (eVar 0) (aCons (eVar 1) aNil))) (bin_ok (var_ok rfl) rfl i0) (calls_ok (args2 (var_ok rfl) (var_ok rfl)) rfl rc) (notin_rows _ _))
        have fL := tOf_ok (bin_ok (S := view SL) (g := g) (t := dBin idxD (eVar 2) (eC (.int 0))) (u := eCalls 2 m__law_spread (aCons (eVar 0) (aCons (eVar 1) aNil))) (bin_ok (var_ok rfl) rfl i0) (calls_ok (args2 (var_ok rfl) (var_ok rfl)) rfl sp) (notin_rows _ _))
        by_cases hdd : (ddR cs).length ≠ cs.length
        · rw [decide_eq_true hdd] at dP dL
          refine ⟨false, call_body rfl ((sSeq_nx ck1).trans ((sSeq_nx ck2).trans ((sSeq_nx (nP SP rfl)).trans (sSeq_ret ((sIf_t (tor_t dP)).trans (ret_ok rfl)))))), call_body rfl ((sSeq_nx (nL SL rfl)).trans (sSeq_ret ((sIf_t (tor_t dL)).trans (ret_ok rfl)))), fun s cs2 _ hr e => ?_⟩
          injection e with e
          have e2 : cs = cs2 := (List.map_inj_right fun a b hab => by injection hab with hab; exact map_int_inj hab).mp e
          exact absurd (by rw [ddR_id (e2 ▸ hr.nd)]) hdd
        · rw [decide_eq_false hdd] at dP dL
          by_cases hin : cs.getD 0 [] ∈ there A c0
          · rw [decide_eq_true hin] at fP fL
            have hcl : ∀ k, k < cs.length → (cs.getD k []).length = A.m := fun k hk => by rw [cw_at hk]; exact (hcs _ (List.getElem_mem hk)).len
            -- the program's last row
            have sa : xSlice (eVar 2) (oAt (eC (.int 1))) oNo (view SP) g = .ok (.v (.tup ((cs.drop 1).map rowD))) g := by
              rw [List.map_drop, ← cut1]
              exact slice_ok (g2 := g) (a := .tup (cs.map rowD)) (l := some 1) (h := none) (var_ok rfl) (oat_ok rfl) rfl rfl
            have sb : xSlice (eVar 2) oNo (oAt (eC (.int 1))) (view SP) g = .ok (.v (.tup ((cs.take 1).map rowD))) g := by
              rw [List.map_take, ← cut_take (cs.map rowD) (p := 1) (by rw [List.length_map]; omega)]
              exact slice_ok (g2 := g) (a := .tup (cs.map rowD)) (l := none) (h := some ((1 : Nat) : Int)) (var_ok rfl) rfl (oat_ok rfl) rfl
            have sl1 : eF (dBin addD (eF (xSlice (eVar 2) (oAt (eC (.int 1))) oNo)) (eF (xSlice (eVar 2) oNo (oAt (eC (.int 1)))))) (view SP) g = .ok (.tup ((rot cs).map rowD)) g :=
              eF_ok (f := .v (.tup ((rot cs).map rowD))) (bin_ok (a := .tup ((cs.drop 1).map rowD)) (b := .tup ((cs.take 1).map rowD)) (eF_ok sa) (eF_ok sb) ((add_tup (by rw [List.length_map, List.length_map, List.length_drop, List.length_take]; omega)).trans (by unfold rot; rw [List.map_append])))
            have z1 : iZipD (aCons (eVar 2) (aCons (eF (dBin addD (eF (xSlice (eVar 2) (oAt (eC (.int 1))) oNo)) (eF (xSlice (eVar 2) oNo (oAt (eC (.int 1))))))) aNil)) (view SP) g = .ok ((cs.zip (rot cs)).map fun p => D.tup [rowD p.1, rowD p.2]) g :=
              zip_ok (args2 (var_ok rfl) sl1) (show some (pairD (cs.map rowD) ((rot cs).map rowD)) = _ by rw [pair_rows])
            have c5 := compL_map (own := [4, 5]) (tg := .tp [4, 5]) (c := tTrue) (e := dBin inD (eVar 5) (eCalls 2 m_copies_of (aCons (eVar 0) (aCons (eVar 4) aNil)))) (S := view SP) (g := g) (fun p : Cw × Cw => D.tup [rowD p.1, rowD p.2]) (fun _ => true) (fun p => .bl (decide (p.2 ∈ cpy A p.1))) (xs := cs.zip (rot cs)) fun p hp => ⟨_, rfl, rfl, fun _ => bin_ok (var_ok rfl) (calls_ok (args2 (var_ok rfl) (var_ok rfl)) rfl (copiesC_ok A hq (hcs _ (List.of_mem_zip hp).1).len g)) (in_rows _ _)⟩
            rw [filter_all] at c5
            -- the law's
            have ixL : ∀ k, k < cs.length → idxD (.tup (cs.map rowD)) (nD k) = some (rowD (cs.getD k [])) := fun k hk => idx_tup (by rw [List.getElem?_map, cw_at hk, List.getElem?_eq_getElem hk]; rfl)
            have ixP : ∀ k, k < cs.length → idxD (.tup (cs.map rowD)) (.int ((k : Nat) - 1)) = some (rowD (cs.getD (prv cs.length k) [])) := fun k hk => by
              unfold prv
              by_cases hz : k = 0
              · rw [if_pos hz, hz]
                refine idx_tl (fun z => ?_) ?_
                · have := congrArg List.length z
                  rw [List.length_map] at this
                  simp at this
                  rw [this] at hn
                  simp at hn
                · rw [List.getLast?_eq_getElem?, List.length_map, List.getElem?_map, List.getElem?_eq_getElem (by omega), cw_at (by omega)]
                  rfl
              · rw [if_neg hz, show (((k : Nat) : Int) - 1) = ((k - 1 : Nat) : Int) by omega]
                exact ixL (k - 1) (by omega)
            have c4 := compL_map (own := [4]) (tg := .nm 4) (c := tTrue) (e := dBin inD (dBin idxD (eVar 2) (eVar 4)) (eCalls 2 m__law_copies (aCons (eVar 0) (aCons (dBin idxD (eVar 2) (dBin subD (eVar 4) (eC (.int 1)))) aNil)))) (S := view SL) (g := g) nD (fun _ => true) (fun k => .bl (decide (cs.getD k [] ∈ cpy A (cs.getD (prv cs.length k) [])))) (xs := List.range cs.length) fun k hk => ⟨(view SL).set 4 (some (nD k)), rfl, rfl, fun _ => by
              have hk := List.mem_range.mp hk
              have hp : prv cs.length k < cs.length := by unfold prv; split <;> omega
              exact bin_ok (bin_ok (a := .tup (cs.map rowD)) (var_ok rfl) (var_ok rfl) (ixL k hk)) (calls_ok (args2 (var_ok rfl) (bin_ok (a := .tup (cs.map rowD)) (b := .int ((k : Nat) - 1)) (var_ok rfl) (bin_ok (var_ok rfl) rfl rfl) (ixP k hk))) rfl (lcopiesC_ok A hq (hcl _ hp) g)) (in_rows _ _)⟩
            rw [filter_all] at c4
            have same : (List.range cs.length).all (fun k => decide (cs.getD k [] ∈ cpy A (cs.getD (prv cs.length k) []))) = (cs.zip (rot cs)).all fun p => decide (p.2 ∈ cpy A p.1) := by
              rw [Bool.eq_iff_iff]
              exact (prv_cyc A).trans (zip_cyc A).symm
            refine ⟨(cs.zip (rot cs)).all fun p => decide (p.2 ∈ cpy A p.1), call_body rfl ((sSeq_nx ck1).trans ((sSeq_nx ck2).trans ((sSeq_nx (nP SP rfl)).trans ((sSeq_nx (S1 := SP) (g1 := g) ((sIf_f (tor_f dP fP)).trans rfl)).trans (ret_ok (cb_ok (f := allD) (args1 (eF_ok (comp_ok z1 c5))) (all_true _ _))))))),
              call_body rfl ((sSeq_nx (nL SL rfl)).trans ((sSeq_nx (S1 := SL) (g1 := g) ((sIf_f (tor_f dL fL)).trans rfl)).trans (ret_ok ((cb_ok (f := allD) (args1 (eF_ok (comp_ok (range_ok (n := cs.length) (cb_ok (args1 (var_ok rfl)) (in_len_rows cs)) (by omega)) c4))) (all_true _ _)).trans (by rw [same]))))), fun s cs2 _ hr e => ?_⟩
            injection e with e
            have e2 : cs = cs2 := (List.map_inj_right fun a b hab => by injection hab with hab; exact map_int_inj hab).mp e
            subst e2
            exact (zip_cyc A).mpr hr.cyc
          · rw [decide_eq_false hin] at fP fL
            refine ⟨false, call_body rfl ((sSeq_nx ck1).trans ((sSeq_nx ck2).trans ((sSeq_nx (nP SP rfl)).trans (sSeq_ret ((sIf_t (tor_f dP fP)).trans (ret_ok rfl)))))), call_body rfl ((sSeq_nx (nL SL rfl)).trans (sSeq_ret ((sIf_t (tor_f dL fL)).trans (ret_ok rfl)))), fun s cs2 hs hr e => ?_⟩
            injection e with e
            have e2 : cs = cs2 := (List.map_inj_right fun a b hab => by injection hab with hab; exact map_int_inj hab).mp e
            subst e2
            rw [hr.hd] at hin
            exact absurd hs hin
  · have hn : ∀ ds, v ≠ .tup ds := fun ds h => ht ⟨ds, h⟩
    have hi : isiD "tuple" v = some (.bl false) := by
      cases v with
      | tup ds => exact absurd rfl (hn ds)
      | draw => cases hv
      | fn _ => cases hv
      | dct _ _ => cases hv
      | _ => rfl
    have eP := tNot_t (isi_ok (S := view SP) (g := g) (t := eVar 2) (var_ok rfl) hi)
    have eL := tNot_t (isi_ok (S := view SL) (g := g) (t := eVar 2) (var_ok rfl) hi)
    exact ⟨false, call_body rfl ((sSeq_nx ck1).trans ((sSeq_nx ck2).trans (sSeq_ret ((sIf_t (tor_t eP)).trans (ret_ok rfl))))), call_body rfl (sSeq_ret ((sIf_t (tor_t eL)).trans (ret_ok rfl))), fun s cs _ _ e => absurd e (hn _)⟩
end

/-! what is left when crowds without a way on are put aside; what is raised; values tried -/
theorem says_ok (b : Bool) (g : G) : m__law_says [.bl b, .bl b] g = .ok (.bl true) g := by cases b <;> rfl
section
variable (A : Gm)
def flt (l : List Cw) : List Cw := l.filter fun x => (cpy A x).any fun y => decide (y ∈ l)
theorem flt_le (l : List Cw) : (flt A l).length ≤ l.length := List.length_filter_le _ _
theorem flt_eq {l : List Cw} (h : (flt A l).length = l.length) : flt A l = l := List.filter_eq_self.mpr (List.length_filter_eq_length_iff.mp h)
theorem flt_sub {l : List Cw} {x : Cw} (h : x ∈ flt A l) : x ∈ l := (List.mem_filter.mp h).1
def Cld (T : List Cw) : Prop := ∀ x ∈ T, ∃ y ∈ cpy A x, y ∈ T
theorem flt_cld {T l : List Cw} (hT : Cld A T) (h : ∀ x ∈ T, x ∈ l) : ∀ x ∈ T, x ∈ flt A l := fun x hx => by
  obtain ⟨y, hy, hyT⟩ := hT x hx
  exact List.mem_filter.mpr ⟨h x hx, List.any_eq_true.mpr ⟨y, hy, decide_eq_true (h y hyT)⟩⟩
theorem while_left {c0 : Cw} (W : List Cw → Int → SS) {B : List Nat} {T : BT} {body : SB} (g : G) (hT : ∀ l z, T (view (W l z)) g = .ok (!(z == ((l.length : Nat) : Int))) g)
    (hb : ∀ l z, (∀ x ∈ l, Ok A c0 x) → l.length ≤ 84 → body (W l z) g = .nx (W (flt A l) ((l.length : Nat) : Int)) g) : ∀ (n : Nat) (l : List Cw) (z : Int), (∀ x ∈ l, Ok A c0 x) → l.length ≤ 84 → ((z = ((l.length : Nat) : Int) ∧ 1 ≤ n) ∨ l.length + 2 ≤ n) → (z < 0 ∨ ∃ p, l = flt A p ∧ z = ((p.length : Nat) : Int)) →
    ∃ l' z', whileL B T body n (W l z) g = .nx (W l' z') g ∧ (∀ x ∈ l', x ∈ l) ∧ l'.length ≤ 84 ∧ flt A l' = l' ∧ ∀ T, Cld A T → (∀ x ∈ T, x ∈ l) → ∀ x ∈ T, x ∈ l'
  | 0, l, z, _, _, hn, _ => by omega
  | n + 1, l, z, ho, h84, hn, hp => by
    by_cases hz : z = ((l.length : Nat) : Int)
    · refine ⟨l, z, ?_, fun x hx => hx, h84, ?_, fun T _ h => h⟩
      · conv => lhs; unfold whileL
        rw [hT, beq_iff_eq.mpr hz]
        rfl
      · rcases hp with hp | ⟨p, h1, h2⟩
        · omega
        · have e : (flt A p).length = p.length := by rw [← h1]; omega
          have := flt_eq A e
          rw [this] at h1
          rw [h1]
          exact this
    · have hle := flt_le A l
      have hn2 : l.length + 2 ≤ n + 1 := by
        rcases hn with ⟨h1, _⟩ | h1
        · exact absurd h1 hz
        · exact h1
      obtain ⟨l', z', e, h1, h2, h3, h4⟩ := while_left W g hT hb n (flt A l) ((l.length : Nat) : Int) (fun x hx => ho x (flt_sub A hx)) (by omega) (by
        by_cases he : (flt A l).length = l.length
        · exact .inl ⟨by rw [he], by omega⟩
        · exact .inr (by omega)) (.inr ⟨l, rfl, rfl⟩)
      refine ⟨l', z', ?_, fun x hx => flt_sub A (h1 x hx), h2, h3, fun T hT h => h4 T hT (flt_cld A hT h)⟩
      conv => lhs; unfold whileL
      rw [hT, show (z == ((l.length : Nat) : Int)) = false from beq_eq_false_iff_ne.mpr hz]
      show (match body _ g with | .nx S2 g2 => _ | .ct S2 g2 => _ | .bk S2 g2 => _ | r => r) = _
      rw [hb l z ho h84]
      exact e
def nxt (l : List Cw) (x : Cw) : Cw := ((cpy A x).find? fun y => decide (y ∈ l)).getD []
theorem nxt_ok {l : List Cw} (h : flt A l = l) {x : Cw} (hx : x ∈ l) : nxt A l x ∈ cpy A x ∧ nxt A l x ∈ l := by
  rw [← h] at hx
  obtain ⟨y, hy, h1⟩ := List.any_eq_true.mp (List.mem_filter.mp hx).2
  unfold nxt
  cases e : (cpy A x).find? fun y => decide (y ∈ l) with
  | none =>
    have := List.find?_eq_none.mp e y hy
    exact absurd h1 this
  | some w =>
    have h2 := List.find?_some e
    rw [decide_eq_true_iff] at h2
    exact ⟨List.mem_of_find?_eq_some e, h2⟩
def itr (l : List Cw) (x : Cw) : Nat → Cw
  | 0 => x
  | i + 1 => nxt A l (itr l x i)
theorem left_none {l : List Cw} (h : flt A l = l) (hne : l ≠ []) : ∃ s ∈ l, ¬ Cls A s := by
  obtain ⟨x, hx⟩ := List.exists_mem_of_ne_nil l hne
  have hin : ∀ i, itr A l x i ∈ l := fun i => by
    induction i with
    | zero => exact hx
    | succ i ih => exact (nxt_ok A h ih).2
  obtain ⟨i, j, hij, hj, e⟩ := pig (itr A l x) l (l.length + 1) (fun i _ => hin i) (by omega)
  refine ⟨itr A l x i, hin i, fun ⟨S, hs, hS⟩ => ?_⟩
  have go : ∀ t, itr A l x (i + t) ∈ S ∧ (1 ≤ t → itr A l x (i + t) ≠ itr A l x i) := fun t => by
    induction t with
    | zero => exact ⟨hs, fun h => absurd h (by omega)⟩
    | succ t ih =>
      have := hS _ ih.1 _ (nxt_ok A h (hin (i + t))).1
      exact ⟨this.1, fun _ => this.2⟩
  have := (go (j - i)).2 (by omega)
  rw [show i + (j - i) = j by omega] at this
  exact this e.symm
theorem ring_sub {c0 : Cw} {f : List Cw} (fc : Fc A c0 f) {s : Cw} {cs : List Cw} (hs : s ∈ f) (h : Ring A (c0 := c0) s cs) : (∀ x ∈ cs, x ∈ f) ∧ Cld A cs := by
  have hne := h.ne
  have at_ : ∀ i, i < cs.length → cs.getD i [] ∈ f := fun i hi => by
    induction i with
    | zero => rw [h.hd]; exact hs
    | succ i ih => exact fc.cl _ (ih (by omega)) _ (h.ch i hi)
  refine ⟨fun x hx => ?_, fun x hx => ?_⟩
  · obtain ⟨i, hi, rfl⟩ := List.getElem_of_mem hx
    rw [← cw_at hi]
    exact at_ i hi
  · obtain ⟨i, hi, rfl⟩ := List.getElem_of_mem hx
    by_cases hz : i + 1 < cs.length
    · refine ⟨cs.getD (i + 1) [], ?_, getD_mem hz⟩
      rw [← cw_at hi]
      exact h.ch i hz
    · refine ⟨s, ?_, ?_⟩
      · have := h.cl
        rw [show cs.length - 1 = i by omega, cw_at hi] at this
        exact this
      · rw [← h.hd]; exact getD_mem (by omega)
end
/-! what is raised -/
def op : Nat → D → D → G → R D
  | 0, d, a, g => m_copy_ends [d, a] g
  | 1, d, a, g => m_copy_ring [d, a] g
  | _, d, a, g => m_takes_copy_ring [d, a, .tup []] g
theorem falls_er {k : Nat} (hk : k < 3) {d a : D} {g : G} (hx : op k d a g = .er mf g) : m__law_falls [.int (k : Nat), d, a] g = .ok (.bl true) g := by
  have q : ∀ i : Nat, tOf (dBin eqD (eVar 0) (eC (.int (i : Nat)))) (view (startD 3 [.int (k : Nat), d, a])) g = .ok (((k : Nat) : Int) == (i : Nat)) g := fun i => tOf_ok (bin_ok (var_ok rfl) rfl (eq_int _ _))
  have hk' : k = 0 ∨ k = 1 ∨ k = 2 := by omega
  rcases hk' with rfl | rfl | rfl
  · exact call_body rfl (sSeq_ret (told_er ((sIf_t (q 0)).trans (sExpr_er (calls_ok (args2 (var_ok rfl) (var_ok rfl)) rfl hx))) rfl))
  · exact call_body rfl (sSeq_ret (told_er ((sIf_f (q 0)).trans ((sIf_t (q 1)).trans (sExpr_er (calls_ok (args2 (var_ok rfl) (var_ok rfl)) rfl hx)))) rfl))
  · exact call_body rfl (sSeq_ret (told_er ((sIf_f (q 0)).trans ((sIf_f (q 1)).trans (sExpr_er (calls_ok (args3 (var_ok rfl) (var_ok rfl) (tup_ok rfl (by simp))) rfl hx)))) rfl))
theorem op_sq {d : D} {g : G} (hx : m_check_square [d] g = .er mf g) {k : Nat} (hk : k < 3) (a : D) : op k d a g = .er mf g := by
  have hk' : k = 0 ∨ k = 1 ∨ k = 2 := by omega
  rcases hk' with rfl | rfl | rfl
  · exact show m_copy_ends [d, a] g = _ from call_er rfl (sSeq_er (sExpr_er (calls_ok (args1 (var_ok rfl)) rfl hx)))
  · exact show m_copy_ring [d, a] g = _ from call_er rfl (sSeq_er (sExpr_er (calls_ok (args1 (var_ok rfl)) rfl hx)))
  · exact show m_takes_copy_ring [d, a, .tup []] g = _ from call_er rfl (sSeq_er (sExpr_er (calls_ok (args1 (var_ok rfl)) rfl hx)))
theorem op_cr (A : Gm) (hq : A.n = A.m) {v : D} {g : G} (hx : m_check_crowd [Td A, v] g = .er mf g) {k : Nat} (hk : k < 3) : op k (Td A) v g = .er mf g := by
  have hk' : k = 0 ∨ k = 1 ∨ k = 2 := by omega
  rcases hk' with rfl | rfl | rfl
  · exact show m_copy_ends [Td A, v] g = _ from call_er rfl ((sSeq_nx (chkS A hq [v] 2 g)).trans (sSeq_er (sExpr_er (calls_ok (args2 (var_ok rfl) (var_ok rfl)) rfl hx))))
  · exact show m_copy_ring [Td A, v] g = _ from call_er rfl ((sSeq_nx (chkS A hq [v] 7 g)).trans (sSeq_er (sExpr_er (calls_ok (args2 (var_ok rfl) (var_ok rfl)) rfl hx))))
  · exact show m_takes_copy_ring [Td A, v, .tup []] g = _ from call_er rfl ((sSeq_nx (chkS A hq [v, .tup []] 5 g)).trans (sSeq_er (sExpr_er (calls_ok (args2 (var_ok rfl) (var_ok rfl)) rfl hx))))
theorem fal {k : Nat} (hk : k < 3) {t u v : ET} {S : DSt} {g : DI.G} {d a : D} (ht : t S g = .ok (nD k) g) (hu : u S g = .ok d g) (hv : v S g = .ok a g) (hx : op k d a g = .er mf g) : eCalls 3 m__law_falls (aCons t (aCons u (aCons v aNil))) S g = .ok (.bl true) g :=
  calls_ok (args3 ht hu hv) rfl (falls_er hk hx)
/-! values that the judges are asked of -/
def Gd (v : D) : Prop := cv v = true ∧ ∀ ds, v = .tup ds → ds.length < 64
theorem gd_tup {ds : List D} (h : ∀ d ∈ ds, cv d = true) (hl : ds.length < 64) : Gd (.tup ds) := ⟨cv_tup h, fun es e => by injection e with e; rw [← e]; exact hl⟩
theorem gd_lst {ds : List D} (h : ∀ d ∈ ds, cv d = true) : Gd (.lst ds) := ⟨cv_lst h, fun es e => by cases e⟩
theorem cv_rows {xs : List Cw} : ∀ d ∈ xs.map rowD, cv d = true := fun d hd => by
  obtain ⟨c, _, rfl⟩ := List.mem_map.mp hd
  exact cv_row c
theorem cv_cutr {xs : List Cw} {lo hi : Option Int} : ∀ d ∈ cutD (xs.map rowD) lo hi, cv d = true := fun d hd => cv_rows d (cutD_mem hd)
theorem cut_le (xs : List D) (p : Nat) : (cutD xs none (some (p : Nat))).length ≤ p := by
  unfold cutD
  rw [HT.sIx_none, HT.sIx_nat, List.length_take]
  omega


/-! the law -/
abbrev L0 (x2 x3 x4 x5 x6 x7 x8 x9 x10 x11 x12 x13 x14 x15 x16 : Option SV) : SS := [none, some (.val .draw), x2, x3, x4, x5, x6, x7, x8, x9, x10, x11, x12, x13, x14, x15, x16, none, none, none]
theorem ne_bb (b : Bool) : neD (.bl b) (.bl b) = some (.bl false) := by cases b <;> rfl
theorem sh_srt (xs : List Cw) : Sh 3 (.tup (srt xs)) := sh_tup (n := 2) fun d hd => by
  obtain ⟨c, _, rfl⟩ := List.mem_map.mp (List.mem_mergeSort.mp hd)
  exact sh_row c
theorem sh_rowsL (xs : List Cw) : Sh 3 (.lst (xs.map rowD)) := sh_lst (n := 2) fun d hd => by
  obtain ⟨c, _, rfl⟩ := List.mem_map.mp hd
  exact sh_row c
theorem em_rows (xs : List Cw) : (xs.map rowD).isEmpty = xs.isEmpty := by cases xs <;> rfl
section
variable (A : Gm) (hq : A.n = A.m) {c : Cw} (hc : CrOk A.m c)
include hq hc
/-- one crowd more on the way -/
def X11 (ws : List Cw) (x : Option SV) : Prop := x = some (.own (ws.map rowD)) ∨ x = some (.val (.lst (ws.map rowD)))
theorem walk_turn {ws : List Cw} (hn : ws ≠ []) (ho : ∀ x ∈ ws, Ok A c x) (hl : ws.length ≤ 20) {x11 : Option SV} (hx : X11 ws x11) (g : G) (hg : -1 ≤ g.at_) (x2 x6 x7 x8 x9 x10 x12 x13 x14 : Option SV) :
    ∃ ws' y11 y13 g', b_law_2 (L0 x2 (some (.val (Td A))) (some (.val (nD A.m))) (some (.val (rowD c))) x6 x7 x8 x9 x10 x11 x12 x13 x14 none none) g = .nx (L0 x2 (some (.val (Td A))) (some (.val (nD A.m))) (some (.val (rowD c))) x6 x7 x8 x9 x10 y11 x12 y13 x14 none none) g' ∧ X11 ws' y11 ∧ ws' ≠ [] ∧ (∀ x ∈ ws', Ok A c x) ∧ ws'.length ≤ ws.length + 1 ∧ -1 ≤ g'.at_ := by
  have hm := A.m4
  let S (x11 x13 : Option SV) : SS := L0 x2 (some (.val (Td A))) (some (.val (nD A.m))) (some (.val (rowD c))) x6 x7 x8 x9 x10 x11 x12 x13 x14 none none
  obtain ⟨pre, w, rfl⟩ : ∃ pre w, ws = pre ++ [w] := ⟨ws.dropLast, ws.getLast hn, (List.dropLast_concat_getLast hn).symm⟩
  have hw : Ok A c w := ho w (List.mem_append_right _ (List.mem_singleton.mpr rfl))
  have il : idxD (.lst ((pre ++ [w]).map rowD)) (.int (-1)) = some (rowD w) := by rw [List.map_append]; exact idx_last _ _
  have lc := lcopiesC_ok A hq hw.ok.len g
  let M13 : Option SV := some (.val (.lst ((cpy A w).map rowD)))
  have v11 : ∀ (x11 x13 : Option SV), X11 (pre ++ [w]) x11 → (view (S x11 x13))[11]? = some (some (.lst ((pre ++ [w]).map rowD))) := fun x11 x13 h => by rcases h with rfl | rfl <;> rfl
  obtain ⟨z11, hz, s1⟩ : ∃ z11, X11 (pre ++ [w]) z11 ∧ sSet 13 ([3] ++ (([11] ++ []) ++ [])) (xV (eCalls 2 m__law_copies (aCons (eVar 3) (aCons (dBin idxD (eVar 11) (dUn negD (eC (.int 1)))) aNil)))) (S x11 x13) g = .nx (S z11 M13) g := by
    have ev : xV (eCalls 2 m__law_copies (aCons (eVar 3) (aCons (dBin idxD (eVar 11) (dUn negD (eC (.int 1)))) aNil))) (view (S x11 x13)) g = .ok (.v (.lst ((cpy A w).map rowD))) g := xV_ok (calls_ok (args2 (var_ok rfl) (bin_ok (var_ok (v11 x11 x13 hx)) rfl il)) rfl lc)
    obtain ⟨S1, hS1, e⟩ := sSet_gen (i := 13) (B := [3] ++ (([11] ++ []) ++ [])) ev
    rcases hx with rfl | rfl <;> rcases hS1 with rfl | rfl
    · exact ⟨_, .inl rfl, e.trans rfl⟩
    · exact ⟨_, .inr rfl, e.trans rfl⟩
    · exact ⟨_, .inr rfl, e.trans rfl⟩
    · exact ⟨_, .inr rfl, e.trans rfl⟩
  have t2 := tOf_ok (bin_ok (S := view (S z11 M13)) (g := g) (t := eVar 13) (u := eF (xLst aNil)) (var_ok (d := .lst ((cpy A w).map rowD)) rfl) (eF_ok (f := .f []) (lst_ok rfl (by simp))) (ne_nil (sh_rowsL (cpy A w)) (by omega)))
  let B2 : List Nat := (([13] ++ []) ++ (([11] ++ (([13] ++ ([1] ++ (([13] ++ []) ++ []))) ++ [])) ++ [11]))
  by_cases he : cpy A w = []
  · rw [he] at t2
    have ev : eIf (tOf (dBin neD (eVar 13) (eF (xLst aNil)))) (dBin addD (eVar 11) (eF (xLst (aCons (dBin idxD (eVar 13) (eCalls 2 m__law_take (aCons (eVar 1) (aCons (dCB lenD (aCons (eVar 13) aNil)) aNil)))) aNil)))) (xV (eVar 11)) (view (S z11 M13)) g = .ok (.v (.lst ((pre ++ [w]).map rowD))) g := if_f t2 (xV_ok (var_ok (v11 z11 M13 hz)))
    obtain ⟨S1, hS1, e⟩ := sSet_gen (i := 11) (B := B2) ev
    refine ⟨pre ++ [w], some (.val (.lst ((pre ++ [w]).map rowD))), M13, g, (sSeq_nx s1).trans ?_, .inr rfl, hn, ho, by omega, hg⟩
    rcases hz with rfl | rfl <;> rcases hS1 with rfl | rfl <;> exact e.trans rfl
  · have hpos : 0 < (cpy A w).length := List.length_pos_iff.mpr he
    have h16 := cpy_len A (c := w) (by have := hw.ok.len; omega)
    have t2' : tOf (dBin neD (eVar 13) (eF (xLst aNil))) (view (S z11 M13)) g = .ok true g := t2.trans (by rw [em_rows]; cases hC : cpy A w with
      | nil => exact absurd hC he
      | cons a b => rfl)
    obtain ⟨k, g', e1, hk, hg'⟩ := etake_ok (n := (cpy A w).length) (i := 1) (t := dCB lenD (aCons (eVar 13) aNil)) (S := view (S z11 M13)) hpos (by omega) rfl (fun g => cb_ok (args1 (var_ok (d := .lst ((cpy A w).map rowD)) rfl)) (len_rows _)) hg
    have ik : idxD (.lst ((cpy A w).map rowD)) (.int (k : Nat)) = some (rowD (cpy A w)[k]) := idx_lst (by rw [List.getElem?_map, List.getElem?_eq_getElem hk]; rfl)
    have hin := hw.cpy A (List.getElem_mem hk)
    have ev : eIf (tOf (dBin neD (eVar 13) (eF (xLst aNil)))) (dBin addD (eVar 11) (eF (xLst (aCons (dBin idxD (eVar 13) (eCalls 2 m__law_take (aCons (eVar 1) (aCons (dCB lenD (aCons (eVar 13) aNil)) aNil)))) aNil)))) (xV (eVar 11)) (view (S z11 M13)) g = .ok (.f ((pre ++ [w] ++ [(cpy A w)[k]]).map rowD)) g' := if_t t2' (bin_ok (a := .lst ((pre ++ [w]).map rowD)) (b := .lst [rowD (cpy A w)[k]]) (var_ok (v11 z11 M13 hz)) (eF_ok (f := .f [rowD (cpy A w)[k]]) (lst_ok (args1 (bin_ok (var_ok (d := .lst ((cpy A w).map rowD)) rfl) e1 ik)) (by simp))) ((add_lst (by rw [List.length_map]; simp only [List.length_singleton]; omega)).trans (by rw [List.map_append (l₁ := pre ++ [w])]; rfl)))
    refine ⟨pre ++ [w] ++ [(cpy A w)[k]], some (.own ((pre ++ [w] ++ [(cpy A w)[k]]).map rowD)), M13, g', (sSeq_nx s1).trans ((sSet_nol (f := .f ((pre ++ [w] ++ [(cpy A w)[k]]).map rowD)) ev (nol_rows _)).trans rfl), .inl rfl, by simp, fun x hx => ?_, by rw [List.length_append (as := pre ++ [w])]; simp, hg'⟩
    rcases List.mem_append.mp hx with hx | hx
    · exact ho x hx
    · rw [List.mem_singleton.mp hx]; exact hin
/-- a value's judges -/
theorem value_turn {v : D} (h : Gd v) (g : G) (x2 x6 x7 x8 x9 x10 x11 x12 x13 : Option SV) :
    b_law_3 (L0 x2 (some (.val (Td A))) (some (.val (nD A.m))) (some (.val (rowD c))) x6 x7 x8 x9 x10 x11 x12 x13 (some (.val v)) none none) g = .nx (L0 x2 (some (.val (Td A))) (some (.val (nD A.m))) (some (.val (rowD c))) x6 x7 x8 x9 x10 x11 x12 x13 (some (.val v)) none none) g := by
  obtain ⟨b, j1, j2, _⟩ := judge A hq hc h.1 h.2 g
  exact (sIf_f (tNot_f (tTru_ok (calls_ok (args2 (calls_ok (args3 (var_ok rfl) (var_ok rfl) (var_ok rfl)) rfl j1) (calls_ok (args3 (var_ok rfl) (var_ok rfl) (var_ok rfl)) rfl j2)) rfl (says_ok b g)) rfl))).trans rfl
/-- the loop that puts aside -/
theorem left_turn {l : List Cw} {z : Int} (ho : ∀ x ∈ l, Ok A c x) (hl : l.length ≤ 84) (g : G) (x2 x6 x9 x10 x11 x12 x13 x14 : Option SV) :
    b_law_1 (L0 x2 (some (.val (Td A))) (some (.val (nD A.m))) (some (.val (rowD c))) x6 (some (.own (l.map rowD))) (some (.val (.int z))) x9 x10 x11 x12 x13 x14 none none) g = .nx (L0 x2 (some (.val (Td A))) (some (.val (nD A.m))) (some (.val (rowD c))) x6 (some (.own ((flt A l).map rowD))) (some (.val (.int ((l.length : Nat) : Int)))) x9 x10 x11 x12 x13 x14 none none) g := by
  let S (x7 x8 : Option SV) : SS := L0 x2 (some (.val (Td A))) (some (.val (nD A.m))) (some (.val (rowD c))) x6 x7 x8 x9 x10 x11 x12 x13 x14 none none
  let L7 : Option SV := some (.own (l.map rowD))
  let N8 : Option SV := some (.val (nD l.length))
  have s1 : sSet 8 ([7] ++ []) (xV (dCB lenD (aCons (eVar 7) aNil))) (S L7 (some (.val (.int z)))) g = .nx (S L7 N8) g := (sSet_nol (f := .v (nD l.length)) (xV_ok (cb_ok (args1 (var_ok (d := .lst (l.map rowD)) rfl)) (len_rows l))) rfl).trans rfl
  have c1 := compL_map (own := [17]) (tg := .nm 17) (c := tTru (dCB anyD (aCons (eF (xComp [18] (.nm 18) (iItems (eCalls 2 m__law_copies (aCons (eVar 3) (aCons (eVar 17) aNil)))) tTrue (dBin inD (eVar 18) (eVar 7)))) aNil))) (e := eVar 17) (S := view (S L7 N8)) (g := g) rowD (fun x => (cpy A x).any fun y => decide (y ∈ l)) rowD (xs := l) fun x hx => ⟨(wipeD (view (S L7 N8)) [17]).set 17 (some (rowD x)), rfl, by
    have c2 := compL_map (own := [18]) (tg := .nm 18) (c := tTrue) (e := dBin inD (eVar 18) (eVar 7)) (S := (wipeD (view (S L7 N8)) [17]).set 17 (some (rowD x))) (g := g) rowD (fun _ => true) (fun y => .bl (decide (y ∈ l))) (xs := cpy A x) fun y hy => ⟨(wipeD ((wipeD (view (S L7 N8)) [17]).set 17 (some (rowD x))) [18]).set 18 (some (rowD y)), rfl, rfl, fun _ => bin_ok (var_ok rfl) (var_ok (d := .lst (l.map rowD)) rfl) (in_rows y l)⟩
    rw [filter_all] at c2
    exact tTru_ok (cb_ok (f := anyD) (args1 (eF_ok (comp_ok (items_ok (d := .lst ((cpy A x).map rowD)) (calls_ok (args2 (var_ok rfl) (var_ok rfl)) rfl (lcopiesC_ok A hq (ho x hx).ok.len g)) rfl) c2))) (any_true' _ _)) rfl, fun _ => var_ok rfl⟩
  have s2 : sSet 7 ([7] ++ [3, 7]) (xComp [17] (.nm 17) (iItems (eVar 7)) (tTru (dCB anyD (aCons (eF (xComp [18] (.nm 18) (iItems (eCalls 2 m__law_copies (aCons (eVar 3) (aCons (eVar 17) aNil)))) tTrue (dBin inD (eVar 18) (eVar 7)))) aNil))) (eVar 17)) (S L7 N8) g = .nx (S (some (.own ((flt A l).map rowD))) N8) g := (sSet_nol (f := .f ((flt A l).map rowD)) (comp_ok (items_ok (d := .lst (l.map rowD)) (var_ok rfl) rfl) c1) (nol_rows _)).trans rfl
  exact (sSeq_nx s1).trans s2
end
/-- the values tried besides, if a ring is told -/
def E8 (n : Nat) (cs : List Cw) : List D := [.tup (cs.map rowD), .tup (cutD (cs.map rowD) (some 1) none ++ cutD (cs.map rowD) none (some 1)), .tup (cs.map rowD).reverse, .lst (cs.map rowD), .tup (cs.map rowD ++ cutD (cs.map rowD) none (some 1)), .tup (cutD (cs.map rowD) (some 1) none), .tup (cutD (cs.map rowD) none (some (-1)) ++ [.lst ((cs.getD (cs.length - 1) []).map D.int)]), .tup (cutD (cs.map rowD) none (some (-1)) ++ [.tup (List.replicate n (.int 0))])]
theorem E8_gd {n : Nat} {cs : List Cw} (hl : cs.length ≤ 10) : ∀ v ∈ E8 n cs, Gd v := fun v hv => by
  have l0 : (cs.map rowD).length ≤ 10 := by rw [List.length_map]; exact hl
  have lc : ∀ lo hi, (cutD (cs.map rowD) lo hi).length ≤ 10 := fun lo hi => Nat.le_trans (cutD_len _ _ _) l0
  simp only [E8, List.mem_cons, List.not_mem_nil, or_false] at hv
  rcases hv with rfl | rfl | rfl | rfl | rfl | rfl | rfl | rfl
  · exact gd_tup cv_rows (by omega)
  · refine gd_tup (fun d hd => ?_) (by rw [List.length_append]; have := lc (some 1) none; have := lc none (some 1); omega)
    rcases List.mem_append.mp hd with hd | hd <;> exact cv_cutr d hd
  · exact gd_tup (fun d hd => cv_rows d (List.mem_reverse.mp hd)) (by rw [List.length_reverse]; omega)
  · exact gd_lst cv_rows
  · refine gd_tup (fun d hd => ?_) (by rw [List.length_append]; have := lc none (some 1); omega)
    rcases List.mem_append.mp hd with hd | hd
    · exact cv_rows d hd
    · exact cv_cutr d hd
  · exact gd_tup cv_cutr (by have := lc (some 1) none; omega)
  · refine gd_tup (fun d hd => ?_) (by rw [List.length_append]; have := lc none (some (-1)); simp only [List.length_singleton]; omega)
    rcases List.mem_append.mp hd with hd | hd
    · exact cv_cutr d hd
    · rw [List.mem_singleton.mp hd]
      exact cv_lst fun e he => by obtain ⟨i, _, rfl⟩ := List.mem_map.mp he; rfl
  · refine gd_tup (fun d hd => ?_) (by rw [List.length_append]; have := lc none (some (-1)); simp only [List.length_singleton]; omega)
    rcases List.mem_append.mp hd with hd | hd
    · exact cv_cutr d hd
    · rw [List.mem_singleton.mp hd]
      exact cv_tup fun e he => by rw [(List.mem_replicate.mp he).2]; rfl
def T8 (c : Cw) (R : List D) : List D := [.lst (cutD R (some 0) (some 2)), .tup (cutD R none (some 2)), .tup [rowD c], .tup [rowD c, rowD c], .tup [], .non, .int 0, .tup (cutD R none (some 3))]
theorem T8_gd (c : Cw) (xs : List Cw) : ∀ v ∈ T8 c (xs.map rowD), Gd v := fun v hv => by
  simp only [T8, List.mem_cons, List.not_mem_nil, or_false] at hv
  rcases hv with rfl | rfl | rfl | rfl | rfl | rfl | rfl | rfl
  · exact gd_lst cv_cutr
  · exact gd_tup cv_cutr (by have := cut_le (xs.map rowD) 2; exact Nat.lt_of_le_of_lt this (by omega))
  · exact gd_tup (fun d hd => by rw [List.mem_singleton.mp hd]; exact cv_row c) (by show (1 : Nat) < 64; omega)
  · refine gd_tup (fun d hd => ?_) (by show (2 : Nat) < 64; omega)
    simp only [List.mem_cons, List.not_mem_nil, or_false, or_self] at hd
    rw [hd]
    exact cv_row c
  · exact gd_tup (fun d hd => nomatch hd) (by show (0 : Nat) < 64; omega)
  · exact ⟨rfl, fun ds e => by cases e⟩
  · exact ⟨rfl, fun ds e => by cases e⟩
  · exact gd_tup cv_cutr (by have := cut_le (xs.map rowD) 3; exact Nat.lt_of_le_of_lt this (by omega))

/-! the law, put together -/
abbrev XS3 : ET → Option Int → Option Int → XT := fun t l h => xSlice t (match l with | some i => oAt (eC (.int i)) | none => oNo) (match h with | some i => oAt (eC (.int i)) | none => oNo)
theorem cutT {t : ET} {S : DSt} {g : G} {ds : List D} (ht : t S g = .ok (.tup ds) g) {p q : DSt → G → R (Option Int)} {l h : Option Int} (hp : p S g = .ok l g) (hq : q S g = .ok h g) : eF (xSlice t p q) S g = .ok (.tup (cutD ds l h)) g := eF_ok (f := .v (.tup (cutD ds l h))) (slice_ok ht hp hq rfl)
theorem cutLe {t : ET} {S : DSt} {g : G} {ds : List D} (ht : t S g = .ok (.lst ds) g) {p q : DSt → G → R (Option Int)} {l h : Option Int} (hp : p S g = .ok l g) (hq : q S g = .ok h g) : eF (xSlice t p q) S g = .ok (.lst (cutD ds l h)) g := eF_ok (f := .f (cutD ds l h)) (slice_ok ht hp hq rfl)
theorem addT {t u : ET} {S : DSt} {g : G} {a b : List D} (h1 : t S g = .ok (.tup a) g) (h2 : u S g = .ok (.tup b) g) (hl : a.length + b.length ≤ 1000) : eF (dBin addD t u) S g = .ok (.tup (a ++ b)) g := eF_ok (f := .v (.tup (a ++ b))) (bin_ok h1 h2 (add_tup hl))
theorem oat_n1 {S : DSt} {g : G} {k : Int} : oAt (dUn negD (eC (.int k))) S g = .ok (some (-k)) g := oat_ok (un_ok rfl rfl)
theorem turn_ok (g : G) (hg : -1 ≤ g.at_) (x2 x3 x4 x5 x6 x7 x8 x9 x10 x11 x12 x13 x14 : Option SV) :
    ∃ (A : Gm) (c : Cw) (y6 y7 y8 y9 y10 y11 y12 y13 y14 : Option SV) (g' : G), A.n = A.m ∧ CrOk A.m c ∧ b_law_4 (L0 x2 x3 x4 x5 x6 x7 x8 x9 x10 x11 x12 x13 x14 none none) g = .nx (L0 x2 (some (.val (Td A))) (some (.val (nD A.m))) (some (.val (rowD c))) y6 y7 y8 y9 y10 y11 y12 y13 y14 none none) g' ∧ -1 ≤ g'.at_ := by
  obtain ⟨A, g1, hq, e1, hg1⟩ := ltable_ok g hg
  have hm := A.m4
  have h1 := A.m1
  obtain ⟨c, g2, e2, hc, hg2⟩ := lcrowd_ok h1 hm g1 hg1
  obtain ⟨sp, fc⟩ := spread_ok A hq hc g2
  let T3 : Option SV := some (.val (Td A))
  let N4 : Option SV := some (.val (nD A.m))
  let C5 : Option SV := some (.val (rowD c))
  have td_nol : (Td A).nol = true := nol_map rowD (fun r => nol_map D.int (fun _ => rfl) r) A.a
  have s1 : sSet 3 ([1] ++ []) (xV (eCalls 1 m__law_table (aCons (eVar 1) aNil))) (L0 x2 x3 x4 x5 x6 x7 x8 x9 x10 x11 x12 x13 x14 none none) g = .nx (L0 x2 T3 x4 x5 x6 x7 x8 x9 x10 x11 x12 x13 x14 none none) g1 := (sSet_nol (f := .v (Td A)) (xV_ok (calls_ok (args1 (var_ok rfl)) rfl e1)) td_nol).trans rfl
  have s2 : sSet 4 ([3] ++ []) (xV (dCB lenD (aCons (eVar 3) aNil))) (L0 x2 T3 x4 x5 x6 x7 x8 x9 x10 x11 x12 x13 x14 none none) g1 = .nx (L0 x2 T3 N4 x5 x6 x7 x8 x9 x10 x11 x12 x13 x14 none none) g1 := (sSet_nol (f := .v (nD A.m)) (xV_ok (cb_ok (args1 (var_ok rfl)) (len_tb A.ra))) rfl).trans rfl
  have s3 : sSet 5 ([1] ++ ([4] ++ [])) (xV (eCalls 2 m__law_crowd (aCons (eVar 1) (aCons (eVar 4) aNil)))) (L0 x2 T3 N4 x5 x6 x7 x8 x9 x10 x11 x12 x13 x14 none none) g1 = .nx (L0 x2 T3 N4 C5 x6 x7 x8 x9 x10 x11 x12 x13 x14 none none) g2 := (sSet_nol (f := .v (rowD c)) (xV_ok (calls_ok (args2 (var_ok rfl) (var_ok rfl)) rfl e2)) (row_nol c)).trans rfl
  let TH : List Cw := there A c
  let R : List D := TH.map rowD
  let H6 : Option SV := some (.val (.lst R))
  let S (x7 x8 x9 x10 x11 x12 x13 x14 : Option SV) : SS := L0 x2 T3 N4 C5 H6 x7 x8 x9 x10 x11 x12 x13 x14 none none
  have s4 : sSet 6 ([3] ++ ([5] ++ [])) (xV (eCalls 2 m__law_spread (aCons (eVar 3) (aCons (eVar 5) aNil)))) (L0 x2 T3 N4 C5 x6 x7 x8 x9 x10 x11 x12 x13 x14 none none) g2 = .nx (S x7 x8 x9 x10 x11 x12 x13 x14) g2 := (sSet_val (f := .v (.lst R)) (xV_ok (calls_ok (args2 (var_ok rfl) (var_ok rfl)) rfl sp)) rfl).trans rfl
  let V : DSt := view (S x7 x8 x9 x10 x11 x12 x13 x14)
  have c5 := compL_map (own := [17]) (tg := .nm 17) (c := tOf (dBin eqD (eCalls 2 m__law_copies (aCons (eVar 3) (aCons (eVar 17) aNil))) (eF (xLst aNil)))) (e := eVar 17) (S := V) (g := g2) rowD (fun x => (cpy A x).isEmpty) rowD (xs := TH) fun x hx => ⟨(wipeD V [17]).set 17 (some (rowD x)), rfl, tOf_ok (bin_ok (calls_ok (args2 (var_ok rfl) (var_ok rfl)) rfl (lcopiesC_ok A hq (fc.ok x hx).ok.len g2)) (eF_ok (f := .f []) (lst_ok rfl (by simp))) ((eq_nil (sh_rowsL (cpy A x)) (by omega)).trans (by rw [em_rows]))), fun _ => var_ok rfl⟩
  have t5 : tOf (dBin neD (eCalls 2 m_copy_ends (aCons (eVar 3) (aCons (eVar 5) aNil))) (dCB tupOfD (aCons (eF (dCB sortD (aCons (eF (xComp [17] (.nm 17) (iItems (eVar 6)) (tOf (dBin eqD (eCalls 2 m__law_copies (aCons (eVar 3) (aCons (eVar 17) aNil))) (eF (xLst aNil)))) (eVar 17))) aNil))) aNil))) V g2 = .ok false g2 :=
    tOf_ok (bin_ok (calls_ok (args2 (var_ok rfl) (var_ok rfl)) rfl (ends_ok A hq hc g2)) (cb_ok (f := tupOfD) (args1 (eF_ok (f := .f (srt (ends A c))) (cb_ok (args1 (eF_ok (comp_ok (items_ok (d := .lst R) (var_ok rfl) rfl) c5))) (sort_rows (xs := ends A c) fun y hy z => by
      have := (fc.ok y (List.mem_filter.mp hy).1).ok.len
      rw [z] at this
      have : 0 = A.m := this
      omega)))) rfl) (ne_self (sh_srt _) (by omega)))
  let W (l : List Cw) (z : Int) : SS := S (some (.own (l.map rowD))) (some (.val (.int z))) x9 x10 x11 x12 x13 x14
  have s6 : sSetAll [7, 8] (([6] ++ []) ++ ([] ++ [])) (axCons (dCB lstOfD (aCons (eVar 6) aNil)) (axCons (xV (dUn negD (eC (.int 1)))) axNil)) (S x7 x8 x9 x10 x11 x12 x13 x14) g2 = .nx (W TH (-1)) g2 :=
    (sSetAll_val (fs := [.f R, .v (.int (-1))]) (ax_cons (cb_ok (f := lstOfD) (args1 (var_ok (d := .lst R) rfl)) rfl) (ax_cons (xV_ok (d := .int (-1)) (un_ok (f := negD) (a := .int 1) rfl rfl)) rfl)) rfl rfl).trans rfl
  have h84 : TH.length ≤ 84 := ok_len A hc fc.nd fc.ok
  obtain ⟨l', z', s7, hsub, hl84, hfix, hcld⟩ := while_left A W (B := [8] ++ ([7] ++ [])) (T := tOf (dBin neD (eVar 8) (dCB lenD (aCons (eVar 7) aNil)))) (body := b_law_1) g2 (fun l z => tOf_ok (bin_ok (var_ok rfl) (cb_ok (args1 (var_ok (d := .lst (l.map rowD)) rfl)) (len_rows l)) (ne_int _ _))) (fun l z ho hl => left_turn A hq hc ho hl g2 x2 H6 x9 x10 x11 x12 x13 x14) 100 TH (-1) fc.ok h84 (.inr (by omega)) (.inl (by omega))
  obtain ⟨d, e8, hd⟩ := ring_ok A hq hc g2
  let L7 : Option SV := some (.own (l'.map rowD))
  let Z8 : Option SV := some (.val (.int z'))
  let D9 : Option SV := some (.val d)
  have s8 : sSet 9 ([3] ++ ([5] ++ [])) (xV (eCalls 2 m_copy_ring (aCons (eVar 3) (aCons (eVar 5) aNil)))) (W l' z') g2 = .nx (S L7 Z8 D9 x10 x11 x12 x13 x14) g2 := (sSet_val (f := .v d) (xV_ok (calls_ok (args2 (var_ok rfl) (var_ok rfl)) rfl e8)) rfl).trans rfl
  let V9 : DSt := view (S L7 Z8 D9 x10 x11 x12 x13 x14)
  have q1 : dBin notND (eVar 9) (eC .non) V9 g2 = .ok (.bl (!isNon d)) g2 := bin_ok (var_ok rfl) rfl (notND_ok d)
  have q2 : dBin neD (eVar 7) (eF (xLst aNil)) V9 g2 = .ok (.bl (!(l'.map rowD).isEmpty)) g2 := bin_ok (var_ok (d := .lst (l'.map rowD)) rfl) (eF_ok (f := .f []) (lst_ok rfl (by simp))) (ne_nil (sh_rowsL l') (by omega))
  -- a ring is told just if something is left
  have key : isNon d = (l'.map rowD).isEmpty := by
    rw [em_rows]
    rcases hd with ⟨rfl, hn⟩ | ⟨s, hs, hr⟩
    · have : l' = [] := by
        by_cases hz : l' = []
        · exact hz
        · obtain ⟨s, hs, hns⟩ := left_none A hfix hz
          exact absurd (hn s (hsub s hs)) hns
      rw [this]
      rfl
    · obtain ⟨cs, rfl, hR⟩ := hr.ring
      obtain ⟨r1, r2⟩ := ring_sub A fc hs hR
      have h0 : 0 < cs.length := by have := hR.ne; omega
      have := hcld cs r2 r1 _ (List.getElem_mem h0)
      cases hL : l' with
      | nil => rw [hL] at this; cases this
      | cons a b => rfl
  have t9 : tOrD (tOf (dBin neD (dBin notND (eVar 9) (eC .non)) (dBin neD (eVar 7) (eF (xLst aNil))))) (tAndD (tOf (dBin notND (eVar 9) (eC .non))) (tNotD (tTru (eCalls 3 m__law_ring (aCons (eVar 3) (aCons (eVar 5) (aCons (eVar 9) aNil))))))) V9 g2 = .ok false g2 := by
    refine tor_f (tOf_ok (bin_ok q1 q2 (by rw [← key]; exact ne_bb _))) ?_
    rcases hd with ⟨rfl, hn⟩ | ⟨s, hs, hr⟩
    · exact tand_f (tOf_ok q1)
    · obtain ⟨cs, rfl, hR⟩ := hr.ring
      have h10 := hR.short A hc
      obtain ⟨b, _, j2, j3⟩ := judge A hq hc (v := .tup (cs.map rowD)) (cv_tup cv_rows) (fun ds e => by injection e with e; rw [← e, List.length_map]; omega) g2
      rw [j3 s cs hs hR rfl] at j2
      exact tand_t (tOf_ok q1) (tNot_f (tTru_ok (calls_ok (args3 (var_ok rfl) (var_ok rfl) (var_ok rfl)) rfl j2) rfl))
  let T10 : Option SV := some (.own (T8 (c) R))
  have v6 : ∀ x10, eVar 6 (view (S L7 Z8 D9 x10 x11 x12 x13 x14)) g2 = .ok (.lst R) g2 := fun _ => var_ok rfl
  have v5 : ∀ x10, eVar 5 (view (S L7 Z8 D9 x10 x11 x12 x13 x14)) g2 = .ok (rowD c) g2 := fun _ => var_ok rfl
  have s10 : sSet 10 (([6] ++ ([] ++ [])) ++ ((([6] ++ ([] ++ [])) ++ []) ++ (([5] ++ []) ++ (([5] ++ ([5] ++ [])) ++ ([] ++ ([] ++ ([] ++ ((([6] ++ ([] ++ [])) ++ []) ++ [])))))))) (xLst (aCons (eF (xSlice (eVar 6) (oAt (eC (.int 0))) (oAt (eC (.int 2))))) (aCons (dCB tupOfD (aCons (eF (xSlice (eVar 6) oNo (oAt (eC (.int 2))))) aNil)) (aCons (eTup (aCons (eVar 5) aNil)) (aCons (eTup (aCons (eVar 5) (aCons (eVar 5) aNil))) (aCons (eTup aNil) (aCons (eC .non) (aCons (eC (.int 0)) (aCons (dCB tupOfD (aCons (eF (xSlice (eVar 6) oNo (oAt (eC (.int 3))))) aNil)) aNil))))))))) (S L7 Z8 D9 x10 x11 x12 x13 x14) g2 = .nx (S L7 Z8 D9 T10 x11 x12 x13 x14) g2 :=
    (sSet_val (f := .f (T8 c R)) (lst_ok (args_cons (cutLe (l := some 0) (h := some 2) (v6 x10) (oat_ok rfl) (oat_ok rfl)) (args_cons (cb_ok (f := tupOfD) (args1 (cutLe (l := none) (h := some 2) (v6 x10) rfl (oat_ok rfl))) rfl) (args_cons (tup_ok (args1 (v5 x10)) (by show (1 : Nat) ≤ 1000; omega)) (args_cons (tup_ok (args2 (v5 x10) (v5 x10)) (by show (2 : Nat) ≤ 1000; omega)) (args_cons (tup_ok rfl (by simp)) (args_cons rfl (args_cons rfl (args1 (cb_ok (f := tupOfD) (args1 (cutLe (l := none) (h := some 3) (v6 x10) rfl (oat_ok rfl))) rfl))))))))) (by show (8 : Nat) ≤ 1000; omega)) rfl).trans rfl
  let X12 : XT := (dBin addD (eVar 10) (eF (xLst (aCons (eVar 9) (aCons (eF (dBin addD (eF (xSlice (eVar 9) (oAt (eC (.int 1))) oNo)) (eF (xSlice (eVar 9) oNo (oAt (eC (.int 1))))))) (aCons (eRev (eVar 9)) (aCons (eF (dCB lstOfD (aCons (eVar 9) aNil))) (aCons (eF (dBin addD (eVar 9) (eF (xSlice (eVar 9) oNo (oAt (eC (.int 1))))))) (aCons (eF (xSlice (eVar 9) (oAt (eC (.int 1))) oNo)) (aCons (eF (dBin addD (eF (xSlice (eVar 9) oNo (oAt (dUn negD (eC (.int 1)))))) (eTup (aCons (eF (dCB lstOfD (aCons (dBin idxD (eVar 9) (dUn negD (eC (.int 1)))) aNil))) aNil)))) (aCons (eF (dBin addD (eF (xSlice (eVar 9) oNo (oAt (dUn negD (eC (.int 1)))))) (eTup (aCons (dBin mulT (eTup (aCons (eC (.int 0)) aNil)) (eVar 4)) aNil)))) aNil)))))))))))
  let B12 : List Nat := ([10] ++ ([9] ++ ((([9] ++ ([] ++ [])) ++ ([9] ++ ([] ++ []))) ++ ([9] ++ (([9] ++ []) ++ (([9] ++ ([9] ++ ([] ++ []))) ++ (([9] ++ ([] ++ [])) ++ ((([9] ++ ([] ++ [])) ++ ((([9] ++ []) ++ []) ++ [])) ++ ((([9] ++ ([] ++ [])) ++ ((([] ++ []) ++ [4]) ++ [])) ++ [])))))))))
  obtain ⟨TR, s11, hTR, lTR⟩ : ∃ TR : List D, sIf ([9] ++ []) (tOf (dBin notND (eVar 9) (eC .non))) (sSet 10 B12 X12) sSkip (S L7 Z8 D9 T10 x11 x12 x13 x14) g2 = .nx (S L7 Z8 D9 (some (.own TR)) x11 x12 x13 x14) g2 ∧ (∀ v ∈ TR, Gd v) ∧ TR.length ≤ 16 := by
    have q1' : tOf (dBin notND (eVar 9) (eC .non)) (view (S L7 Z8 D9 T10 x11 x12 x13 x14)) g2 = .ok (!isNon d) g2 := tOf_ok (bin_ok (var_ok rfl) rfl (notND_ok d))
    rcases hd with ⟨rfl, hn⟩ | ⟨s, hs, hr⟩
    · exact ⟨T8 c R, (sIf_f q1').trans rfl, T8_gd c TH, by show (8 : Nat) ≤ 16; omega⟩
    · obtain ⟨cs, rfl, hR⟩ := hr.ring
      have h10 := hR.short A hc
      have hne := hR.ne
      let C : List D := cs.map rowD
      have lC : C.length ≤ 10 := by show (cs.map rowD).length ≤ 10; rw [List.length_map]; exact h10
      have lc : ∀ lo hi, (cutD C lo hi).length ≤ 10 := fun lo hi => Nat.le_trans (cutD_len _ _ _) lC
      let VV : DSt := view (S L7 Z8 (some (.val (.tup C))) T10 x11 x12 x13 x14)
      have v9 : eVar 9 VV g2 = .ok (.tup C) g2 := var_ok rfl
      have il : idxD (.tup C) (.int (-1)) = some (rowD (cs.getD (cs.length - 1) [])) := idx_tl (fun z => by
        have := congrArg List.length z
        have e : C.length = cs.length := List.length_map ..
        rw [e] at this
        have : cs.length = 0 := this
        omega) (by
        show (cs.map rowD).getLast? = _
        rw [List.getLast?_eq_getElem?, List.length_map, List.getElem?_map, List.getElem?_eq_getElem (by omega), cw_at (by omega)]
        rfl)
      have ev : X12 VV g2 = .ok (.f (T8 c R ++ E8 A.m cs)) g2 := by
        refine bin_ok (a := .lst (T8 c R)) (b := .lst (E8 A.m cs)) (var_ok rfl) (eF_ok (f := .f (E8 A.m cs)) (lst_ok (args_cons v9 (args_cons (addT (cutT (l := some 1) (h := none) v9 (oat_ok rfl) rfl) (cutT (l := none) (h := some 1) v9 rfl (oat_ok rfl)) (Nat.le_trans (Nat.add_le_add (lc _ _) (lc _ _)) (by omega))) (args_cons (rev_ok v9 rfl) (args_cons (eF_ok (f := .f C) (cb_ok (args1 v9) rfl)) (args_cons (addT v9 (cutT (l := none) (h := some 1) v9 rfl (oat_ok rfl)) (Nat.le_trans (Nat.add_le_add lC (lc _ _)) (by omega))) (args_cons (cutT (l := some 1) (h := none) v9 (oat_ok rfl) rfl) (args2 (addT (cutT (l := none) (h := some (-1)) v9 rfl oat_n1) (tup_ok (args1 (eF_ok (f := .f ((cs.getD (cs.length - 1) []).map D.int)) (cb_ok (args1 (bin_ok v9 (un_ok rfl rfl) il)) rfl))) (by show (1 : Nat) ≤ 1000; omega)) (Nat.le_trans (Nat.add_le_add (lc _ _) (Nat.le_refl 1)) (by omega))) (addT (cutT (l := none) (h := some (-1)) v9 rfl oat_n1) (tup_ok (args1 (bin_ok (a := .tup [.int 0]) (b := nD A.m) (tup_ok (args1 rfl) (by simp)) (var_ok rfl) (mulT_rep (.int 0) h1 (by omega)))) (by show (1 : Nat) ≤ 1000; omega)) (Nat.le_trans (Nat.add_le_add (lc _ _) (Nat.le_refl 1)) (by omega)))))))))) (by show (8 : Nat) ≤ 1000; omega))) (add_lst (by show (8 : Nat) + 8 ≤ 1000; omega))
      obtain ⟨S1, hS1, e⟩ := sSet_gen (i := 10) (B := B12) (S := S L7 Z8 (some (.val (.tup C))) T10 x11 x12 x13 x14) ev
      refine ⟨T8 c R ++ E8 A.m cs, (sIf_t q1').trans ?_, fun v hv => ?_, by show (8 : Nat) + 8 ≤ 16; omega⟩
      · rcases hS1 with rfl | rfl
        · exact e.trans rfl
        · exact e.trans rfl
      · rcases List.mem_append.mp hv with hv | hv
        · exact T8_gd c TH v hv
        · exact E8_gd h10 v hv
  let R10 : Option SV := some (.own TR)
  have s12 : sSet 11 ([5] ++ []) (xLst (aCons (eVar 5) aNil)) (S L7 Z8 D9 R10 x11 x12 x13 x14) g2 = .nx (S L7 Z8 D9 R10 (some (.own ([c].map rowD))) x12 x13 x14) g2 := (sSet_nol (f := .f [rowD c]) (lst_ok (args1 (var_ok rfl)) (by simp)) (nol_rows [c])).trans rfl
  obtain ⟨S', g3, e13, ⟨ws, y11, y12, y13, eS, hx, hwn, hwo, hwl⟩, hg3⟩ := forL_at (tg := .nm 12) (body := b_law_2) ((List.range 6).map nD) (fun j S' g' => (∃ ws y11 y12 y13, S' = S L7 Z8 D9 R10 y11 y12 y13 x14 ∧ X11 ws y11 ∧ ws ≠ [] ∧ (∀ x ∈ ws, Ok A c x) ∧ ws.length ≤ j + 1) ∧ -1 ≤ g'.at_) (fun j hj S' g' ⟨⟨ws, y11, y12, y13, eS, hx, hwn, hwo, hwl⟩, hg'⟩ => by
    subst eS
    rw [List.length_map, List.length_range] at hj
    obtain ⟨ws', z11, z13, g4, e, hx', hwn', hwo', hwl', hg4⟩ := walk_turn A hq hc hwn hwo (by omega) hx g' hg' x2 H6 L7 Z8 D9 R10 (some (.val (nD j))) y13 x14
    refine ⟨S L7 Z8 D9 R10 y11 (some (.val (nD j))) y13 x14, _, g4, ?_, e, ⟨ws', z11, _, z13, rfl, hx', hwn', hwo', by omega⟩, hg4⟩
    rw [List.getElem_map, List.getElem_range]; rfl) (S L7 Z8 D9 R10 (some (.own ([c].map rowD))) x12 x13 x14) g2 ⟨⟨[c], _, _, _, rfl, .inl rfl, by simp, fun x hx => by rw [List.mem_singleton.mp hx]; exact ⟨hc, rfl⟩, by simp⟩, hg2⟩
  subst eS
  rw [List.length_map, List.length_range] at hwl
  have s13 : sFor false (.nm 12) ([] ++ []) (iRange1 (aCons (eC (.int 6)) aNil)) b_law_2 (S L7 Z8 D9 R10 (some (.own ([c].map rowD))) x12 x13 x14) g2 = .nx (S L7 Z8 D9 R10 y11 y12 y13 x14) g3 := forR_ok (range_ok (n := 6) rfl (by omega)) e13
  let WS : List D := ws.map rowD
  have lWS : WS.length ≤ 7 := by show (ws.map rowD).length ≤ 7; rw [List.length_map]; omega
  let ITS : List D := TR ++ [.tup WS, .tup (cutD WS (some (-3)) none)]
  have hITS : ∀ v ∈ ITS, Gd v := fun v hv => by
    rcases List.mem_append.mp hv with hv | hv
    · exact hTR v hv
    · simp only [List.mem_cons, List.not_mem_nil, or_false] at hv
      rcases hv with rfl | rfl
      · exact gd_tup cv_rows (by omega)
      · exact gd_tup cv_cutr (by have := cutD_len WS (some (-3)) none; omega)
  have v11 : eVar 11 (view (S L7 Z8 D9 R10 y11 y12 y13 x14)) g3 = .ok (.lst WS) g3 := by rcases hx with rfl | rfl <;> exact var_ok rfl
  have it14 : iItems (eF (dBin addD (eVar 10) (eF (xLst (aCons (dCB tupOfD (aCons (eVar 11) aNil)) (aCons (dCB tupOfD (aCons (eF (xSlice (eVar 11) (oAt (dUn negD (eC (.int 3)))) oNo)) aNil)) aNil)))))) (view (S L7 Z8 D9 R10 y11 y12 y13 x14)) g3 = .ok ITS g3 :=
    items_ok (d := .lst ITS) (eF_ok (f := .f ITS) (bin_ok (a := .lst TR) (b := .lst [.tup WS, .tup (cutD WS (some (-3)) none)]) (var_ok rfl) (eF_ok (f := .f [.tup WS, .tup (cutD WS (some (-3)) none)]) (lst_ok (args2 (cb_ok (f := tupOfD) (args1 v11) rfl) (cb_ok (f := tupOfD) (args1 (cutLe (l := some (-3)) (h := none) v11 oat_n1 rfl)) rfl)) (by simp))) (add_lst (by show TR.length + 2 ≤ 1000; omega)))) rfl
  let B14 : List Nat := ([10] ++ (([11] ++ []) ++ ((([11] ++ ([] ++ [])) ++ []) ++ [])))
  obtain ⟨z11, efr⟩ : ∃ z11, frzB B14 (S L7 Z8 D9 R10 y11 y12 y13 x14) = S L7 Z8 D9 (some (.val (.lst TR))) z11 y12 y13 x14 := by rcases hx with rfl | rfl <;> exact ⟨_, rfl⟩
  obtain ⟨S', g4, e14, ⟨y14, eS⟩, eg⟩ := forL_inv (tg := .nm 14) (body := b_law_3) (fun S' g' => (∃ y14, S' = S L7 Z8 D9 (some (.val (.lst TR))) z11 y12 y13 y14) ∧ g' = g3) ITS (fun v hv S' g' ⟨⟨y14, eS⟩, eg⟩ => by
    subst eS eg
    exact ⟨S L7 Z8 D9 (some (.val (.lst TR))) z11 y12 y13 (some (.val v)), _, _, rfl, .inl (value_turn A hq hc (hITS v hv) g' x2 H6 L7 Z8 D9 (some (.val (.lst TR))) z11 y12 y13), ⟨_, rfl⟩, rfl⟩) (S L7 Z8 D9 (some (.val (.lst TR))) z11 y12 y13 x14) g3 ⟨⟨x14, rfl⟩, rfl⟩
  subst eS eg
  have s14 : sFor true (.nm 14) B14 (iItems (eF (dBin addD (eVar 10) (eF (xLst (aCons (dCB tupOfD (aCons (eVar 11) aNil)) (aCons (dCB tupOfD (aCons (eF (xSlice (eVar 11) (oAt (dUn negD (eC (.int 3)))) oNo)) aNil)) aNil))))))) b_law_3 (S L7 Z8 D9 R10 y11 y12 y13 x14) g4 = .nx (S L7 Z8 D9 (some (.val (.lst TR))) z11 y12 y13 y14) g4 := forT_ok it14 (by rw [efr]; exact e14)
  exact ⟨A, c, H6, L7, Z8, D9, _, z11, y12, y13, y14, g4, hq, hc, (sSeq_nx s1).trans ((sSeq_nx s2).trans ((sSeq_nx s3).trans ((sSeq_nx s4).trans ((sSeq_nx (S1 := S x7 x8 x9 x10 x11 x12 x13 x14) (g1 := g2) ((sIf_f t5).trans rfl)).trans ((sSeq_nx s6).trans ((sSeq_nx s7).trans ((sSeq_nx s8).trans ((sSeq_nx (S1 := S L7 Z8 D9 x10 x11 x12 x13 x14) (g1 := g2) ((sIf_f t9).trans rfl)).trans ((sSeq_nx s10).trans ((sSeq_nx s11).trans ((sSeq_nx s12).trans ((sSeq_nx s13).trans s14)))))))))))), hg3⟩
theorem law_ok : ∀ g : G, -1 ≤ g.at_ → ∃ g', b_law ((List.replicate 20 none).set 1 (some (.val .draw))) g = .ret (.bl true) g' := by
  intro g hg
  obtain ⟨S', g1, e1, ⟨x2, x3, x4, x5, x6, x7, x8, x9, x10, x11, x12, x13, x14, eS, h35⟩, hg1⟩ := forL_at (tg := .nm 2) (body := b_law_4) ((List.range 2).map nD) (fun j S' g' => (∃ x2 x3 x4 x5 x6 x7 x8 x9 x10 x11 x12 x13 x14, S' = L0 x2 x3 x4 x5 x6 x7 x8 x9 x10 x11 x12 x13 x14 none none ∧ (0 < j → ∃ (A : Gm) (c : Cw), A.n = A.m ∧ CrOk A.m c ∧ x3 = some (.val (Td A)) ∧ x5 = some (.val (rowD c)))) ∧ -1 ≤ g'.at_) (fun j hj S' g' ⟨⟨x2, x3, x4, x5, x6, x7, x8, x9, x10, x11, x12, x13, x14, eS, _⟩, hg'⟩ => by
    subst eS
    obtain ⟨A, c, y6, y7, y8, y9, y10, y11, y12, y13, y14, g2, hq, hc, e, hg2⟩ := turn_ok g' hg' (some (.val (nD j))) x3 x4 x5 x6 x7 x8 x9 x10 x11 x12 x13 x14
    refine ⟨L0 (some (.val (nD j))) x3 x4 x5 x6 x7 x8 x9 x10 x11 x12 x13 x14 none none, _, g2, ?_, e, ⟨_, _, _, _, _, _, _, _, _, _, _, _, _, rfl, fun _ => ⟨A, c, hq, hc, rfl, rfl⟩⟩, hg2⟩
    rw [List.getElem_map, List.getElem_range]; rfl) (L0 none none none none none none none none none none none none none none none) g ⟨⟨none, none, none, none, none, none, none, none, none, none, none, none, none, rfl, fun h => absurd h (by omega)⟩, hg⟩
  subst eS
  obtain ⟨A, c, hq, hc, rfl, rfl⟩ := h35 (by rw [List.length_map, List.length_range]; omega)
  have hm := A.m4
  let S (x15 x16 : Option SV) : SS := L0 x2 (some (.val (Td A))) x4 (some (.val (rowD c))) x6 x7 x8 x9 x10 x11 x12 x13 x14 x15 x16
  have s1 : sFor false (.nm 2) ([] ++ []) (iRange1 (aCons (eC (.int 2)) aNil)) b_law_4 ((List.replicate 20 none).set 1 (some (.val .draw))) g = .nx (S none none) g1 := forR_ok (range_ok (n := 2) rfl (by omega)) e1
  obtain ⟨bt, g2, e2, hbt, hg2⟩ := badT_run A g1 hg1
  obtain ⟨bc, g3, e3, hbc, hg3⟩ := badC_run A hc g2 hg2
  obtain ⟨bcv, bcn⟩ := badC_no A hc hbc
  let Z : SS := S (some (.val bt)) (some (.val bc))
  have s2 : sSetAll [15, 16] (([1] ++ ([3] ++ [])) ++ (([1] ++ ([3] ++ ([5] ++ []))) ++ [])) (axCons (xV (eCalls 2 m__law_bad_table (aCons (eVar 1) (aCons (eVar 3) aNil)))) (axCons (xV (eCalls 3 m__law_bad_crowd (aCons (eVar 1) (aCons (eVar 3) (aCons (eVar 5) aNil))))) axNil)) (S none none) g1 = .nx Z g3 :=
    (sSetAll_val (fs := [.v bt, .v bc]) (ax_cons (xV_ok (calls_ok (args2 (var_ok rfl) (var_ok rfl)) rfl e2)) (ax_cons (xV_ok (calls_ok (args3 (var_ok rfl) (var_ok rfl) (var_ok rfl)) rfl e3)) rfl)) rfl rfl).trans rfl
  obtain ⟨che, crr⟩ := chc_er A bcv bcn g3
  have chs := chs_er (badT_no A hq hbt g3)
  let VZ : DSt := view Z
  have c3 := compL_map (own := [19]) (tg := .nm 19) (c := tTrue) (e := eCalls 3 m__law_falls (aCons (eVar 19) (aCons (eVar 3) (aCons (eVar 16) aNil)))) (S := VZ) (g := g3) nD (fun _ => true) (fun _ => .bl true) (xs := List.range 3) fun k hk => ⟨(wipeD VZ [19]).set 19 (some (nD k)), rfl, rfl, fun _ => fal (List.mem_range.mp hk) (var_ok rfl) (var_ok rfl) (var_ok rfl) (op_cr A hq che (List.mem_range.mp hk))⟩
  rw [filter_all] at c3
  have t3 : tAndD (tNotD (tTru (eCalls 2 m__law_crowd_right (aCons (eVar 3) (aCons (eVar 16) aNil))))) (tNotD (tTru (dCB allD (aCons (eF (xComp [19] (.nm 19) (iRange1 (aCons (eC (.int 3)) aNil)) tTrue (eCalls 3 m__law_falls (aCons (eVar 19) (aCons (eVar 3) (aCons (eVar 16) aNil)))))) aNil)))) VZ g3 = .ok false g3 :=
    tand_t (tNot_t (tTru_ok (calls_ok (args2 (var_ok rfl) (var_ok rfl)) rfl crr) rfl)) (tNot_f (tTru_ok (cb_ok (f := allD) (args1 (eF_ok (comp_ok (range_ok (n := 3) rfl (by omega)) c3))) (all_tt (List.range 3))) rfl))
  have c4 := compL_map (own := [19]) (tg := .nm 19) (c := tTrue) (e := eCalls 3 m__law_falls (aCons (eVar 19) (aCons (eVar 15) (aCons (eVar 5) aNil)))) (S := VZ) (g := g3) nD (fun _ => true) (fun _ => .bl true) (xs := List.range 3) fun k hk => ⟨(wipeD VZ [19]).set 19 (some (nD k)), rfl, rfl, fun _ => fal (List.mem_range.mp hk) (var_ok rfl) (var_ok rfl) (var_ok rfl) (op_sq chs (List.mem_range.mp hk) _)⟩
  rw [filter_all] at c4
  exact ⟨g3, (sSeq_nx s1).trans ((sSeq_nx s2).trans ((sSeq_nx (S1 := Z) (g1 := g3) ((sIf_f t3).trans rfl)).trans (ret_ok (cb_ok (f := allD) (args1 (eF_ok (comp_ok (range_ok (n := 3) rfl (by omega)) c4))) (all_tt (List.range 3))))))⟩

abbrev s__law_draw : Stmt := tp 24
theorem sc__law_draw : FnScope ["script", "seed", "cell"] ["script"] (defScope s__law_draw) := ⟨rfl, rfl, rfl, by decide +kernel, rfl, by decide +kernel, by decide +kernel⟩
abbrev s__law_take : Stmt := tp 25
theorem sc__law_take : FnScope ["draw", "many", "found"] ["draw", "many"] (defScope s__law_take) := ⟨rfl, rfl, rfl, by decide +kernel, rfl, by decide +kernel, by decide +kernel⟩
abbrev s__law_table : Stmt := tp 27
theorem sc__law_table : FnScope ["draw", "n", "style", "wide", "rows", "i", "j", "row"] ["draw"] (defScope s__law_table) := ⟨rfl, rfl, rfl, by decide +kernel, rfl, by decide +kernel, by decide +kernel⟩
abbrev s__law_crowd : Stmt := tp 28
theorem sc__law_crowd : FnScope ["draw", "n", "many", "found", "k", "line"] ["draw", "n"] (defScope s__law_crowd) := ⟨rfl, rfl, rfl, by decide +kernel, rfl, by decide +kernel, by decide +kernel⟩
abbrev s__law_sum : Stmt := tp 30
theorem sc__law_sum : FnScope ["table", "crowd", "line", "found", "other"] ["table", "crowd", "line"] (defScope s__law_sum) := ⟨rfl, rfl, rfl, by decide +kernel, rfl, by decide +kernel, by decide +kernel⟩
abbrev s__law_other : Stmt := tp 31
theorem sc__law_other : FnScope ["crowd", "one", "two", "k"] ["crowd", "one", "two"] (defScope s__law_other) := ⟨rfl, rfl, rfl, by decide +kernel, rfl, by decide +kernel, by decide +kernel⟩
abbrev s__law_copies : Stmt := tp 32
theorem sc__law_copies : FnScope ["table", "crowd", "lines", "found", "one", "k", "two"] ["table", "crowd"] (defScope s__law_copies) := ⟨rfl, rfl, rfl, by decide +kernel, rfl, by decide +kernel, by decide +kernel⟩
abbrev s__law_spread : Stmt := tp 33
theorem sc__law_spread : FnScope ["table", "crowd", "found", "place", "other"] ["table", "crowd"] (defScope s__law_spread) := ⟨rfl, rfl, rfl, by decide +kernel, rfl, by decide +kernel, by decide +kernel⟩
abbrev s_is_whole : Stmt := tp 4
theorem sc_is_whole : FnScope ["value"] ["value"] (defScope s_is_whole) := ⟨rfl, rfl, rfl, by decide +kernel, rfl, by decide +kernel, by decide +kernel⟩
abbrev s_is_table : Stmt := tp 8
theorem sc_is_table : FnScope ["value", "many", "wide", "row", "item"] ["value", "many", "wide"] (defScope s_is_table) := ⟨rfl, rfl, rfl, by decide +kernel, rfl, by decide +kernel, by decide +kernel⟩
abbrev s_is_square : Stmt := tp 11
theorem sc_is_square : FnScope ["value"] ["value"] (defScope s_is_square) := ⟨rfl, rfl, rfl, by decide +kernel, rfl, by decide +kernel, by decide +kernel⟩
abbrev s_check_square : Stmt := tp 12
theorem sc_check_square : FnScope ["value"] ["value"] (defScope s_check_square) := ⟨rfl, rfl, rfl, by decide +kernel, rfl, by decide +kernel, by decide +kernel⟩
abbrev s_is_crowd : Stmt := tp 13
theorem sc_is_crowd : FnScope ["table", "value", "k"] ["table", "value"] (defScope s_is_crowd) := ⟨rfl, rfl, rfl, by decide +kernel, rfl, by decide +kernel, by decide +kernel⟩
abbrev s_check_crowd : Stmt := tp 14
theorem sc_check_crowd : FnScope ["table", "value"] ["table", "value"] (defScope s_check_crowd) := ⟨rfl, rfl, rfl, by decide +kernel, rfl, by decide +kernel, by decide +kernel⟩
abbrev s_held : Stmt := tp 16
theorem sc_held : FnScope ["crowd", "line", "count"] ["crowd"] (defScope s_held) := ⟨rfl, rfl, rfl, by decide +kernel, rfl, by decide +kernel, by decide +kernel⟩
abbrev s_sum_for : Stmt := tp 15
theorem sc_sum_for : FnScope ["table", "crowd", "line", "count", "item"] ["table", "crowd", "line"] (defScope s_sum_for) := ⟨rfl, rfl, rfl, by decide +kernel, rfl, by decide +kernel, by decide +kernel⟩
abbrev s_moved : Stmt := tp 17
theorem sc_moved : FnScope ["crowd", "start", "goal", "found"] ["crowd", "start", "goal"] (defScope s_moved) := ⟨rfl, rfl, rfl, by decide +kernel, rfl, by decide +kernel, by decide +kernel⟩
abbrev s_copies_of : Stmt := tp 18
theorem sc_copies_of : FnScope ["table", "crowd", "lines", "worths", "pairs", "line", "one", "two"] ["table", "crowd"] (defScope s_copies_of) := ⟨rfl, rfl, rfl, by decide +kernel, rfl, by decide +kernel, by decide +kernel⟩
abbrev s_reached_by : Stmt := tp 19
theorem sc_reached_by : FnScope ["table", "crowd", "found", "place", "other"] ["table", "crowd"] (defScope s_reached_by) := ⟨rfl, rfl, rfl, by decide +kernel, rfl, by decide +kernel, by decide +kernel⟩
abbrev s_copy_ends : Stmt := tp 20
theorem sc_copy_ends : FnScope ["table", "crowd", "other"] ["table", "crowd"] (defScope s_copy_ends) := ⟨rfl, rfl, rfl, by decide +kernel, rfl, by decide +kernel, by decide +kernel⟩
abbrev s_copy_ring : Stmt := tp 21
theorem sc_copy_ring : FnScope ["table", "crowd", "start", "layer", "met", "longer", "walk", "other"] ["table", "crowd"] (defScope s_copy_ring) := ⟨rfl, rfl, rfl, by decide +kernel, rfl, by decide +kernel, by decide +kernel⟩
abbrev s__law_crowd_right : Stmt := tp 29
theorem sc__law_crowd_right : FnScope ["table", "value", "k"] ["table", "value"] (defScope s__law_crowd_right) := ⟨rfl, rfl, rfl, by decide +kernel, rfl, by decide +kernel, by decide +kernel⟩
abbrev s__law_ring : Stmt := tp 36
theorem sc__law_ring : FnScope ["table", "crowd", "value", "other", "k"] ["table", "crowd", "value"] (defScope s__law_ring) := ⟨rfl, rfl, rfl, by decide +kernel, rfl, by decide +kernel, by decide +kernel⟩
abbrev s__law_says : Stmt := tp 26
theorem sc__law_says : FnScope ["value", "due"] ["value", "due"] (defScope s__law_says) := ⟨rfl, rfl, rfl, by decide +kernel, rfl, by decide +kernel, by decide +kernel⟩
abbrev s_takes_copy_ring : Stmt := tp 22
theorem sc_takes_copy_ring : FnScope ["table", "crowd", "told", "other", "one", "two"] ["table", "crowd", "told"] (defScope s_takes_copy_ring) := ⟨rfl, rfl, rfl, by decide +kernel, rfl, by decide +kernel, by decide +kernel⟩
abbrev s__law_bad_table : Stmt := tp 34
theorem sc__law_bad_table : FnScope ["draw", "table", "rows", "row"] ["draw", "table"] (defScope s__law_bad_table) := ⟨rfl, rfl, rfl, by decide +kernel, rfl, by decide +kernel, by decide +kernel⟩
abbrev s__law_bad_crowd : Stmt := tp 35
theorem sc__law_bad_crowd : FnScope ["draw", "table", "crowd", "n"] ["draw", "table", "crowd"] (defScope s__law_bad_crowd) := ⟨rfl, rfl, rfl, by decide +kernel, rfl, by decide +kernel, by decide +kernel⟩
abbrev s__law_falls : Stmt := tp 37
theorem sc__law_falls : FnScope ["which", "table", "crowd"] ["which", "table", "crowd"] (defScope s__law_falls) := ⟨rfl, rfl, rfl, by decide +kernel, rfl, by decide +kernel, by decide +kernel⟩
abbrev s_law : Stmt := tp 38
theorem sc_law : FnScope ["script", "draw", "turn", "table", "n", "crowd", "there", "left", "size", "told", "tries", "walk", "k", "more", "value", "wrong", "bad", "other", "after", "which"] ["script"] (defScope s_law) := ⟨rfl, rfl, rfl, by decide +kernel, rfl, by decide +kernel, by decide +kernel⟩
structure Tp (K : PySem.W.Frag) (mg : Str → Option Value) : Prop where
  n_abs : mg "abs" = none
  n_all : mg "all" = none
  n_any : mg "any" = none
  n_bool : mg "bool" = none
  n_enumerate : mg "enumerate" = none
  n_int : mg "int" = none
  n_isinstance : mg "isinstance" = none
  n_len : mg "len" = none
  n_list : mg "list" = none
  n_max : mg "max" = none
  n_min : mg "min" = none
  n_range : mg "range" = none
  n_set : mg "set" = none
  n_sorted : mg "sorted" = none
  n_sum : mg "sum" = none
  n_tuple : mg "tuple" = none
  n_zip : mg "zip" = none
  f__law_draw : FnF K mg "_law_draw" s__law_draw ["script"]
  f__law_take : FnF K mg "_law_take" s__law_take ["draw", "many"]
  f__law_table : FnF K mg "_law_table" s__law_table ["draw"]
  f__law_crowd : FnF K mg "_law_crowd" s__law_crowd ["draw", "n"]
  f__law_sum : FnF K mg "_law_sum" s__law_sum ["table", "crowd", "line"]
  f__law_other : FnF K mg "_law_other" s__law_other ["crowd", "one", "two"]
  f__law_copies : FnF K mg "_law_copies" s__law_copies ["table", "crowd"]
  f__law_spread : FnF K mg "_law_spread" s__law_spread ["table", "crowd"]
  f_is_whole : FnF K mg "is_whole" s_is_whole ["value"]
  f_is_table : FnF K mg "is_table" s_is_table ["value", "many", "wide"]
  f_is_square : FnF K mg "is_square" s_is_square ["value"]
  f_check_square : FnF K mg "check_square" s_check_square ["value"]
  f_is_crowd : FnF K mg "is_crowd" s_is_crowd ["table", "value"]
  f_check_crowd : FnF K mg "check_crowd" s_check_crowd ["table", "value"]
  f_held : FnF K mg "held" s_held ["crowd"]
  f_sum_for : FnF K mg "sum_for" s_sum_for ["table", "crowd", "line"]
  f_moved : FnF K mg "moved" s_moved ["crowd", "start", "goal"]
  f_copies_of : FnF K mg "copies_of" s_copies_of ["table", "crowd"]
  f_reached_by : FnF K mg "reached_by" s_reached_by ["table", "crowd"]
  f_copy_ends : FnF K mg "copy_ends" s_copy_ends ["table", "crowd"]
  f_copy_ring : FnF K mg "copy_ring" s_copy_ring ["table", "crowd"]
  f__law_crowd_right : FnF K mg "_law_crowd_right" s__law_crowd_right ["table", "value"]
  f__law_ring : FnF K mg "_law_ring" s__law_ring ["table", "crowd", "value"]
  f__law_says : FnF K mg "_law_says" s__law_says ["value", "due"]
  f_takes_copy_ring : FnF K mg "takes_copy_ring" s_takes_copy_ring ["table", "crowd", "told"]
  f__law_bad_table : FnF K mg "_law_bad_table" s__law_bad_table ["draw", "table"]
  f__law_bad_crowd : FnF K mg "_law_bad_crowd" s__law_bad_crowd ["draw", "table", "crowd"]
  f__law_falls : FnF K mg "_law_falls" s__law_falls ["which", "table", "crowd"]
  f_law : FnF K mg "law" s_law ["script"]
  g_MOST_HOLDERS : GlF K mg "MOST_HOLDERS" c_MOST_HOLDERS
  g_MOST_LINES : GlF K mg "MOST_LINES" c_MOST_LINES
  g_MOST_WORTH : GlF K mg "MOST_WORTH" c_MOST_WORTH
  x_Malformed : ExF K mg "Malformed"
  s_Malformed : SubF K mg "Malformed" sub_Malformed
section
variable {P : Program} {w : World} {K : PySem.W.Frag} {mg : Str → Option Value} {base : Heap}
theorem ok__law_draw (T : Tp K mg) : DrawFn P w K mg base 1 := okDraw T.f__law_draw sc__law_draw fun f cdv A outer s H E =>
  pss_cons (ps_set (i := 1) sc__law_draw.nd rfl (.inl rfl) pe_int)
  (pss_cons (ps_for (passes_of rfl) rfl (pi_seq (pe_var rfl (.inl rfl))) (pg_name (i := 2) sc__law_draw.nd rfl (.inl rfl)) (pss_one (ps_set (i := 1) sc__law_draw.nd rfl (.inl rfl)
    (pe_op op_mod (pe_callTy call_int1 (by rfl) T.n_int (by decide +kernel) (pa_cons (pe_op op_add (pe_op op_add (pe_op op_mul (pe_var rfl (.inl rfl)) pe_int) (pe_op op_mod (pe_callB call_abs (by rfl) T.n_abs (by decide +kernel) (pa_cons (pe_callTy call_int1 (by rfl) T.n_int (by decide +kernel) (pa_cons (pe_var rfl (.inl rfl)) pa_nil)) pa_nil)) pe_int)) pe_int) pa_nil)) pe_int))))
  (pss_one (ps_ret (pe_lst (pa_cons (pe_lc (own := [("cell", 2)]) rfl sc__law_draw.nd (pi_seq (pe_var rfl (.inl rfl))) (blkOk_by (by rfl)) (fun s H C cl fp => pg_name (i := 2) sc__law_draw.nd rfl (.inl rfl)) (fun s H C cl fp => pts_nil)
    (fun s H C cl fp => pe_callB call_abs (by rfl) T.n_abs (by decide +kernel) (pa_cons (pe_callTy call_int1 (by rfl) T.n_int (by decide +kernel) (pa_cons (pe_var rfl (.inl rfl)) pa_nil)) pa_nil)))
    (pa_cons (pe_un un_neg pe_int) (pa_cons pe_int (pa_cons (pe_var rfl (.inl rfl)) pa_nil))))))))
theorem ok__law_take (T : Tp K mg) : DefOk P w K mg base "_law_take" 2 m__law_take 1 := okTake T.f__law_take sc__law_take fun f cdv A outer s H E =>
  have dv : ∀ {p : Pos}, PE (cxOf (L2.CX P w) P w K mg base ["draw", "many", "found"] "_law_take" (defScope s__law_take) f cdv A outer s H E) (.Name "draw" p) (tVar 0) := fun {p} => pe_var rfl (.inl rfl)
  have dx : ∀ {k : Int} {j : Nat} {p p1 p2 : Pos}, PE (cxOf (L2.CX P w) P w K mg base ["draw", "many", "found"] "_law_take" (defScope s__law_take) f cdv A outer s H E) (.Subscript (.Name "draw" p) (.Constant (.int k) j p1) p2) (dIx K k) := fun {k j p p1 p2} => pe_ix ix_seq dv pe_int fun _ _ => rfl
  pss_cons (ps_if (pt_cmp (pc_eqI dx pe_int))
    (pss_cons (ps_asg (pe_op op_add dx pe_int) (pg_sub dv pe_int set_list))
    (pss_cons (ps_if (pt_cmp (pc_lt dx (pe_callB call_len (by rfl) T.n_len boot_len (pa_cons dx pa_nil)))) (pss_one (ps_asg (pe_ix ix_seq dx dx fun _ _ => rfl) (pg_sub dv pe_int set_list))) pss_nil)
    (pss_one (ps_if (pt_cmp (pc_eqI dx pe_int)) (pss_cons (ps_asg (pe_op op_mod (pe_callTy call_int1 (by rfl) T.n_int (by decide +kernel) (pa_cons (pe_op op_add (pe_op op_mul dx pe_int) pe_int) pa_nil)) pe_int) (pg_sub dv pe_int set_list)) (pss_one (ps_asg dx (pg_sub dv pe_int set_list)))) pss_nil)))) pss_nil)
  (pss_cons (ps_set (i := 2) sc__law_take.nd rfl (.inl rfl) (pe_op op_mod (pe_callTy call_int1 (by rfl) T.n_int (by decide +kernel) (pa_cons dx pa_nil)) (pe_var rfl (.inl rfl))))
  (pss_cons (ps_asg (pe_op op_fdivW dx (pe_var rfl (.inl rfl))) (pg_sub dv pe_int set_list))
  (pss_one (ps_ret (pe_var rfl (.inl rfl))))))
theorem ok__law_table (T : Tp K mg) : DefOk P w K mg base "_law_table" 1 m__law_table 2 := okF (N := ["draw", "n", "style", "wide", "rows", "i", "j", "row"]) (b := b__law_table) T.f__law_table sc__law_table fun f cdv A outer s H E hr =>
 (ds_cons (ds_parT rfl (by decide) (tgs_cons (i := 1) sc__law_table.nd rfl (by first | exact .inl rfl | exact .inr rfl) (tgs_cons (i := 2) sc__law_table.nd rfl (by first | exact .inl rfl | exact .inr rfl) tgs_nil)) (dax_cons (dr_op bkX op_addAll ad_add de_int (de_call (ok__law_take T) hr (by decide) (by rfl) (takes_of rfl rfl rfl rfl) (da_cons (de_var 0) (da_cons de_int da_nil)) (.inr trivial))) (dax_cons (dx_of (de_call (ok__law_take T) hr (by decide) (by rfl) (takes_of rfl rfl rfl rfl) (da_cons (de_var 0) (da_cons de_int da_nil)) (.inr trivial))) dax_nil)))
 (ds_cons (ds_set (i := 3) sc__law_table.nd rfl (by first | exact .inl rfl | exact .inr rfl) (dx_of (dr_ix bkE ix_seq ad_idx (xE (dx_lst (da_cons de_int (da_cons de_int (da_cons de_int (da_cons de_int da_nil)))))) (de_call (ok__law_take T) hr (by decide) (by rfl) (takes_of rfl rfl rfl rfl) (da_cons (de_var 0) (da_cons de_int da_nil)) (.inr trivial)) (fun _ _ => rfl))))
 (ds_cons (ds_setMat (i := 4) rfl sc__law_table.nd rfl rfl (by exact sw_true rfl rfl rfl (by decide +kernel)) (own := [("i", 5)]) (B := [0, 1, 3]) (blkOk_by (by rfl)) (by decide) (by decide) (di_R (di_range1 (by rfl) T.n_range (da_cons (de_var 1) da_nil))) (fun s H C cl fp => (tg_nm (i := 5) sc__law_table.nd rfl (by first | exact .inl rfl | exact .inr rfl))) (fun s H C cl fp => dts_nil) (fun s H C cl fp => (dx_comp rfl sc__law_table.nd (own := [("j", 6)]) (B := [0, 3]) (blkOk_by (by rfl)) (by decide) (by decide) (di_R (di_range1 (by rfl) T.n_range (da_cons (de_var 1) da_nil))) (fun s H C cl fp => (tg_nm (i := 6) sc__law_table.nd rfl (by first | exact .inl rfl | exact .inr rfl))) (fun s H C cl fp => dts_nil) (fun s H C cl fp => (dr_op bkE op_sub ad_sub (de_call (ok__law_take T) hr (by decide) (by rfl) takes0 (da_cons (de_var 0) (da_cons (xE (dr_op bkX op_addAll ad_add (dr_op bkE op_mul ad_mul de_int (de_var 3)) de_int)) da_nil)) (.inr trivial)) (de_var 3))))))
 (ds_cons (ds_forR (passes_of rfl) rfl (di_range1 (by rfl) T.n_range (da_cons (de_var 1) da_nil)) (tg_nm (i := 5) sc__law_table.nd rfl (by first | exact .inl rfl | exact .inr rfl))
 (ds_one (ds_forR (passes_of rfl) rfl (di_range1 (by rfl) T.n_range (da_cons (de_var 1) da_nil)) (tg_nm (i := 6) sc__law_table.nd rfl (by first | exact .inl rfl | exact .inr rfl))
 (ds_cons (ds_if (dt_cmp (op_eqD (hu_64 hr)) ad_eq (de_var 2) de_int (nobehind _ (by decide) (by decide)))
 (ds_one (ds_put (b := 4) (dr_op bkE op_modN ad_mod (dr_op bkE op_sub ad_sub (de_var 6) (de_var 5)) (de_var 1)) (pg_put (b := 4) rfl (by first | exact .inl rfl | exact .inr (.inl rfl)) (de_var 5) (de_var 6))))
 ds_nil)
 (ds_cons (ds_if (PW.pt (dw_and (dt_cmp (op_eqD (hu_64 hr)) ad_eq (de_var 2) de_int (nobehind _ (by decide) (by decide))) (dw_and1 (dt_cmp (op_eqD (hu_64 hr)) ad_eq (de_var 5) de_int (nobehind _ (by decide) (by decide))))))
 (ds_one (ds_put (b := 4) (de_var 3) (pg_put (b := 4) rfl (by first | exact .inl rfl | exact .inr (.inl rfl)) (de_var 5) (de_var 6))))
 ds_nil)
 (ds_cons (ds_if (dt_cmp (op_eqD (hu_64 hr)) ad_eq (de_var 2) de_int (nobehind _ (by decide) (by decide)))
 (ds_one (ds_put (b := 4) (dr_ix bkE ix_seq ad_idx (dr_ix bkE ix_seq ad_idx (de_var 4) (dr_callB bkE (call_min2 rfl) ad_min2 (by rfl) T.n_min (by decide +kernel) (da_cons (de_var 5) (da_cons (de_var 6) da_nil))) (fun _ _ => rfl)) (dr_callB bkE (call_max2 rfl) ad_max2 (by rfl) T.n_max (by decide +kernel) (da_cons (de_var 5) (da_cons (de_var 6) da_nil))) (fun _ _ => rfl)) (pg_put (b := 4) rfl (by first | exact .inl rfl | exact .inr (.inl rfl)) (de_var 5) (de_var 6))))
 ds_nil)
 (ds_one (ds_if (PW.pt (dw_and (dt_cmp (op_eqD (hu_64 hr)) ad_eq (de_var 2) de_int (nobehind _ (by decide) (by decide))) (dw_and1 (dt_cmp (op_eqD (hu_64 hr)) ad_eq (de_var 5) (de_var 6) (nobehind _ (by decide) (by decide))))))
 (ds_one (ds_put (b := 4) (dr_op bkE op_sub ad_sub (de_var 3) (dr_op bkE op_mul ad_mul de_int (dr_op bkE op_modN ad_mod (de_var 5) de_int))) (pg_put (b := 4) rfl (by first | exact .inl rfl | exact .inr (.inl rfl)) (de_var 5) (de_var 6))))
 ds_nil))))))))
 (ds_one (ds_ret (dr_callTy bkE call_tupN ad_tupOf (by rfl) T.n_tuple (by decide +kernel) (da_cons (xE (dx_comp rfl sc__law_table.nd (own := [("row", 7)]) (B := []) (blkOk_by (by rfl)) (by decide) (by decide) (di_seq (de_var 4)) (fun s H C cl fp => (tg_nm (i := 7) sc__law_table.nd rfl (by first | exact .inl rfl | exact .inr rfl))) (fun s H C cl fp => dts_nil) (fun s H C cl fp => (dr_callTy bkE call_tupN ad_tupOf (by rfl) T.n_tuple (by decide +kernel) (da_cons (de_var 7) da_nil))))) da_nil))))))))
theorem ok__law_crowd (T : Tp K mg) : DefOk P w K mg base "_law_crowd" 2 m__law_crowd 2 := okF (N := ["draw", "n", "many", "found", "k", "line"]) (b := b__law_crowd) T.f__law_crowd sc__law_crowd fun f cdv A outer s H E hr =>
 (ds_cons (ds_par (i := 2) (j := 3) rfl sc__law_crowd.nd rfl rfl (by decide) rfl rfl (dax_cons (dr_op bkX op_addAll ad_add de_int (de_call (ok__law_take T) hr (by decide) (by rfl) (takes_of rfl rfl rfl rfl) (da_cons (de_var 0) (da_cons de_int da_nil)) (.inr trivial))) (dax_cons (dr_op bkX op_mulX ad_mulX (xE (dx_lst (da_cons de_int da_nil))) (de_var 1)) dax_nil)) (by rfl))
 (ds_cons (ds_forR (passes_of rfl) rfl (di_range1 (by rfl) T.n_range (da_cons (de_var 2) da_nil)) (tg_nm (i := 4) sc__law_crowd.nd rfl (by first | exact .inl rfl | exact .inr rfl))
 (ds_cons (ds_set (i := 5) sc__law_crowd.nd rfl (by first | exact .inl rfl | exact .inr rfl) (dx_of (de_call (ok__law_take T) hr (by decide) (by rfl) (takes_of rfl rfl rfl rfl) (da_cons (de_var 0) (da_cons (de_var 1) da_nil)) (.inr trivial))))
 (ds_one (ds_ix (x := 3) rfl (by first | exact .inl rfl | exact .inr (.inl rfl)) (dr_op bkX op_addAll ad_add (dr_ix bkE ix_seq ad_idx (de_var 3) (de_var 5) (fun _ _ => rfl)) de_int) (de_var 5)))))
 (ds_one (ds_ret (dr_callTy bkE call_tupN ad_tupOf (by rfl) T.n_tuple (by decide +kernel) (da_cons (de_var 3) da_nil))))))
theorem ok__law_sum (T : Tp K mg) : DefOk P w K mg base "_law_sum" 3 m__law_sum 1 := okF (N := ["table", "crowd", "line", "found", "other"]) (b := b__law_sum) T.f__law_sum sc__law_sum fun f cdv A outer s H E hr =>
 (ds_cons (ds_set (i := 3) sc__law_sum.nd rfl (by first | exact .inl rfl | exact .inr rfl) (dx_of (dr_op bkE op_sub ad_sub de_int (dr_ix bkE ix_seq ad_idx (dr_ix bkE ix_seq ad_idx (de_var 0) (de_var 2) (fun _ _ => rfl)) (de_var 2) (fun _ _ => rfl)))))
 (ds_cons (ds_forR (passes_of rfl) rfl (di_range1 (by rfl) T.n_range (da_cons (dr_callB bkE call_len ad_len (by rfl) T.n_len (by decide +kernel) (da_cons (de_var 0) da_nil)) da_nil)) (tg_nm (i := 4) sc__law_sum.nd rfl (by first | exact .inl rfl | exact .inr rfl))
 (ds_one (ds_set (i := 3) sc__law_sum.nd rfl (by first | exact .inl rfl | exact .inr rfl) (dr_op bkX op_addAll ad_add (de_var 3) (dr_op bkE op_mul ad_mul (dr_ix bkE ix_seq ad_idx (de_var 1) (de_var 4) (fun _ _ => rfl)) (dr_ix bkE ix_seq ad_idx (dr_ix bkE ix_seq ad_idx (de_var 0) (de_var 2) (fun _ _ => rfl)) (de_var 4) (fun _ _ => rfl)))))))
 (ds_one (ds_ret (de_var 3)))))
theorem ok__law_other (T : Tp K mg) : DefOk P w K mg base "_law_other" 3 m__law_other 1 := okF (N := ["crowd", "one", "two", "k"]) (b := b__law_other) T.f__law_other sc__law_other fun f cdv A outer s H E hr =>
 (ds_one (ds_ret (dr_callTy bkE call_tupN ad_tupOf (by rfl) T.n_tuple (by decide +kernel) (da_cons (xE (dx_comp rfl sc__law_other.nd (own := [("k", 3)]) (B := [0, 1, 2]) (blkOk_by (by rfl)) (by decide) (by decide) (di_R (di_range1 (by rfl) T.n_range (da_cons (dr_callB bkE call_len ad_len (by rfl) T.n_len (by decide +kernel) (da_cons (de_var 0) da_nil)) da_nil))) (fun s H C cl fp => (tg_nm (i := 3) sc__law_other.nd rfl (by first | exact .inl rfl | exact .inr rfl))) (fun s H C cl fp => dts_nil) (fun s H C cl fp => (xE (dr_op bkX op_addAll ad_add (dr_op bkE op_sub ad_sub (dr_ix bkE ix_seq ad_idx (de_var 0) (de_var 3) (fun _ _ => rfl)) (dr_callTy bkE call_int1 ad_intOf (by rfl) T.n_int (by decide +kernel) (da_cons (dr_cmp bkE (op_eqD (hu_64 hr)) ad_eq (de_var 3) (de_var 1) (nobehind _ (by decide) (by decide))) da_nil))) (dr_callTy bkE call_int1 ad_intOf (by rfl) T.n_int (by decide +kernel) (da_cons (dr_cmp bkE (op_eqD (hu_64 hr)) ad_eq (de_var 3) (de_var 2) (nobehind _ (by decide) (by decide))) da_nil))))))) da_nil))))
theorem ok__law_copies (T : Tp K mg) : DefOk P w K mg base "_law_copies" 2 m__law_copies 2 := okF (N := ["table", "crowd", "lines", "found", "one", "k", "two"]) (b := b__law_copies) T.f__law_copies sc__law_copies fun f cdv A outer s H E hr =>
 (ds_cons (ds_par (i := 2) (j := 3) rfl sc__law_copies.nd rfl rfl (by decide) rfl rfl (dax_cons (dx_comp rfl sc__law_copies.nd (own := [("k", 5)]) (B := [1]) (blkOk_by (by rfl)) (by decide) (by decide) (di_R (di_range1 (by rfl) T.n_range (da_cons (dr_callB bkE call_len ad_len (by rfl) T.n_len (by decide +kernel) (da_cons (de_var 0) da_nil)) da_nil))) (fun s H C cl fp => (tg_nm (i := 5) sc__law_copies.nd rfl (by first | exact .inl rfl | exact .inr rfl))) (fun s H C cl fp => (dts_one (dt_cmp op_gt ad_cmpI (dr_ix bkE ix_seq ad_idx (de_var 1) (de_var 5) (fun _ _ => rfl)) de_int (nobehind _ (by decide) (by decide))))) (fun s H C cl fp => (de_var 5))) (dax_cons (dx_lst da_nil) dax_nil)) (by rfl))
 (ds_cons (ds_for (passes_of rfl) rfl (di_seq (de_var 2)) (tg_nm (i := 4) sc__law_copies.nd rfl (by first | exact .inl rfl | exact .inr rfl))
 (ds_one (ds_set (i := 3) sc__law_copies.nd rfl (by first | exact .inl rfl | exact .inr rfl) (dr_op bkX op_addAll ad_add (de_var 3) (xE (dx_comp rfl sc__law_copies.nd (own := [("two", 6)]) (B := [0, 1, 4]) (blkOk_by (by rfl)) (by decide) (by decide) (di_seq (de_var 2)) (fun s H C cl fp => (tg_nm (i := 6) sc__law_copies.nd rfl (by first | exact .inl rfl | exact .inr rfl))) (fun s H C cl fp => (dts_one (dt_cmp op_gt ad_cmpI (de_call (ok__law_sum T) hr (by decide) (by rfl) takes0 (da_cons (de_var 0) (da_cons (de_var 1) (da_cons (de_var 6) da_nil))) (.inr trivial)) (de_call (ok__law_sum T) hr (by decide) (by rfl) takes0 (da_cons (de_var 0) (da_cons (de_var 1) (da_cons (de_var 4) da_nil))) (.inr trivial)) (nobehind _ (by decide) (by decide))))) (fun s H C cl fp => (de_call (ok__law_other T) hr (by decide) (by rfl) takes0 (da_cons (de_var 1) (da_cons (de_var 4) (da_cons (de_var 6) da_nil))) (.inr trivial)))))))))
 (ds_one (ds_ret (xE (dr_callB bkX (cr_sortA (hu64 hr)) ad_sort (by rfl) T.n_sorted (by decide +kernel) (da_cons (de_var 3) da_nil)))))))
theorem ok__law_spread (T : Tp K mg) : DefOk P w K mg base "_law_spread" 2 m__law_spread 3 := okF (N := ["table", "crowd", "found", "place", "other"]) (b := b__law_spread) T.f__law_spread sc__law_spread fun f cdv A outer s H E hr =>
 (ds_cons (ds_parT rfl (by decide) (tgs_cons (i := 2) sc__law_spread.nd rfl (by first | exact .inl rfl | exact .inr rfl) (tgs_cons (i := 3) sc__law_spread.nd rfl (by first | exact .inl rfl | exact .inr rfl) tgs_nil)) (dax_cons (dx_lst (da_cons (de_var 1) da_nil)) (dax_cons (dx_of de_int) dax_nil)))
 (ds_cons (ds_while 100 (passes_of rfl) (dt_cmp op_lt ad_cmpI (de_var 3) (dr_callB bkE call_len ad_len (by rfl) T.n_len (by decide +kernel) (da_cons (de_var 2) da_nil)) (nobehind _ (by decide) (by decide)))
 (ds_cons (ds_set (i := 2) sc__law_spread.nd rfl (by first | exact .inl rfl | exact .inr rfl) (dr_op bkX op_addAll ad_add (de_var 2) (xE (dx_comp rfl sc__law_spread.nd (own := [("other", 4)]) (B := [2]) (blkOk_by (by rfl)) (by decide) (by decide) (di_seq (de_call (ok__law_copies T) hr (by decide) (by rfl) (takes_of rfl rfl rfl rfl) (da_cons (de_var 0) (da_cons (dr_ix bkE ix_seq ad_idx (de_var 2) (de_var 3) (fun _ _ => rfl)) da_nil)) (.inr trivial))) (fun s H C cl fp => (tg_nm (i := 4) sc__law_spread.nd rfl (by first | exact .inl rfl | exact .inr rfl))) (fun s H C cl fp => (dts_one (dt_cmp (op_notInA (hu_65 hr)) ad_notIn (de_var 4) (de_var 2) (by rfl)))) (fun s H C cl fp => (de_var 4))))))
 (ds_one (ds_set (i := 3) sc__law_spread.nd rfl (by first | exact .inl rfl | exact .inr rfl) (dr_op bkX op_addAll ad_add (de_var 3) de_int)))))
 (ds_one (ds_ret (de_var 2)))))
theorem ok_is_whole (T : Tp K mg) : DefOk P w K mg base "is_whole" 1 m_is_whole 1 := okF (N := ["value"]) (b := b_is_whole) T.f_is_whole sc_is_whole fun f cdv A outer s H E hr =>
 (ds_one (ds_ret (de_and (de_isi (T := "int") (de_var 0) (by rfl) T.n_isinstance (by rfl) T.n_int (by decide +kernel)) (de_one (de_not (de_isi (T := "bool") (de_var 0) (by rfl) T.n_isinstance (by rfl) T.n_bool (by decide +kernel)))))))
theorem ok_is_table (T : Tp K mg) : DefOk P w K mg base "is_table" 3 m_is_table 2 := okF (N := ["value", "many", "wide", "row", "item"]) (b := b_is_table) T.f_is_table sc_is_table fun f cdv A outer s H E hr =>
 (ds_cons (ds_if (PW.pt (dw_or (dt_not (dt_tru (de_isi (T := "tuple") (de_var 0) (by rfl) T.n_isinstance (by rfl) T.n_tuple (by decide +kernel)))) (dw_or1 (dt_cmp (op_neD (hu_64 hr)) ad_ne (dr_callB bkE call_len ad_len (by rfl) T.n_len (by decide +kernel) (da_cons (de_var 0) da_nil)) (de_var 1) (nobehind _ (by decide) (by decide))))))
 (ds_one (ds_ret de_bl))
 ds_nil)
 (ds_cons (ds_if (dt_not (dt_tru (dr_callB bkE (cr_all rfl) ad_all (by rfl) T.n_all (by decide +kernel) (da_cons (xE (dx_comp rfl sc_is_table.nd (own := [("row", 3)]) (B := [2]) (blkOk_by (by rfl)) (by decide) (by decide) (di_seq (de_var 0)) (fun s H C cl fp => (tg_nm (i := 3) sc_is_table.nd rfl (by first | exact .inl rfl | exact .inr rfl))) (fun s H C cl fp => dts_nil) (fun s H C cl fp => (de_and (de_isi (T := "tuple") (de_var 3) (by rfl) T.n_isinstance (by rfl) T.n_tuple (by decide +kernel)) (de_one (dr_cmp bkE (op_eqD (hu_64 hr)) ad_eq (dr_callB bkE call_len ad_len (by rfl) T.n_len (by decide +kernel) (da_cons (de_var 3) da_nil)) (de_var 2) (nobehind _ (by decide) (by decide)))))))) da_nil))))
 (ds_one (ds_ret de_bl))
 ds_nil)
 (ds_one (ds_ret (dr_callB bkE (cr_all rfl) ad_all (by rfl) T.n_all (by decide +kernel) (da_cons (xE (dx_comp2 rfl sc_is_table.nd (own := [("row", 3), ("item", 4)]) (own1 := [4]) (B := []) (blkOk_by (by rfl)) (by decide) (by decide) (by decide) (by decide) (di_seq (de_var 0)) (fun s H C cl fp => (tg_nm (i := 3) sc_is_table.nd rfl (by first | exact .inl rfl | exact .inr rfl))) (fun s H C cl fp => dts_nil) (fun s H C cl fp => (di_seq (de_var 3))) (fun s H C cl fp => (tg_nm (i := 4) sc_is_table.nd rfl (by first | exact .inl rfl | exact .inr rfl))) (fun s H C cl fp => dts_nil) (fun s H C cl fp => (de_and (de_call (ok_is_whole T) hr (by decide) (by rfl) takes0 (da_cons (de_var 4) da_nil) (.inr trivial)) (de_one (de_chain op_le op_le ad_cmpI ad_cmpI (dr_un bkE un_neg ad_neg (de_globF T.g_MOST_WORTH)) (de_var 4) (de_globF T.g_MOST_WORTH))))))) da_nil))))))
theorem ok_is_square (T : Tp K mg) : DefOk P w K mg base "is_square" 1 m_is_square 3 := okF (N := ["value"]) (b := b_is_square) T.f_is_square sc_is_square fun f cdv A outer s H E hr =>
 (ds_cons (ds_if (PW.pt (dw_or (dt_not (dt_tru (de_isi (T := "tuple") (de_var 0) (by rfl) T.n_isinstance (by rfl) T.n_tuple (by decide +kernel)))) (dw_or1 (dt_not (dt_chain op_le op_le ad_cmpI ad_cmpI de_int (dr_callB bkE call_len ad_len (by rfl) T.n_len (by decide +kernel) (da_cons (de_var 0) da_nil)) (de_globF T.g_MOST_LINES))))))
 (ds_one (ds_ret de_bl))
 ds_nil)
 (ds_one (ds_ret (de_call (ok_is_table T) hr (by decide) (by rfl) (takes_of rfl rfl rfl rfl) (da_cons (de_var 0) (da_cons (dr_callB bkE call_len ad_len (by rfl) T.n_len (by decide +kernel) (da_cons (de_var 0) da_nil)) (da_cons (dr_callB bkE call_len ad_len (by rfl) T.n_len (by decide +kernel) (da_cons (de_var 0) da_nil)) da_nil))) (.inr trivial)))))
theorem ok_check_square (T : Tp K mg) : DefOk P w K mg base "check_square" 1 m_check_square 4 := okF (N := ["value"]) (b := b_check_square) T.f_check_square sc_check_square fun f cdv A outer s H E hr =>
 (ds_one (ds_if (dt_not (dt_tru (de_call (ok_is_square T) hr (by decide) (by rfl) (takes_of rfl rfl rfl rfl) (da_cons (de_var 0) da_nil) (.inr trivial))))
 (ds_one (ds_raiseF rfl (takes_of rfl rfl rfl rfl) T.x_Malformed))
 ds_nil))
theorem ok_is_crowd (T : Tp K mg) : DefOk P w K mg base "is_crowd" 2 m_is_crowd 2 := okF (N := ["table", "value", "k"]) (b := b_is_crowd) T.f_is_crowd sc_is_crowd fun f cdv A outer s H E hr =>
 (ds_cons (ds_if (PW.pt (dw_or (dt_not (dt_tru (de_isi (T := "tuple") (de_var 1) (by rfl) T.n_isinstance (by rfl) T.n_tuple (by decide +kernel)))) (dw_or (dt_cmp (op_neD (hu_64 hr)) ad_ne (dr_callB bkE call_len ad_len (by rfl) T.n_len (by decide +kernel) (da_cons (de_var 1) da_nil)) (dr_callB bkE call_len ad_len (by rfl) T.n_len (by decide +kernel) (da_cons (de_var 0) da_nil)) (nobehind _ (by decide) (by decide))) (dw_or1 (dt_not (dt_tru (dr_callB bkE (cr_all rfl) ad_all (by rfl) T.n_all (by decide +kernel) (da_cons (xE (dx_comp rfl sc_is_crowd.nd (own := [("k", 2)]) (B := []) (blkOk_by (by rfl)) (by decide) (by decide) (di_seq (de_var 1)) (fun s H C cl fp => (tg_nm (i := 2) sc_is_crowd.nd rfl (by first | exact .inl rfl | exact .inr rfl))) (fun s H C cl fp => dts_nil) (fun s H C cl fp => (de_and (de_call (ok_is_whole T) hr (by decide) (by rfl) takes0 (da_cons (de_var 2) da_nil) (.inr trivial)) (de_one (dr_cmp bkE op_ge ad_cmpI (de_var 2) de_int (nobehind _ (by decide) (by decide)))))))) da_nil))))))))
 (ds_one (ds_ret de_bl))
 ds_nil)
 (ds_one (ds_ret (de_chain op_le op_le ad_cmpI ad_cmpI de_int (dr_callB bkE (cr_sumA rfl) ad_sumA (by rfl) T.n_sum (by decide +kernel) (da_cons (de_var 1) da_nil)) (de_globF T.g_MOST_HOLDERS)))))
theorem ok_check_crowd (T : Tp K mg) : DefOk P w K mg base "check_crowd" 2 m_check_crowd 3 := okF (N := ["table", "value"]) (b := b_check_crowd) T.f_check_crowd sc_check_crowd fun f cdv A outer s H E hr =>
 (ds_one (ds_if (dt_not (dt_tru (de_call (ok_is_crowd T) hr (by decide) (by rfl) (takes_of rfl rfl rfl rfl) (da_cons (de_var 0) (da_cons (de_var 1) da_nil)) (.inr trivial))))
 (ds_one (ds_raiseF rfl (takes_of rfl rfl rfl rfl) T.x_Malformed))
 ds_nil))
theorem ok_held (T : Tp K mg) : DefOk P w K mg base "held" 1 m_held 1 := okF (N := ["crowd", "line", "count"]) (b := b_held) T.f_held sc_held fun f cdv A outer s H E hr =>
 (ds_one (ds_ret (xE (dx_comp rfl sc_held.nd (own := [("line", 1), ("count", 2)]) (B := []) (blkOk_by (by rfl)) (by decide) (by decide) (di_enum (by rfl) T.n_enumerate (de_var 0)) (fun s H C cl fp => (tg_tp rfl (tgs_cons (i := 1) sc_held.nd rfl (by first | exact .inl rfl | exact .inr rfl) (tgs_cons (i := 2) sc_held.nd rfl (by first | exact .inl rfl | exact .inr rfl) tgs_nil)))) (fun s H C cl fp => (dts_one (dt_cmp op_gt ad_cmpI (de_var 2) de_int (nobehind _ (by decide) (by decide))))) (fun s H C cl fp => (de_var 1))))))
theorem ok_sum_for (T : Tp K mg) : DefOk P w K mg base "sum_for" 3 m_sum_for 1 := okF (N := ["table", "crowd", "line", "count", "item"]) (b := b_sum_for) T.f_sum_for sc_sum_for fun f cdv A outer s H E hr =>
 (ds_one (ds_ret (dr_op bkE op_sub ad_sub (dr_callB bkE (cr_sumA rfl) ad_sumA (by rfl) T.n_sum (by decide +kernel) (da_cons (xE (dx_comp rfl sc_sum_for.nd (own := [("count", 3), ("item", 4)]) (B := []) (blkOk_by (by rfl)) (by decide) (by decide) (di_zip (by rfl) T.n_zip (da_cons (de_var 1) (da_cons (dr_ix bkE ix_seq ad_idx (de_var 0) (de_var 2) (fun _ _ => rfl)) da_nil))) (fun s H C cl fp => (tg_tp rfl (tgs_cons (i := 3) sc_sum_for.nd rfl (by first | exact .inl rfl | exact .inr rfl) (tgs_cons (i := 4) sc_sum_for.nd rfl (by first | exact .inl rfl | exact .inr rfl) tgs_nil)))) (fun s H C cl fp => dts_nil) (fun s H C cl fp => (dr_op bkE op_mul ad_mul (de_var 3) (de_var 4))))) da_nil)) (dr_ix bkE ix_seq ad_idx (dr_ix bkE ix_seq ad_idx (de_var 0) (de_var 2) (fun _ _ => rfl)) (de_var 2) (fun _ _ => rfl)))))
theorem ok_moved (T : Tp K mg) : DefOk P w K mg base "moved" 3 m_moved 1 := okF (N := ["crowd", "start", "goal", "found"]) (b := b_moved) T.f_moved sc_moved fun f cdv A outer s H E hr =>
 (ds_cons (ds_set (i := 3) sc_moved.nd rfl (by first | exact .inl rfl | exact .inr rfl) (dr_callTy bkX call_list_of ad_lstOf (by rfl) T.n_list (by decide +kernel) (da_cons (de_var 0) da_nil)))
 (ds_cons (ds_augIx (x := 3) (f := (fun i j : Int => i - j)) rfl (by first | exact .inl rfl | exact .inr (.inl rfl)) de_int (de_var 1) ip_sub)
 (ds_cons (ds_augIx (x := 3) (f := (fun i j : Int => i + j)) rfl (by first | exact .inl rfl | exact .inr (.inl rfl)) de_int (de_var 2) ip_add)
 (ds_one (ds_ret (dr_callTy bkE call_tupN ad_tupOf (by rfl) T.n_tuple (by decide +kernel) (da_cons (de_var 3) da_nil)))))))
theorem ok_copies_of (T : Tp K mg) : DefOk P w K mg base "copies_of" 2 m_copies_of 2 := okF (N := ["table", "crowd", "lines", "worths", "pairs", "line", "one", "two"]) (b := b_copies_of) T.f_copies_of sc_copies_of fun f cdv A outer s H E hr =>
 (ds_cons (ds_set (i := 2) sc_copies_of.nd rfl (by first | exact .inl rfl | exact .inr rfl) (dx_of (de_call (ok_held T) hr (by decide) (by rfl) (takes_of rfl rfl rfl rfl) (da_cons (de_var 1) da_nil) (.inr trivial))))
 (ds_cons (ds_set (i := 3) sc_copies_of.nd rfl (by first | exact .inl rfl | exact .inr rfl) (dx_of (de_dct rfl sc_copies_of.nd (own := [("line", 5)]) (B := [0, 1]) (blkOk_by (by rfl)) (by decide) (by decide) (di_seq (de_var 2)) (fun s H C cl fp => (tg_nm (i := 5) sc_copies_of.nd rfl (by first | exact .inl rfl | exact .inr rfl))) (fun s H C cl fp => dts_nil) (fun s H C cl fp => (de_var 5)) (fun s H C cl fp => (de_call (ok_sum_for T) hr (by decide) (by rfl) takes0 (da_cons (de_var 0) (da_cons (de_var 1) (da_cons (de_var 5) da_nil))) (.inr trivial))))))
 (ds_cons (ds_setLc2 (i := 4) rfl sc_copies_of.nd rfl rfl (by exact sw_true rfl rfl rfl (by decide +kernel)) (own := [("one", 6), ("two", 7)]) (own1 := [7]) (B := [2, 3]) (blkOk_by (by rfl)) (by decide) (by decide) (by decide) (by decide) (di_seq (de_var 2)) (fun s H C cl fp => (tg_nm (i := 6) sc_copies_of.nd rfl (by first | exact .inl rfl | exact .inr rfl))) (fun s H C cl fp => dts_nil) (fun s H C cl fp => (di_seq (de_var 2))) (fun s H C cl fp => (tg_nm (i := 7) sc_copies_of.nd rfl (by first | exact .inl rfl | exact .inr rfl))) (fun s H C cl fp => (dts_one (dt_cmp op_gt ad_cmpI (de_dget hr (de_var 3) (de_var 7) (fun _ _ => rfl)) (de_dget hr (de_var 3) (de_var 6) (fun _ _ => rfl)) (nobehind _ (by decide) (by decide))))) (fun s H C cl fp => (de_tup (da_cons (de_var 6) (da_cons (de_var 7) da_nil)))))
 (ds_one (ds_ret (xE (dr_callB bkX (cr_sortA (hu64 hr)) ad_sort (by rfl) T.n_sorted (by decide +kernel) (da_cons (xE (dx_comp rfl sc_copies_of.nd (own := [("one", 6), ("two", 7)]) (B := [1]) (blkOk_by (by rfl)) (by decide) (by decide) (di_seq (de_var 4)) (fun s H C cl fp => (tg_tp rfl (tgs_cons (i := 6) sc_copies_of.nd rfl (by first | exact .inl rfl | exact .inr rfl) (tgs_cons (i := 7) sc_copies_of.nd rfl (by first | exact .inl rfl | exact .inr rfl) tgs_nil)))) (fun s H C cl fp => dts_nil) (fun s H C cl fp => (de_call (ok_moved T) hr (by decide) (by rfl) takes0 (da_cons (de_var 1) (da_cons (de_var 6) (da_cons (de_var 7) da_nil))) (.inr trivial))))) da_nil))))))))
theorem ok_reached_by (T : Tp K mg) : DefOk P w K mg base "reached_by" 2 m_reached_by 3 := okF (N := ["table", "crowd", "found", "place", "other"]) (b := b_reached_by) T.f_reached_by sc_reached_by fun f cdv A outer s H E hr =>
 (ds_cons (ds_parT rfl (by decide) (tgs_cons (i := 2) sc_reached_by.nd rfl (by first | exact .inl rfl | exact .inr rfl) (tgs_cons (i := 3) sc_reached_by.nd rfl (by first | exact .inl rfl | exact .inr rfl) tgs_nil)) (dax_cons (dx_lst (da_cons (de_var 1) da_nil)) (dax_cons (dx_of de_int) dax_nil)))
 (ds_cons (ds_while 100 (passes_of rfl) (dt_cmp op_lt ad_cmpI (de_var 3) (dr_callB bkE call_len ad_len (by rfl) T.n_len (by decide +kernel) (da_cons (de_var 2) da_nil)) (nobehind _ (by decide) (by decide)))
 (ds_cons (ds_ext (i := 2) rfl (by first | exact .inl rfl | exact .inr (.inl rfl)) (dx_comp rfl sc_reached_by.nd (own := [("other", 4)]) (B := [2]) (blkOk_by (by rfl)) (by decide) (by decide) (di_seq (de_call (ok_copies_of T) hr (by decide) (by rfl) (takes_of rfl rfl rfl rfl) (da_cons (de_var 0) (da_cons (dr_ix bkE ix_seq ad_idx (de_var 2) (de_var 3) (fun _ _ => rfl)) da_nil)) (.inr trivial))) (fun s H C cl fp => (tg_nm (i := 4) sc_reached_by.nd rfl (by first | exact .inl rfl | exact .inr rfl))) (fun s H C cl fp => (dts_one (dt_cmp (op_notInA (hu_65 hr)) ad_notIn (de_var 4) (de_var 2) (by rfl)))) (fun s H C cl fp => (de_var 4))))
 (ds_one (ds_augI (i := 3) sc_reached_by.nd rfl (by first | exact .inl rfl | exact .inr rfl) de_int))))
 (ds_one (ds_ret (de_var 2)))))
theorem ok_copy_ends (T : Tp K mg) : DefOk P w K mg base "copy_ends" 2 m_copy_ends 5 := okF (N := ["table", "crowd", "other"]) (b := b_copy_ends) T.f_copy_ends sc_copy_ends fun f cdv A outer s H E hr =>
 (ds_cons (ds_expr (de_call (ok_check_square T) hr (by decide) (by rfl) (takes_of rfl rfl rfl rfl) (da_cons (de_var 0) da_nil) (.inr trivial)))
 (ds_cons (ds_expr (de_call (ok_check_crowd T) hr (by decide) (by rfl) (takes_of rfl rfl rfl rfl) (da_cons (de_var 0) (da_cons (de_var 1) da_nil)) (.inr trivial)))
 (ds_one (ds_ret (dr_callTy bkE call_tupN ad_tupOf (by rfl) T.n_tuple (by decide +kernel) (da_cons (xE (dr_callB bkX (cr_sortA (hu64 hr)) ad_sort (by rfl) T.n_sorted (by decide +kernel) (da_cons (xE (dx_comp rfl sc_copy_ends.nd (own := [("other", 2)]) (B := [0]) (blkOk_by (by rfl)) (by decide) (by decide) (di_seq (de_call (ok_reached_by T) hr (by decide) (by rfl) (takes_of rfl rfl rfl rfl) (da_cons (de_var 0) (da_cons (de_var 1) da_nil)) (.inr trivial))) (fun s H C cl fp => (tg_nm (i := 2) sc_copy_ends.nd rfl (by first | exact .inl rfl | exact .inr rfl))) (fun s H C cl fp => (dts_one (dt_cmp (op_eqD (hu_64 hr)) ad_eq (dr_callB bkE call_len ad_len (by rfl) T.n_len (by decide +kernel) (da_cons (de_call (ok_copies_of T) hr (by decide) (by rfl) takes0 (da_cons (de_var 0) (da_cons (de_var 2) da_nil)) (.inr trivial)) da_nil)) de_int (nobehind _ (by decide) (by decide))))) (fun s H C cl fp => (de_var 2)))) da_nil))) da_nil))))))
theorem ok_copy_ring (T : Tp K mg) : DefOk P w K mg base "copy_ring" 2 m_copy_ring 5 := okF (N := ["table", "crowd", "start", "layer", "met", "longer", "walk", "other"]) (b := b_copy_ring) T.f_copy_ring sc_copy_ring fun f cdv A outer s H E hr =>
 (ds_cons (ds_expr (de_call (ok_check_square T) hr (by decide) (by rfl) (takes_of rfl rfl rfl rfl) (da_cons (de_var 0) da_nil) (.inr trivial)))
 (ds_cons (ds_expr (de_call (ok_check_crowd T) hr (by decide) (by rfl) (takes_of rfl rfl rfl rfl) (da_cons (de_var 0) (da_cons (de_var 1) da_nil)) (.inr trivial)))
 (ds_cons (ds_for (passes_of rfl) rfl (di_seq (de_call (ok_reached_by T) hr (by decide) (by rfl) (takes_of rfl rfl rfl rfl) (da_cons (de_var 0) (da_cons (de_var 1) da_nil)) (.inr trivial))) (tg_nm (i := 2) sc_copy_ring.nd rfl (by first | exact .inl rfl | exact .inr rfl))
 (ds_cons (ds_par (i := 3) (j := 4) rfl sc_copy_ring.nd rfl rfl (by decide) rfl rfl (dax_cons (dx_lst (da_cons (de_tup (da_cons (de_var 2) da_nil)) da_nil)) (dax_cons (dx_lst da_nil) dax_nil)) (by rfl))
 (ds_one (ds_while 100 (passes_of rfl) (dt_cmp op_gt ad_cmpI (dr_callB bkE call_len ad_len (by rfl) T.n_len (by decide +kernel) (da_cons (de_var 3) da_nil)) de_int (nobehind _ (by decide) (by decide)))
 (ds_cons (ds_set (i := 5) sc_copy_ring.nd rfl (by first | exact .inl rfl | exact .inr rfl) (dx_lst da_nil))
 (ds_cons (ds_for (passes_of rfl) rfl (di_seq (de_var 3)) (tg_nm (i := 6) sc_copy_ring.nd rfl (by first | exact .inl rfl | exact .inr rfl))
 (ds_one (ds_for (passes_of rfl) rfl (di_seq (de_call (ok_copies_of T) hr (by decide) (by rfl) (takes_of rfl rfl rfl rfl) (da_cons (de_var 0) (da_cons (dr_ix bkE ix_seq ad_idx (de_var 6) (dr_un bkE un_neg ad_neg de_int) (fun _ _ => rfl)) da_nil)) (.inr trivial))) (tg_nm (i := 7) sc_copy_ring.nd rfl (by first | exact .inl rfl | exact .inr rfl))
 (ds_cons (ds_if (dt_cmp (op_eqD (hu_64 hr)) ad_eq (de_var 7) (de_var 2) (nobehind _ (by decide) (by decide)))
 (ds_one (ds_ret (de_var 6)))
 ds_nil)
 (ds_one (ds_if (dt_cmp (op_notInA (hu_65 hr)) ad_notIn (de_var 7) (de_var 4) (by rfl))
 (ds_cons (ds_mut (i := 4) PySem.F.slot_list_append PySem.F.type_list_append mt_append ad_app rfl (by first | exact .inl rfl | exact .inr (.inl rfl)) (de_var 7))
 (ds_one (ds_mut (i := 5) PySem.F.slot_list_append PySem.F.type_list_append mt_append ad_app rfl (by first | exact .inl rfl | exact .inr (.inl rfl)) (xE (dr_op bkX op_addAll ad_add (de_var 6) (de_tup (da_cons (de_var 7) da_nil)))))))
 ds_nil))))))
 (ds_one (ds_set (i := 3) sc_copy_ring.nd rfl (by first | exact .inl rfl | exact .inr rfl) (dr_callTy bkX call_list_of ad_lstOf (by rfl) T.n_list (by decide +kernel) (da_cons (de_var 5) da_nil))))))))))
 (ds_one (ds_ret de_non)))))
theorem ok__law_crowd_right (T : Tp K mg) : DefOk P w K mg base "_law_crowd_right" 2 m__law_crowd_right 1 := okF (N := ["table", "value", "k"]) (b := b__law_crowd_right) T.f__law_crowd_right sc__law_crowd_right fun f cdv A outer s H E hr =>
 (ds_cons (ds_if (PW.pt (dw_or (dt_not (dt_tru (de_isi (T := "tuple") (de_var 1) (by rfl) T.n_isinstance (by rfl) T.n_tuple (by decide +kernel)))) (dw_or1 (dt_cmp (op_neD (hu_64 hr)) ad_ne (dr_callB bkE call_len ad_len (by rfl) T.n_len (by decide +kernel) (da_cons (de_var 1) da_nil)) (dr_callB bkE call_len ad_len (by rfl) T.n_len (by decide +kernel) (da_cons (de_var 0) da_nil)) (nobehind _ (by decide) (by decide))))))
 (ds_one (ds_ret de_bl))
 ds_nil)
 (ds_one (ds_ret (de_and (dr_callB bkE (cr_all rfl) ad_all (by rfl) T.n_all (by decide +kernel) (da_cons (xE (dx_comp rfl sc__law_crowd_right.nd (own := [("k", 2)]) (B := []) (blkOk_by (by rfl)) (by decide) (by decide) (di_seq (de_var 1)) (fun s H C cl fp => (tg_nm (i := 2) sc__law_crowd_right.nd rfl (by first | exact .inl rfl | exact .inr rfl))) (fun s H C cl fp => dts_nil) (fun s H C cl fp => (de_and (de_isi (T := "int") (de_var 2) (by rfl) T.n_isinstance (by rfl) T.n_int (by decide +kernel)) (de_and (de_not (de_isi (T := "bool") (de_var 2) (by rfl) T.n_isinstance (by rfl) T.n_bool (by decide +kernel))) (de_one (dr_cmp bkE op_ge ad_cmpI (de_var 2) de_int (nobehind _ (by decide) (by decide))))))))) da_nil)) (de_one (de_chain op_le op_le ad_cmpI ad_cmpI de_int (dr_callB bkE (cr_sumA rfl) ad_sumA (by rfl) T.n_sum (by decide +kernel) (da_cons (de_var 1) da_nil)) de_int))))))
theorem ok__law_ring (T : Tp K mg) : DefOk P w K mg base "_law_ring" 3 m__law_ring 4 := okF (N := ["table", "crowd", "value", "other", "k"]) (b := b__law_ring) T.f__law_ring sc__law_ring fun f cdv A outer s H E hr =>
 (ds_cons (ds_if (PW.pt (dw_or (dt_not (dt_tru (de_isi (T := "tuple") (de_var 2) (by rfl) T.n_isinstance (by rfl) T.n_tuple (by decide +kernel)))) (dw_or (dt_cmp op_lt ad_cmpI (dr_callB bkE call_len ad_len (by rfl) T.n_len (by decide +kernel) (da_cons (de_var 2) da_nil)) de_int (nobehind _ (by decide) (by decide))) (dw_or1 (dt_not (dt_tru (dr_callB bkE (cr_all rfl) ad_all (by rfl) T.n_all (by decide +kernel) (da_cons (xE (dx_comp rfl sc__law_ring.nd (own := [("other", 3)]) (B := [0]) (blkOk_by (by rfl)) (by decide) (by decide) (di_seq (de_var 2)) (fun s H C cl fp => (tg_nm (i := 3) sc__law_ring.nd rfl (by first | exact .inl rfl | exact .inr rfl))) (fun s H C cl fp => dts_nil) (fun s H C cl fp => (de_call (ok__law_crowd_right T) hr (by decide) (by rfl) takes0 (da_cons (de_var 0) (da_cons (de_var 3) da_nil)) (.inr trivial))))) da_nil))))))))
 (ds_one (ds_ret de_bl))
 ds_nil)
 (ds_cons (ds_if (PW.pt (dw_or (dt_cmp (op_neD (hu_64 hr)) ad_ne (dr_ls rfl (lt64 (hu_65 hr)) (by rfl) T.n_len (by decide +kernel) (by rfl) T.n_set (by decide +kernel) (da_cons (de_var 2) da_nil)) (dr_callB bkE call_len ad_len (by rfl) T.n_len (by decide +kernel) (da_cons (de_var 2) da_nil)) (nobehind _ (by decide) (by decide))) (dw_or1 (dt_cmp (op_notInA (hu_65 hr)) ad_notIn (dr_ix bkE ix_seq ad_idx (de_var 2) de_int (fun _ _ => rfl)) (de_call (ok__law_spread T) hr (by decide) (by rfl) (takes_of rfl rfl rfl rfl) (da_cons (de_var 0) (da_cons (de_var 1) da_nil)) (.inr trivial)) (by rfl)))))
 (ds_one (ds_ret de_bl))
 ds_nil)
 (ds_one (ds_ret (dr_callB bkE (cr_all rfl) ad_all (by rfl) T.n_all (by decide +kernel) (da_cons (xE (dx_comp rfl sc__law_ring.nd (own := [("k", 4)]) (B := [0, 2]) (blkOk_by (by rfl)) (by decide) (by decide) (di_R (di_range1 (by rfl) T.n_range (da_cons (dr_callB bkE call_len ad_len (by rfl) T.n_len (by decide +kernel) (da_cons (de_var 2) da_nil)) da_nil))) (fun s H C cl fp => (tg_nm (i := 4) sc__law_ring.nd rfl (by first | exact .inl rfl | exact .inr rfl))) (fun s H C cl fp => dts_nil) (fun s H C cl fp => (dr_cmp bkE (op_inA (hu_65 hr)) ad_in (dr_ix bkE ix_seq ad_idx (de_var 2) (de_var 4) (fun _ _ => rfl)) (de_call (ok__law_copies T) hr (by decide) (by rfl) takes0 (da_cons (de_var 0) (da_cons (dr_ix bkE ix_seq ad_idx (de_var 2) (dr_op bkE op_sub ad_sub (de_var 4) de_int) (fun _ _ => rfl)) da_nil)) (.inr trivial)) (by rfl))))) da_nil))))))
theorem ok__law_says (T : Tp K mg) : DefOk P w K mg base "_law_says" 2 m__law_says 1 := okF (N := ["value", "due"]) (b := b__law_says) T.f__law_says sc__law_says fun f cdv A outer s H E hr =>
 (ds_one (ds_ret (de_and (de_isi (T := "bool") (de_var 0) (by rfl) T.n_isinstance (by rfl) T.n_bool (by decide +kernel)) (de_one (dr_cmp bkE (op_eqD (hu_64 hr)) ad_eq (de_var 0) (de_var 1) (nobehind _ (by decide) (by decide)))))))
theorem ok_takes_copy_ring (T : Tp K mg) : DefOk P w K mg base "takes_copy_ring" 3 m_takes_copy_ring 5 := okF (N := ["table", "crowd", "told", "other", "one", "two"]) (b := b_takes_copy_ring) T.f_takes_copy_ring sc_takes_copy_ring fun f cdv A outer s H E hr =>
 (ds_cons (ds_expr (de_call (ok_check_square T) hr (by decide) (by rfl) (takes_of rfl rfl rfl rfl) (da_cons (de_var 0) da_nil) (.inr trivial)))
 (ds_cons (ds_expr (de_call (ok_check_crowd T) hr (by decide) (by rfl) (takes_of rfl rfl rfl rfl) (da_cons (de_var 0) (da_cons (de_var 1) da_nil)) (.inr trivial)))
 (ds_cons (ds_if (PW.pt (dw_or (dt_not (dt_tru (de_isi (T := "tuple") (de_var 2) (by rfl) T.n_isinstance (by rfl) T.n_tuple (by decide +kernel)))) (dw_or (dt_cmp op_lt ad_cmpI (dr_callB bkE call_len ad_len (by rfl) T.n_len (by decide +kernel) (da_cons (de_var 2) da_nil)) de_int (nobehind _ (by decide) (by decide))) (dw_or1 (dt_not (dt_tru (dr_callB bkE (cr_all rfl) ad_all (by rfl) T.n_all (by decide +kernel) (da_cons (xE (dx_comp rfl sc_takes_copy_ring.nd (own := [("other", 3)]) (B := [0]) (blkOk_by (by rfl)) (by decide) (by decide) (di_seq (de_var 2)) (fun s H C cl fp => (tg_nm (i := 3) sc_takes_copy_ring.nd rfl (by first | exact .inl rfl | exact .inr rfl))) (fun s H C cl fp => dts_nil) (fun s H C cl fp => (de_call (ok_is_crowd T) hr (by decide) (by rfl) takes0 (da_cons (de_var 0) (da_cons (de_var 3) da_nil)) (.inr trivial))))) da_nil))))))))
 (ds_one (ds_ret de_bl))
 ds_nil)
 (ds_cons (ds_if (PW.pt (dw_or (dt_cmp (op_neD (hu_64 hr)) ad_ne (dr_ls rfl (lt64 (hu_65 hr)) (by rfl) T.n_len (by decide +kernel) (by rfl) T.n_set (by decide +kernel) (da_cons (de_var 2) da_nil)) (dr_callB bkE call_len ad_len (by rfl) T.n_len (by decide +kernel) (da_cons (de_var 2) da_nil)) (nobehind _ (by decide) (by decide))) (dw_or1 (dt_cmp (op_notInA (hu_65 hr)) ad_notIn (dr_ix bkE ix_seq ad_idx (de_var 2) de_int (fun _ _ => rfl)) (de_call (ok_reached_by T) hr (by decide) (by rfl) (takes_of rfl rfl rfl rfl) (da_cons (de_var 0) (da_cons (de_var 1) da_nil)) (.inr trivial)) (by rfl)))))
 (ds_one (ds_ret de_bl))
 ds_nil)
 (ds_one (ds_ret (dr_callB bkE (cr_all rfl) ad_all (by rfl) T.n_all (by decide +kernel) (da_cons (xE (dx_comp rfl sc_takes_copy_ring.nd (own := [("one", 4), ("two", 5)]) (B := [0]) (blkOk_by (by rfl)) (by decide) (by decide) (di_zip (by rfl) T.n_zip (da_cons (de_var 2) (da_cons (xE (dr_op bkX op_addAll ad_add (xE (dx_slice (de_var 2) (do_some de_int) do_none)) (xE (dx_slice (de_var 2) do_none (do_some de_int))))) da_nil))) (fun s H C cl fp => (tg_tp rfl (tgs_cons (i := 4) sc_takes_copy_ring.nd rfl (by first | exact .inl rfl | exact .inr rfl) (tgs_cons (i := 5) sc_takes_copy_ring.nd rfl (by first | exact .inl rfl | exact .inr rfl) tgs_nil)))) (fun s H C cl fp => dts_nil) (fun s H C cl fp => (dr_cmp bkE (op_inA (hu_65 hr)) ad_in (de_var 5) (de_call (ok_copies_of T) hr (by decide) (by rfl) takes0 (da_cons (de_var 0) (da_cons (de_var 4) da_nil)) (.inr trivial)) (by rfl))))) da_nil))))))))
theorem ok__law_bad_table (T : Tp K mg) : DefOk P w K mg base "_law_bad_table" 2 m__law_bad_table 2 := okF (N := ["draw", "table", "rows", "row"]) (b := b__law_bad_table) T.f__law_bad_table sc__law_bad_table fun f cdv A outer s H E hr =>
 (ds_cons (ds_set (i := 2) sc__law_bad_table.nd rfl (by first | exact .inl rfl | exact .inr rfl) (dx_lst (da_cons (de_tup da_nil) (da_cons (xE (dr_op bkX op_addAll ad_add (de_var 1) (de_tup (da_cons (dr_ix bkE ix_seq ad_idx (de_var 1) de_int (fun _ _ => rfl)) da_nil)))) (da_cons (xE (dx_slice (de_var 1) (do_some de_int) do_none)) (da_cons (xE (dx_lst (da_cons (de_var 1) da_nil))) (da_cons de_non (da_cons de_int (da_cons (de_tup (da_cons (de_tup (da_cons de_int da_nil)) da_nil)) (da_cons (de_tup (da_cons (de_tup (da_cons de_bl da_nil)) da_nil)) (da_cons (dr_callTy bkE call_tupN ad_tupOf (by rfl) T.n_tuple (by decide +kernel) (da_cons (xE (dx_comp rfl sc__law_bad_table.nd (own := [("row", 3)]) (B := []) (blkOk_by (by rfl)) (by decide) (by decide) (di_seq (de_var 1)) (fun s H C cl fp => (tg_nm (i := 3) sc__law_bad_table.nd rfl (by first | exact .inl rfl | exact .inr rfl))) (fun s H C cl fp => dts_nil) (fun s H C cl fp => (xE (dr_callTy bkX call_list_of ad_lstOf (by rfl) T.n_list (by decide +kernel) (da_cons (de_var 3) da_nil)))))) da_nil)) (da_cons (dr_op bkE op_mulT ad_mulT (de_tup (da_cons (de_tup (da_cons de_int da_nil)) da_nil)) de_int) da_nil))))))))))))
 (ds_one (ds_ret (dr_ix bkE ix_seq ad_idx (xE (dr_op bkX op_addAll ad_add (de_var 2) (xE (dx_lst (da_cons (dr_callTy bkE call_tupN ad_tupOf (by rfl) T.n_tuple (by decide +kernel) (da_cons (xE (dx_comp rfl sc__law_bad_table.nd (own := [("row", 3)]) (B := []) (blkOk_by (by rfl)) (by decide) (by decide) (di_seq (de_var 1)) (fun s H C cl fp => (tg_nm (i := 3) sc__law_bad_table.nd rfl (by first | exact .inl rfl | exact .inr rfl))) (fun s H C cl fp => dts_nil) (fun s H C cl fp => (xE (dr_op bkX op_addAll ad_add (de_var 3) (de_tup (da_cons de_int da_nil))))))) da_nil)) (da_cons (de_tup (da_cons (de_tup (da_cons de_int (da_cons de_int da_nil))) (da_cons (de_tup (da_cons de_int da_nil)) da_nil))) da_nil)))))) (de_call (ok__law_take T) hr (by decide) (by rfl) (takes_of rfl rfl rfl rfl) (da_cons (de_var 0) (da_cons de_int da_nil)) (.inr trivial)) (fun _ _ => rfl)))))
theorem ok__law_bad_crowd (T : Tp K mg) : DefOk P w K mg base "_law_bad_crowd" 3 m__law_bad_crowd 2 := okF (N := ["draw", "table", "crowd", "n"]) (b := b__law_bad_crowd) T.f__law_bad_crowd sc__law_bad_crowd fun f cdv A outer s H E hr =>
 (ds_cons (ds_set (i := 3) sc__law_bad_crowd.nd rfl (by first | exact .inl rfl | exact .inr rfl) (dx_of (dr_callB bkE call_len ad_len (by rfl) T.n_len (by decide +kernel) (da_cons (de_var 1) da_nil))))
 (ds_one (ds_ret (dr_ix bkE ix_seq ad_idx (xE (dx_lst (da_cons (dr_op bkE op_mulT ad_mulT (de_tup (da_cons de_int da_nil)) (de_var 3)) (da_cons (xE (dr_op bkX op_addAll ad_add (de_var 2) (de_tup (da_cons de_int da_nil)))) (da_cons (xE (dx_slice (de_var 2) (do_some de_int) do_none)) (da_cons (xE (dr_callTy bkX call_list_of ad_lstOf (by rfl) T.n_list (by decide +kernel) (da_cons (de_var 2) da_nil))) (da_cons (dr_op bkE op_mulT ad_mulT (de_tup (da_cons de_int da_nil)) (de_var 3)) (da_cons (xE (dr_op bkX op_addAll ad_add (de_tup (da_cons (dr_un bkE un_neg ad_neg de_int) da_nil)) (xE (dx_slice (de_var 2) (do_some de_int) do_none)))) (da_cons de_non (da_cons de_int (da_cons (dr_op bkE op_mulT ad_mulT (de_tup (da_cons de_bl da_nil)) (de_var 3)) (da_cons (xE (dr_op bkX op_addAll ad_add (de_tup (da_cons de_int da_nil)) (dr_op bkE op_mulZ ad_mulZ (de_tup (da_cons de_int da_nil)) (dr_op bkE op_sub ad_sub (de_var 3) de_int)))) da_nil)))))))))))) (de_call (ok__law_take T) hr (by decide) (by rfl) (takes_of rfl rfl rfl rfl) (da_cons (de_var 0) (da_cons de_int da_nil)) (.inr trivial)) (fun _ _ => rfl)))))
theorem ok__law_falls (T : Tp K mg) : DefOk P w K mg base "_law_falls" 3 m__law_falls 6 := okF (N := ["which", "table", "crowd"]) (b := b__law_falls) T.f__law_falls sc__law_falls fun f cdv A outer s H E hr =>
 (ds_cons (ds_tryF rfl rfl T.s_Malformed (takes_of rfl rfl rfl rfl) (fun W pn xe tk hp => (ds_one (ds_if (dt_cmp (op_eqD (hu_64 hr)) ad_eq (de_var 0) de_int (nobehind _ (by decide) (by decide)))
 (ds_one (ds_expr (de_call (ok_copy_ends T) hr (by decide) (by rfl) tk (da_cons (de_var 1) (da_cons (de_var 2) da_nil)) (.inr trivial))))
 (ds_one (ds_if (dt_cmp (op_eqD (hu_64 hr)) ad_eq (de_var 0) de_int (nobehind _ (by decide) (by decide)))
 (ds_one (ds_expr (de_call (ok_copy_ring T) hr (by decide) (by rfl) tk (da_cons (de_var 1) (da_cons (de_var 2) da_nil)) (.inr trivial))))
 (ds_one (ds_expr (de_call (ok_takes_copy_ring T) hr (by decide) (by rfl) tk (da_cons (de_var 1) (da_cons (de_var 2) (da_cons (de_tup da_nil) da_nil))) (.inr trivial)))))))))
 (fun a oe pn => (ds_one (ds_ret de_bl))))
 (ds_one (ds_ret de_bl)))
theorem ok_law (T : Tp K mg) {f : Addr} {fd : FuncData} (Fn : Fun K "law" "law" s_law f fd) (hb : ∀ g : G, -1 ≤ g.at_ → ∃ g', b_law ((List.replicate 20 none).set 1 (some (.val .draw))) g = .ret (.bl true) g') : FnOk P w K mg base (L2.CX P w) 7 f fd ["script"] (spLaw K) :=
  okLaw (N := ["script", "draw", "turn", "table", "n", "crowd", "there", "left", "size", "told", "tries", "walk", "k", "more", "value", "wrong", "bad", "other", "after", "which"]) (b := b_law) Fn sc_law (by decide) hb fun cdv A outer s H E hr =>
  pss_cons (ps_set (i := 1) sc_law.nd rfl (by first | exact .inl rfl | exact .inr rfl) (pe_drawn (ok__law_draw T) hr (by decide) (by rfl) (takes_of rfl rfl rfl rfl) rfl (by first | exact .inl rfl | exact .inr (.inl rfl))))
 (ds_cons (ds_forR (passes_of rfl) rfl (di_range1 (by rfl) T.n_range (da_cons de_int da_nil)) (tg_nm (i := 2) sc_law.nd rfl (by first | exact .inl rfl | exact .inr rfl))
 (ds_cons (ds_set (i := 3) sc_law.nd rfl (by first | exact .inl rfl | exact .inr rfl) (dx_of (de_call (ok__law_table T) hr (by decide) (by rfl) (takes_of rfl rfl rfl rfl) (da_cons (de_var 1) da_nil) (.inr trivial))))
 (ds_cons (ds_set (i := 4) sc_law.nd rfl (by first | exact .inl rfl | exact .inr rfl) (dx_of (dr_callB bkE call_len ad_len (by rfl) T.n_len (by decide +kernel) (da_cons (de_var 3) da_nil))))
 (ds_cons (ds_set (i := 5) sc_law.nd rfl (by first | exact .inl rfl | exact .inr rfl) (dx_of (de_call (ok__law_crowd T) hr (by decide) (by rfl) (takes_of rfl rfl rfl rfl) (da_cons (de_var 1) (da_cons (de_var 4) da_nil)) (.inr trivial))))
 (ds_cons (ds_set (i := 6) sc_law.nd rfl (by first | exact .inl rfl | exact .inr rfl) (dx_of (de_call (ok__law_spread T) hr (by decide) (by rfl) (takes_of rfl rfl rfl rfl) (da_cons (de_var 3) (da_cons (de_var 5) da_nil)) (.inr trivial))))
 (ds_cons (ds_if (dt_cmp (op_neD (hu_64 hr)) ad_ne (de_call (ok_copy_ends T) hr (by decide) (by rfl) (takes_of rfl rfl rfl rfl) (da_cons (de_var 3) (da_cons (de_var 5) da_nil)) (.inr trivial)) (dr_callTy bkE call_tupN ad_tupOf (by rfl) T.n_tuple (by decide +kernel) (da_cons (xE (dr_callB bkX (cr_sortA (hu64 hr)) ad_sort (by rfl) T.n_sorted (by decide +kernel) (da_cons (xE (dx_comp rfl sc_law.nd (own := [("other", 17)]) (B := [3]) (blkOk_by (by rfl)) (by decide) (by decide) (di_seq (de_var 6)) (fun s H C cl fp => (tg_nm (i := 17) sc_law.nd rfl (by first | exact .inl rfl | exact .inr rfl))) (fun s H C cl fp => (dts_one (dt_cmp (op_eqD (hu_64 hr)) ad_eq (de_call (ok__law_copies T) hr (by decide) (by rfl) takes0 (da_cons (de_var 3) (da_cons (de_var 17) da_nil)) (.inr trivial)) (xE (dx_lst da_nil)) (nobehind _ (by decide) (by decide))))) (fun s H C cl fp => (de_var 17)))) da_nil))) da_nil)) (nobehind _ (by decide) (by decide)))
 (ds_one (ds_ret de_bl))
 ds_nil)
 (ds_cons (ds_parT rfl (by decide) (tgs_cons (i := 7) sc_law.nd rfl (by first | exact .inl rfl | exact .inr rfl) (tgs_cons (i := 8) sc_law.nd rfl (by first | exact .inl rfl | exact .inr rfl) tgs_nil)) (dax_cons (dr_callTy bkX call_list_of ad_lstOf (by rfl) T.n_list (by decide +kernel) (da_cons (de_var 6) da_nil)) (dax_cons (dx_of (dr_un bkE un_neg ad_neg de_int)) dax_nil)))
 (ds_cons (ds_while 100 (passes_of rfl) (dt_cmp (op_neD (hu_64 hr)) ad_ne (de_var 8) (dr_callB bkE call_len ad_len (by rfl) T.n_len (by decide +kernel) (da_cons (de_var 7) da_nil)) (nobehind _ (by decide) (by decide)))
 (ds_cons (ds_set (i := 8) sc_law.nd rfl (by first | exact .inl rfl | exact .inr rfl) (dx_of (dr_callB bkE call_len ad_len (by rfl) T.n_len (by decide +kernel) (da_cons (de_var 7) da_nil))))
 (ds_one (ds_set (i := 7) sc_law.nd rfl (by first | exact .inl rfl | exact .inr rfl) (dx_comp rfl sc_law.nd (own := [("other", 17)]) (B := [3, 7]) (blkOk_by (by rfl)) (by decide) (by decide) (di_seq (de_var 7)) (fun s H C cl fp => (tg_nm (i := 17) sc_law.nd rfl (by first | exact .inl rfl | exact .inr rfl))) (fun s H C cl fp => (dts_one (dt_tru (dr_callB bkE (cr_any rfl) ad_any (by rfl) T.n_any (by decide +kernel) (da_cons (xE (dx_comp rfl sc_law.nd (own := [("after", 18)]) (B := [7]) (blkOk_by (by rfl)) (by decide) (by decide) (di_seq (de_call (ok__law_copies T) hr (by decide) (by rfl) takes0 (da_cons (de_var 3) (da_cons (de_var 17) da_nil)) (.inr trivial))) (fun s H C cl fp => (tg_nm (i := 18) sc_law.nd rfl (by first | exact .inl rfl | exact .inr rfl))) (fun s H C cl fp => dts_nil) (fun s H C cl fp => (dr_cmp bkE (op_inA (hu_65 hr)) ad_in (de_var 18) (de_var 7) (by rfl))))) da_nil))))) (fun s H C cl fp => (de_var 17)))))))
 (ds_cons (ds_set (i := 9) sc_law.nd rfl (by first | exact .inl rfl | exact .inr rfl) (dx_of (de_call (ok_copy_ring T) hr (by decide) (by rfl) (takes_of rfl rfl rfl rfl) (da_cons (de_var 3) (da_cons (de_var 5) da_nil)) (.inr trivial))))
 (ds_cons (ds_if (PW.pt (dw_or (dt_cmp (op_neD (hu_64 hr)) ad_ne (dr_cmp bkE op_notN ad_notN (de_var 9) de_non (nobehind _ (by decide) (by decide))) (dr_cmp bkE (op_neD (hu_64 hr)) ad_ne (de_var 7) (xE (dx_lst da_nil)) (nobehind _ (by decide) (by decide))) (nobehind _ (by decide) (by decide))) (dw_or1 (PW.pt (dw_and (dt_cmp op_notN ad_notN (de_var 9) de_non (nobehind _ (by decide) (by decide))) (dw_and1 (dt_not (dt_tru (de_call (ok__law_ring T) hr (by decide) (by rfl) (takes_of rfl rfl rfl rfl) (da_cons (de_var 3) (da_cons (de_var 5) (da_cons (de_var 9) da_nil))) (.inr trivial))))))))))
 (ds_one (ds_ret de_bl))
 ds_nil)
 (ds_cons (ds_set (i := 10) sc_law.nd rfl (by first | exact .inl rfl | exact .inr rfl) (dx_lst (da_cons (xE (dx_slice (de_var 6) (do_some de_int) (do_some de_int))) (da_cons (dr_callTy bkE call_tupN ad_tupOf (by rfl) T.n_tuple (by decide +kernel) (da_cons (xE (dx_slice (de_var 6) do_none (do_some de_int))) da_nil)) (da_cons (de_tup (da_cons (de_var 5) da_nil)) (da_cons (de_tup (da_cons (de_var 5) (da_cons (de_var 5) da_nil))) (da_cons (de_tup da_nil) (da_cons de_non (da_cons de_int (da_cons (dr_callTy bkE call_tupN ad_tupOf (by rfl) T.n_tuple (by decide +kernel) (da_cons (xE (dx_slice (de_var 6) do_none (do_some de_int))) da_nil)) da_nil))))))))))
 (ds_cons (ds_if (dt_cmp op_notN ad_notN (de_var 9) de_non (nobehind _ (by decide) (by decide)))
 (ds_one (ds_set (i := 10) sc_law.nd rfl (by first | exact .inl rfl | exact .inr rfl) (dr_op bkX op_addAll ad_add (de_var 10) (xE (dx_lst (da_cons (de_var 9) (da_cons (xE (dr_op bkX op_addAll ad_add (xE (dx_slice (de_var 9) (do_some de_int) do_none)) (xE (dx_slice (de_var 9) do_none (do_some de_int))))) (da_cons (de_rev (de_var 9)) (da_cons (xE (dr_callTy bkX call_list_of ad_lstOf (by rfl) T.n_list (by decide +kernel) (da_cons (de_var 9) da_nil))) (da_cons (xE (dr_op bkX op_addAll ad_add (de_var 9) (xE (dx_slice (de_var 9) do_none (do_some de_int))))) (da_cons (xE (dx_slice (de_var 9) (do_some de_int) do_none)) (da_cons (xE (dr_op bkX op_addAll ad_add (xE (dx_slice (de_var 9) do_none (do_some (dr_un bkE un_neg ad_neg de_int)))) (de_tup (da_cons (xE (dr_callTy bkX call_list_of ad_lstOf (by rfl) T.n_list (by decide +kernel) (da_cons (dr_ix bkE ix_seq ad_idx (de_var 9) (dr_un bkE un_neg ad_neg de_int) (fun _ _ => rfl)) da_nil))) da_nil)))) (da_cons (xE (dr_op bkX op_addAll ad_add (xE (dx_slice (de_var 9) do_none (do_some (dr_un bkE un_neg ad_neg de_int)))) (de_tup (da_cons (dr_op bkE op_mulT ad_mulT (de_tup (da_cons de_int da_nil)) (de_var 4)) da_nil)))) da_nil)))))))))))))
 ds_nil)
 (ds_cons (ds_set (i := 11) sc_law.nd rfl (by first | exact .inl rfl | exact .inr rfl) (dx_lst (da_cons (de_var 5) da_nil)))
 (ds_cons (ds_forR (passes_of rfl) rfl (di_range1 (by rfl) T.n_range (da_cons de_int da_nil)) (tg_nm (i := 12) sc_law.nd rfl (by first | exact .inl rfl | exact .inr rfl))
 (ds_cons (ds_set (i := 13) sc_law.nd rfl (by first | exact .inl rfl | exact .inr rfl) (dx_of (de_call (ok__law_copies T) hr (by decide) (by rfl) (takes_of rfl rfl rfl rfl) (da_cons (de_var 3) (da_cons (dr_ix bkE ix_seq ad_idx (de_var 11) (dr_un bkE un_neg ad_neg de_int) (fun _ _ => rfl)) da_nil)) (.inr trivial))))
 (ds_one (ds_set (i := 11) sc_law.nd rfl (by first | exact .inl rfl | exact .inr rfl) (dr_if bkX (dt_cmp (op_neD (hu_64 hr)) ad_ne (de_var 13) (xE (dx_lst da_nil)) (nobehind _ (by decide) (by decide))) (dr_op bkX op_addAll ad_add (de_var 11) (xE (dx_lst (da_cons (dr_ix bkE ix_seq ad_idx (de_var 13) (de_call (ok__law_take T) hr (by decide) (by rfl) (takes_of rfl rfl rfl rfl) (da_cons (de_var 1) (da_cons (dr_callB bkE call_len ad_len (by rfl) T.n_len (by decide +kernel) (da_cons (de_var 13) da_nil)) da_nil)) (.inr trivial)) (fun _ _ => rfl)) da_nil)))) (dx_of (de_var 11)))))))
 (ds_one (ds_for (passes_of rfl) rfl (di_seq (xE (dr_op bkX op_addAll ad_add (de_var 10) (xE (dx_lst (da_cons (dr_callTy bkE call_tupN ad_tupOf (by rfl) T.n_tuple (by decide +kernel) (da_cons (de_var 11) da_nil)) (da_cons (dr_callTy bkE call_tupN ad_tupOf (by rfl) T.n_tuple (by decide +kernel) (da_cons (xE (dx_slice (de_var 11) (do_some (dr_un bkE un_neg ad_neg de_int)) do_none)) da_nil)) da_nil))))))) (tg_nm (i := 14) sc_law.nd rfl (by first | exact .inl rfl | exact .inr rfl))
 (ds_one (ds_if (dt_not (dt_tru (de_call (ok__law_says T) hr (by decide) (by rfl) (takes_of rfl rfl rfl rfl) (da_cons (de_call (ok_takes_copy_ring T) hr (by decide) (by rfl) (takes_of rfl rfl rfl rfl) (da_cons (de_var 3) (da_cons (de_var 5) (da_cons (de_var 14) da_nil))) (.inr trivial)) (da_cons (de_call (ok__law_ring T) hr (by decide) (by rfl) (takes_of rfl rfl rfl rfl) (da_cons (de_var 3) (da_cons (de_var 5) (da_cons (de_var 14) da_nil))) (.inr trivial)) da_nil)) (.inr trivial))))
 (ds_one (ds_ret de_bl))
 ds_nil))))))))))))))))))
 (ds_cons (ds_parT rfl (by decide) (tgs_cons (i := 15) sc_law.nd rfl (by first | exact .inl rfl | exact .inr rfl) (tgs_cons (i := 16) sc_law.nd rfl (by first | exact .inl rfl | exact .inr rfl) tgs_nil)) (dax_cons (dx_of (de_call (ok__law_bad_table T) hr (by decide) (by rfl) (takes_of rfl rfl rfl rfl) (da_cons (de_var 1) (da_cons (de_var 3) da_nil)) (.inr trivial))) (dax_cons (dx_of (de_call (ok__law_bad_crowd T) hr (by decide) (by rfl) (takes_of rfl rfl rfl rfl) (da_cons (de_var 1) (da_cons (de_var 3) (da_cons (de_var 5) da_nil))) (.inr trivial))) dax_nil)))
 (ds_cons (ds_if (PW.pt (dw_and (dt_not (dt_tru (de_call (ok__law_crowd_right T) hr (by decide) (by rfl) (takes_of rfl rfl rfl rfl) (da_cons (de_var 3) (da_cons (de_var 16) da_nil)) (.inr trivial)))) (dw_and1 (dt_not (dt_tru (dr_callB bkE (cr_all rfl) ad_all (by rfl) T.n_all (by decide +kernel) (da_cons (xE (dx_comp rfl sc_law.nd (own := [("which", 19)]) (B := [3, 16]) (blkOk_by (by rfl)) (by decide) (by decide) (di_R (di_range1 (by rfl) T.n_range (da_cons de_int da_nil))) (fun s H C cl fp => (tg_nm (i := 19) sc_law.nd rfl (by first | exact .inl rfl | exact .inr rfl))) (fun s H C cl fp => dts_nil) (fun s H C cl fp => (de_call (ok__law_falls T) hr (by decide) (by rfl) takes0 (da_cons (de_var 19) (da_cons (de_var 3) (da_cons (de_var 16) da_nil))) (.inr trivial))))) da_nil)))))))
 (ds_one (ds_ret de_bl))
 ds_nil)
 (ds_one (ds_ret (dr_callB bkE (cr_all rfl) ad_all (by rfl) T.n_all (by decide +kernel) (da_cons (xE (dx_comp rfl sc_law.nd (own := [("which", 19)]) (B := [5, 15]) (blkOk_by (by rfl)) (by decide) (by decide) (di_R (di_range1 (by rfl) T.n_range (da_cons de_int da_nil))) (fun s H C cl fp => (tg_nm (i := 19) sc_law.nd rfl (by first | exact .inl rfl | exact .inr rfl))) (fun s H C cl fp => dts_nil) (fun s H C cl fp => (de_call (ok__law_falls T) hr (by decide) (by rfl) takes0 (da_cons (de_var 19) (da_cons (de_var 15) (da_cons (de_var 5) da_nil))) (.inr trivial))))) da_nil)))))))
end

theorem cx_no : ∀ (w : World) (H : Hp) (s : Shared) (e : Value) (s' : Shared), L2.CX PySem.Challenge.pw_gamekinds_k78_whole_where_copying_leads w [] H s (fun _ _ _ => False) e s' → False := fun _ _ _ _ _ h => by
  obtain ⟨_, _, _, _, _, _, _, _, _, _, _, _, z⟩ := h
  exact z.elim
theorem top_mk {K : PySem.W.Frag} {h : Heap} {mg : Str → Option Value} (I : K.In h) (G : h.Ns mainGlobals mg) {f0 : Addr} {oc0 kV0 dc0 pm0 cd0 ct0 : Value} {od0 an0 : Option Addr} {sl0 : Array (Option Value)} {f1 : Addr} {oc1 kV1 dc1 pm1 cd1 ct1 : Value} {od1 an1 : Option Addr} {sl1 : Array (Option Value)} {f2 : Addr} {oc2 kV2 dc2 pm2 cd2 ct2 : Value} {od2 an2 : Option Addr} {sl2 : Array (Option Value)} {f3 : Addr} {oc3 kV3 dc3 pm3 cd3 ct3 : Value} {od3 an3 : Option Addr} {sl3 : Array (Option Value)} {f4 : Addr} {oc4 kV4 dc4 pm4 cd4 ct4 : Value} {od4 an4 : Option Addr} {sl4 : Array (Option Value)} {f5 : Addr} {oc5 kV5 dc5 pm5 cd5 ct5 : Value} {od5 an5 : Option Addr} {sl5 : Array (Option Value)} {f6 : Addr} {oc6 kV6 dc6 pm6 cd6 ct6 : Value} {od6 an6 : Option Addr} {sl6 : Array (Option Value)} {f7 : Addr} {oc7 kV7 dc7 pm7 cd7 ct7 : Value} {od7 an7 : Option Addr} {sl7 : Array (Option Value)} {f8 : Addr} {oc8 kV8 dc8 pm8 cd8 ct8 : Value} {od8 an8 : Option Addr} {sl8 : Array (Option Value)} {f9 : Addr} {oc9 kV9 dc9 pm9 cd9 ct9 : Value} {od9 an9 : Option Addr} {sl9 : Array (Option Value)} {f10 : Addr} {oc10 kV10 dc10 pm10 cd10 ct10 : Value} {od10 an10 : Option Addr} {sl10 : Array (Option Value)} {f11 : Addr} {oc11 kV11 dc11 pm11 cd11 ct11 : Value} {od11 an11 : Option Addr} {sl11 : Array (Option Value)} {f12 : Addr} {oc12 kV12 dc12 pm12 cd12 ct12 : Value} {od12 an12 : Option Addr} {sl12 : Array (Option Value)} {f13 : Addr} {oc13 kV13 dc13 pm13 cd13 ct13 : Value} {od13 an13 : Option Addr} {sl13 : Array (Option Value)} {f14 : Addr} {oc14 kV14 dc14 pm14 cd14 ct14 : Value} {od14 an14 : Option Addr} {sl14 : Array (Option Value)} {f15 : Addr} {oc15 kV15 dc15 pm15 cd15 ct15 : Value} {od15 an15 : Option Addr} {sl15 : Array (Option Value)} {f16 : Addr} {oc16 kV16 dc16 pm16 cd16 ct16 : Value} {od16 an16 : Option Addr} {sl16 : Array (Option Value)} {f17 : Addr} {oc17 kV17 dc17 pm17 cd17 ct17 : Value} {od17 an17 : Option Addr} {sl17 : Array (Option Value)} {f18 : Addr} {oc18 kV18 dc18 pm18 cd18 ct18 : Value} {od18 an18 : Option Addr} {sl18 : Array (Option Value)} {f19 : Addr} {oc19 kV19 dc19 pm19 cd19 ct19 : Value} {od19 an19 : Option Addr} {sl19 : Array (Option Value)} {f20 : Addr} {oc20 kV20 dc20 pm20 cd20 ct20 : Value} {od20 an20 : Option Addr} {sl20 : Array (Option Value)} {f21 : Addr} {oc21 kV21 dc21 pm21 cd21 ct21 : Value} {od21 an21 : Option Addr} {sl21 : Array (Option Value)} {f22 : Addr} {oc22 kV22 dc22 pm22 cd22 ct22 : Value} {od22 an22 : Option Addr} {sl22 : Array (Option Value)} {f23 : Addr} {oc23 kV23 dc23 pm23 cd23 ct23 : Value} {od23 an23 : Option Addr} {sl23 : Array (Option Value)} {f24 : Addr} {oc24 kV24 dc24 pm24 cd24 ct24 : Value} {od24 an24 : Option Addr} {sl24 : Array (Option Value)} {f25 : Addr} {oc25 kV25 dc25 pm25 cd25 ct25 : Value} {od25 an25 : Option Addr} {sl25 : Array (Option Value)} {f26 : Addr} {oc26 kV26 dc26 pm26 cd26 ct26 : Value} {od26 an26 : Option Addr} {sl26 : Array (Option Value)} {f27 : Addr} {oc27 kV27 dc27 pm27 cd27 ct27 : Value} {od27 an27 : Option Addr} {sl27 : Array (Option Value)} {f28 : Addr} {oc28 kV28 dc28 pm28 cd28 ct28 : Value} {od28 an28 : Option Addr} {sl28 : Array (Option Value)} {t1 : Tok} {t2 : Tok} {t3 : Tok} {C_Malformed : Addr}
    (h1 : PySem.W.nsIn K mainGlobals "abs" = some none)
    (h2 : PySem.W.nsIn K mainGlobals "all" = some none)
    (h3 : PySem.W.nsIn K mainGlobals "any" = some none)
    (h4 : PySem.W.nsIn K mainGlobals "bool" = some none)
    (h5 : PySem.W.nsIn K mainGlobals "enumerate" = some none)
    (h6 : PySem.W.nsIn K mainGlobals "int" = some none)
    (h7 : PySem.W.nsIn K mainGlobals "isinstance" = some none)
    (h8 : PySem.W.nsIn K mainGlobals "len" = some none)
    (h9 : PySem.W.nsIn K mainGlobals "list" = some none)
    (h10 : PySem.W.nsIn K mainGlobals "max" = some none)
    (h11 : PySem.W.nsIn K mainGlobals "min" = some none)
    (h12 : PySem.W.nsIn K mainGlobals "range" = some none)
    (h13 : PySem.W.nsIn K mainGlobals "set" = some none)
    (h14 : PySem.W.nsIn K mainGlobals "sorted" = some none)
    (h15 : PySem.W.nsIn K mainGlobals "sum" = some none)
    (h16 : PySem.W.nsIn K mainGlobals "tuple" = some none)
    (h17 : PySem.W.nsIn K mainGlobals "zip" = some none)
    (h18 : PySem.W.nsIn K mainGlobals "_law_draw" = some (some (.ref f0)))
    (h19 : K.lookup f0 = some ⟨oc0, od0, .func (PySem.W.fnOf "_law_draw" "_law_draw" (defArgs s__law_draw) (defBody s__law_draw) (defScope s__law_draw) .none kV0 dc0 pm0 an0 cd0 ct0), sl0⟩)
    (h20 : PySem.W.codeIn K cd0 "_law_draw" = true)
    (h21 : PySem.W.keepIn K (.ref f0) = true)
    (h22 : PySem.W.nsIn K mainGlobals "_law_take" = some (some (.ref f1)))
    (h23 : K.lookup f1 = some ⟨oc1, od1, .func (PySem.W.fnOf "_law_take" "_law_take" (defArgs s__law_take) (defBody s__law_take) (defScope s__law_take) .none kV1 dc1 pm1 an1 cd1 ct1), sl1⟩)
    (h24 : PySem.W.codeIn K cd1 "_law_take" = true)
    (h25 : PySem.W.keepIn K (.ref f1) = true)
    (h26 : PySem.W.nsIn K mainGlobals "_law_table" = some (some (.ref f2)))
    (h27 : K.lookup f2 = some ⟨oc2, od2, .func (PySem.W.fnOf "_law_table" "_law_table" (defArgs s__law_table) (defBody s__law_table) (defScope s__law_table) .none kV2 dc2 pm2 an2 cd2 ct2), sl2⟩)
    (h28 : PySem.W.codeIn K cd2 "_law_table" = true)
    (h29 : PySem.W.keepIn K (.ref f2) = true)
    (h30 : PySem.W.nsIn K mainGlobals "_law_crowd" = some (some (.ref f3)))
    (h31 : K.lookup f3 = some ⟨oc3, od3, .func (PySem.W.fnOf "_law_crowd" "_law_crowd" (defArgs s__law_crowd) (defBody s__law_crowd) (defScope s__law_crowd) .none kV3 dc3 pm3 an3 cd3 ct3), sl3⟩)
    (h32 : PySem.W.codeIn K cd3 "_law_crowd" = true)
    (h33 : PySem.W.keepIn K (.ref f3) = true)
    (h34 : PySem.W.nsIn K mainGlobals "_law_sum" = some (some (.ref f4)))
    (h35 : K.lookup f4 = some ⟨oc4, od4, .func (PySem.W.fnOf "_law_sum" "_law_sum" (defArgs s__law_sum) (defBody s__law_sum) (defScope s__law_sum) .none kV4 dc4 pm4 an4 cd4 ct4), sl4⟩)
    (h36 : PySem.W.codeIn K cd4 "_law_sum" = true)
    (h37 : PySem.W.keepIn K (.ref f4) = true)
    (h38 : PySem.W.nsIn K mainGlobals "_law_other" = some (some (.ref f5)))
    (h39 : K.lookup f5 = some ⟨oc5, od5, .func (PySem.W.fnOf "_law_other" "_law_other" (defArgs s__law_other) (defBody s__law_other) (defScope s__law_other) .none kV5 dc5 pm5 an5 cd5 ct5), sl5⟩)
    (h40 : PySem.W.codeIn K cd5 "_law_other" = true)
    (h41 : PySem.W.keepIn K (.ref f5) = true)
    (h42 : PySem.W.nsIn K mainGlobals "_law_copies" = some (some (.ref f6)))
    (h43 : K.lookup f6 = some ⟨oc6, od6, .func (PySem.W.fnOf "_law_copies" "_law_copies" (defArgs s__law_copies) (defBody s__law_copies) (defScope s__law_copies) .none kV6 dc6 pm6 an6 cd6 ct6), sl6⟩)
    (h44 : PySem.W.codeIn K cd6 "_law_copies" = true)
    (h45 : PySem.W.keepIn K (.ref f6) = true)
    (h46 : PySem.W.nsIn K mainGlobals "_law_spread" = some (some (.ref f7)))
    (h47 : K.lookup f7 = some ⟨oc7, od7, .func (PySem.W.fnOf "_law_spread" "_law_spread" (defArgs s__law_spread) (defBody s__law_spread) (defScope s__law_spread) .none kV7 dc7 pm7 an7 cd7 ct7), sl7⟩)
    (h48 : PySem.W.codeIn K cd7 "_law_spread" = true)
    (h49 : PySem.W.keepIn K (.ref f7) = true)
    (h50 : PySem.W.nsIn K mainGlobals "is_whole" = some (some (.ref f8)))
    (h51 : K.lookup f8 = some ⟨oc8, od8, .func (PySem.W.fnOf "is_whole" "is_whole" (defArgs s_is_whole) (defBody s_is_whole) (defScope s_is_whole) .none kV8 dc8 pm8 an8 cd8 ct8), sl8⟩)
    (h52 : PySem.W.codeIn K cd8 "is_whole" = true)
    (h53 : PySem.W.keepIn K (.ref f8) = true)
    (h54 : PySem.W.nsIn K mainGlobals "is_table" = some (some (.ref f9)))
    (h55 : K.lookup f9 = some ⟨oc9, od9, .func (PySem.W.fnOf "is_table" "is_table" (defArgs s_is_table) (defBody s_is_table) (defScope s_is_table) .none kV9 dc9 pm9 an9 cd9 ct9), sl9⟩)
    (h56 : PySem.W.codeIn K cd9 "is_table" = true)
    (h57 : PySem.W.keepIn K (.ref f9) = true)
    (h58 : PySem.W.nsIn K mainGlobals "is_square" = some (some (.ref f10)))
    (h59 : K.lookup f10 = some ⟨oc10, od10, .func (PySem.W.fnOf "is_square" "is_square" (defArgs s_is_square) (defBody s_is_square) (defScope s_is_square) .none kV10 dc10 pm10 an10 cd10 ct10), sl10⟩)
    (h60 : PySem.W.codeIn K cd10 "is_square" = true)
    (h61 : PySem.W.keepIn K (.ref f10) = true)
    (h62 : PySem.W.nsIn K mainGlobals "check_square" = some (some (.ref f11)))
    (h63 : K.lookup f11 = some ⟨oc11, od11, .func (PySem.W.fnOf "check_square" "check_square" (defArgs s_check_square) (defBody s_check_square) (defScope s_check_square) .none kV11 dc11 pm11 an11 cd11 ct11), sl11⟩)
    (h64 : PySem.W.codeIn K cd11 "check_square" = true)
    (h65 : PySem.W.keepIn K (.ref f11) = true)
    (h66 : PySem.W.nsIn K mainGlobals "is_crowd" = some (some (.ref f12)))
    (h67 : K.lookup f12 = some ⟨oc12, od12, .func (PySem.W.fnOf "is_crowd" "is_crowd" (defArgs s_is_crowd) (defBody s_is_crowd) (defScope s_is_crowd) .none kV12 dc12 pm12 an12 cd12 ct12), sl12⟩)
    (h68 : PySem.W.codeIn K cd12 "is_crowd" = true)
    (h69 : PySem.W.keepIn K (.ref f12) = true)
    (h70 : PySem.W.nsIn K mainGlobals "check_crowd" = some (some (.ref f13)))
    (h71 : K.lookup f13 = some ⟨oc13, od13, .func (PySem.W.fnOf "check_crowd" "check_crowd" (defArgs s_check_crowd) (defBody s_check_crowd) (defScope s_check_crowd) .none kV13 dc13 pm13 an13 cd13 ct13), sl13⟩)
    (h72 : PySem.W.codeIn K cd13 "check_crowd" = true)
    (h73 : PySem.W.keepIn K (.ref f13) = true)
    (h74 : PySem.W.nsIn K mainGlobals "held" = some (some (.ref f14)))
    (h75 : K.lookup f14 = some ⟨oc14, od14, .func (PySem.W.fnOf "held" "held" (defArgs s_held) (defBody s_held) (defScope s_held) .none kV14 dc14 pm14 an14 cd14 ct14), sl14⟩)
    (h76 : PySem.W.codeIn K cd14 "held" = true)
    (h77 : PySem.W.keepIn K (.ref f14) = true)
    (h78 : PySem.W.nsIn K mainGlobals "sum_for" = some (some (.ref f15)))
    (h79 : K.lookup f15 = some ⟨oc15, od15, .func (PySem.W.fnOf "sum_for" "sum_for" (defArgs s_sum_for) (defBody s_sum_for) (defScope s_sum_for) .none kV15 dc15 pm15 an15 cd15 ct15), sl15⟩)
    (h80 : PySem.W.codeIn K cd15 "sum_for" = true)
    (h81 : PySem.W.keepIn K (.ref f15) = true)
    (h82 : PySem.W.nsIn K mainGlobals "moved" = some (some (.ref f16)))
    (h83 : K.lookup f16 = some ⟨oc16, od16, .func (PySem.W.fnOf "moved" "moved" (defArgs s_moved) (defBody s_moved) (defScope s_moved) .none kV16 dc16 pm16 an16 cd16 ct16), sl16⟩)
    (h84 : PySem.W.codeIn K cd16 "moved" = true)
    (h85 : PySem.W.keepIn K (.ref f16) = true)
    (h86 : PySem.W.nsIn K mainGlobals "copies_of" = some (some (.ref f17)))
    (h87 : K.lookup f17 = some ⟨oc17, od17, .func (PySem.W.fnOf "copies_of" "copies_of" (defArgs s_copies_of) (defBody s_copies_of) (defScope s_copies_of) .none kV17 dc17 pm17 an17 cd17 ct17), sl17⟩)
    (h88 : PySem.W.codeIn K cd17 "copies_of" = true)
    (h89 : PySem.W.keepIn K (.ref f17) = true)
    (h90 : PySem.W.nsIn K mainGlobals "reached_by" = some (some (.ref f18)))
    (h91 : K.lookup f18 = some ⟨oc18, od18, .func (PySem.W.fnOf "reached_by" "reached_by" (defArgs s_reached_by) (defBody s_reached_by) (defScope s_reached_by) .none kV18 dc18 pm18 an18 cd18 ct18), sl18⟩)
    (h92 : PySem.W.codeIn K cd18 "reached_by" = true)
    (h93 : PySem.W.keepIn K (.ref f18) = true)
    (h94 : PySem.W.nsIn K mainGlobals "copy_ends" = some (some (.ref f19)))
    (h95 : K.lookup f19 = some ⟨oc19, od19, .func (PySem.W.fnOf "copy_ends" "copy_ends" (defArgs s_copy_ends) (defBody s_copy_ends) (defScope s_copy_ends) .none kV19 dc19 pm19 an19 cd19 ct19), sl19⟩)
    (h96 : PySem.W.codeIn K cd19 "copy_ends" = true)
    (h97 : PySem.W.keepIn K (.ref f19) = true)
    (h98 : PySem.W.nsIn K mainGlobals "copy_ring" = some (some (.ref f20)))
    (h99 : K.lookup f20 = some ⟨oc20, od20, .func (PySem.W.fnOf "copy_ring" "copy_ring" (defArgs s_copy_ring) (defBody s_copy_ring) (defScope s_copy_ring) .none kV20 dc20 pm20 an20 cd20 ct20), sl20⟩)
    (h100 : PySem.W.codeIn K cd20 "copy_ring" = true)
    (h101 : PySem.W.keepIn K (.ref f20) = true)
    (h102 : PySem.W.nsIn K mainGlobals "_law_crowd_right" = some (some (.ref f21)))
    (h103 : K.lookup f21 = some ⟨oc21, od21, .func (PySem.W.fnOf "_law_crowd_right" "_law_crowd_right" (defArgs s__law_crowd_right) (defBody s__law_crowd_right) (defScope s__law_crowd_right) .none kV21 dc21 pm21 an21 cd21 ct21), sl21⟩)
    (h104 : PySem.W.codeIn K cd21 "_law_crowd_right" = true)
    (h105 : PySem.W.keepIn K (.ref f21) = true)
    (h106 : PySem.W.nsIn K mainGlobals "_law_ring" = some (some (.ref f22)))
    (h107 : K.lookup f22 = some ⟨oc22, od22, .func (PySem.W.fnOf "_law_ring" "_law_ring" (defArgs s__law_ring) (defBody s__law_ring) (defScope s__law_ring) .none kV22 dc22 pm22 an22 cd22 ct22), sl22⟩)
    (h108 : PySem.W.codeIn K cd22 "_law_ring" = true)
    (h109 : PySem.W.keepIn K (.ref f22) = true)
    (h110 : PySem.W.nsIn K mainGlobals "_law_says" = some (some (.ref f23)))
    (h111 : K.lookup f23 = some ⟨oc23, od23, .func (PySem.W.fnOf "_law_says" "_law_says" (defArgs s__law_says) (defBody s__law_says) (defScope s__law_says) .none kV23 dc23 pm23 an23 cd23 ct23), sl23⟩)
    (h112 : PySem.W.codeIn K cd23 "_law_says" = true)
    (h113 : PySem.W.keepIn K (.ref f23) = true)
    (h114 : PySem.W.nsIn K mainGlobals "takes_copy_ring" = some (some (.ref f24)))
    (h115 : K.lookup f24 = some ⟨oc24, od24, .func (PySem.W.fnOf "takes_copy_ring" "takes_copy_ring" (defArgs s_takes_copy_ring) (defBody s_takes_copy_ring) (defScope s_takes_copy_ring) .none kV24 dc24 pm24 an24 cd24 ct24), sl24⟩)
    (h116 : PySem.W.codeIn K cd24 "takes_copy_ring" = true)
    (h117 : PySem.W.keepIn K (.ref f24) = true)
    (h118 : PySem.W.nsIn K mainGlobals "_law_bad_table" = some (some (.ref f25)))
    (h119 : K.lookup f25 = some ⟨oc25, od25, .func (PySem.W.fnOf "_law_bad_table" "_law_bad_table" (defArgs s__law_bad_table) (defBody s__law_bad_table) (defScope s__law_bad_table) .none kV25 dc25 pm25 an25 cd25 ct25), sl25⟩)
    (h120 : PySem.W.codeIn K cd25 "_law_bad_table" = true)
    (h121 : PySem.W.keepIn K (.ref f25) = true)
    (h122 : PySem.W.nsIn K mainGlobals "_law_bad_crowd" = some (some (.ref f26)))
    (h123 : K.lookup f26 = some ⟨oc26, od26, .func (PySem.W.fnOf "_law_bad_crowd" "_law_bad_crowd" (defArgs s__law_bad_crowd) (defBody s__law_bad_crowd) (defScope s__law_bad_crowd) .none kV26 dc26 pm26 an26 cd26 ct26), sl26⟩)
    (h124 : PySem.W.codeIn K cd26 "_law_bad_crowd" = true)
    (h125 : PySem.W.keepIn K (.ref f26) = true)
    (h126 : PySem.W.nsIn K mainGlobals "_law_falls" = some (some (.ref f27)))
    (h127 : K.lookup f27 = some ⟨oc27, od27, .func (PySem.W.fnOf "_law_falls" "_law_falls" (defArgs s__law_falls) (defBody s__law_falls) (defScope s__law_falls) .none kV27 dc27 pm27 an27 cd27 ct27), sl27⟩)
    (h128 : PySem.W.codeIn K cd27 "_law_falls" = true)
    (h129 : PySem.W.keepIn K (.ref f27) = true)
    (h130 : PySem.W.nsIn K mainGlobals "law" = some (some (.ref f28)))
    (h131 : K.lookup f28 = some ⟨oc28, od28, .func (PySem.W.fnOf "law" "law" (defArgs s_law) (defBody s_law) (defScope s_law) .none kV28 dc28 pm28 an28 cd28 ct28), sl28⟩)
    (h132 : PySem.W.codeIn K cd28 "law" = true)
    (h133 : PySem.W.keepIn K (.ref f28) = true)
    (h134 : PySem.W.nsIn K mainGlobals "MOST_HOLDERS" = some (some (.int 6 t1)))
    (h135 : PySem.W.nsIn K mainGlobals "MOST_LINES" = some (some (.int 4 t2)))
    (h136 : PySem.W.nsIn K mainGlobals "MOST_WORTH" = some (some (.int 100 t3)))
    (h137 : PySem.W.nsIn K mainGlobals "Malformed" = some (some (.ref C_Malformed)))
    (h138 : PySem.W.excIn K C_Malformed [.type "ValueError", .type "Exception", .type "BaseException", .type "object"] "ValueError.__new__" = true)
    (h139 : PySem.W.keepIn K (.ref C_Malformed) = true)
    (h140 : PySem.W.subIn K (.ref C_Malformed) (.type "BaseException") = some true)
    (h141 : PySem.W.typeIn K (.ref C_Malformed) = some (.type "type"))
    (h142 : PySem.W.isClsIn K C_Malformed = true)
    (h143 : PySem.W.typeIn K (.ref C_Malformed) = some (.type "type"))
    (h144 : PySem.W.subIn K (.ref C_Malformed) (.ref C_Malformed) = some true)
    (h145 : PySem.W.subIn K (.ref C_Malformed) (.type "BaseException") = some true) : Tp K mg where
  n_abs := PySem.W.mg_none_of I G h1
  n_all := PySem.W.mg_none_of I G h2
  n_any := PySem.W.mg_none_of I G h3
  n_bool := PySem.W.mg_none_of I G h4
  n_enumerate := PySem.W.mg_none_of I G h5
  n_int := PySem.W.mg_none_of I G h6
  n_isinstance := PySem.W.mg_none_of I G h7
  n_len := PySem.W.mg_none_of I G h8
  n_list := PySem.W.mg_none_of I G h9
  n_max := PySem.W.mg_none_of I G h10
  n_min := PySem.W.mg_none_of I G h11
  n_range := PySem.W.mg_none_of I G h12
  n_set := PySem.W.mg_none_of I G h13
  n_sorted := PySem.W.mg_none_of I G h14
  n_sum := PySem.W.mg_none_of I G h15
  n_tuple := PySem.W.mg_none_of I G h16
  n_zip := PySem.W.mg_none_of I G h17
  f__law_draw := fnF I G h18 h19 h20 h21 fun _ _ _ _ _ _ us hl => match us, hl with | [_], _ => rfl
  f__law_take := fnF I G h22 h23 h24 h25 fun _ _ _ _ _ _ us hl => match us, hl with | [_, _], _ => rfl
  f__law_table := fnF I G h26 h27 h28 h29 fun _ _ _ _ _ _ us hl => match us, hl with | [_], _ => rfl
  f__law_crowd := fnF I G h30 h31 h32 h33 fun _ _ _ _ _ _ us hl => match us, hl with | [_, _], _ => rfl
  f__law_sum := fnF I G h34 h35 h36 h37 fun _ _ _ _ _ _ us hl => match us, hl with | [_, _, _], _ => rfl
  f__law_other := fnF I G h38 h39 h40 h41 fun _ _ _ _ _ _ us hl => match us, hl with | [_, _, _], _ => rfl
  f__law_copies := fnF I G h42 h43 h44 h45 fun _ _ _ _ _ _ us hl => match us, hl with | [_, _], _ => rfl
  f__law_spread := fnF I G h46 h47 h48 h49 fun _ _ _ _ _ _ us hl => match us, hl with | [_, _], _ => rfl
  f_is_whole := fnF I G h50 h51 h52 h53 fun _ _ _ _ _ _ us hl => match us, hl with | [_], _ => rfl
  f_is_table := fnF I G h54 h55 h56 h57 fun _ _ _ _ _ _ us hl => match us, hl with | [_, _, _], _ => rfl
  f_is_square := fnF I G h58 h59 h60 h61 fun _ _ _ _ _ _ us hl => match us, hl with | [_], _ => rfl
  f_check_square := fnF I G h62 h63 h64 h65 fun _ _ _ _ _ _ us hl => match us, hl with | [_], _ => rfl
  f_is_crowd := fnF I G h66 h67 h68 h69 fun _ _ _ _ _ _ us hl => match us, hl with | [_, _], _ => rfl
  f_check_crowd := fnF I G h70 h71 h72 h73 fun _ _ _ _ _ _ us hl => match us, hl with | [_, _], _ => rfl
  f_held := fnF I G h74 h75 h76 h77 fun _ _ _ _ _ _ us hl => match us, hl with | [_], _ => rfl
  f_sum_for := fnF I G h78 h79 h80 h81 fun _ _ _ _ _ _ us hl => match us, hl with | [_, _, _], _ => rfl
  f_moved := fnF I G h82 h83 h84 h85 fun _ _ _ _ _ _ us hl => match us, hl with | [_, _, _], _ => rfl
  f_copies_of := fnF I G h86 h87 h88 h89 fun _ _ _ _ _ _ us hl => match us, hl with | [_, _], _ => rfl
  f_reached_by := fnF I G h90 h91 h92 h93 fun _ _ _ _ _ _ us hl => match us, hl with | [_, _], _ => rfl
  f_copy_ends := fnF I G h94 h95 h96 h97 fun _ _ _ _ _ _ us hl => match us, hl with | [_, _], _ => rfl
  f_copy_ring := fnF I G h98 h99 h100 h101 fun _ _ _ _ _ _ us hl => match us, hl with | [_, _], _ => rfl
  f__law_crowd_right := fnF I G h102 h103 h104 h105 fun _ _ _ _ _ _ us hl => match us, hl with | [_, _], _ => rfl
  f__law_ring := fnF I G h106 h107 h108 h109 fun _ _ _ _ _ _ us hl => match us, hl with | [_, _, _], _ => rfl
  f__law_says := fnF I G h110 h111 h112 h113 fun _ _ _ _ _ _ us hl => match us, hl with | [_, _], _ => rfl
  f_takes_copy_ring := fnF I G h114 h115 h116 h117 fun _ _ _ _ _ _ us hl => match us, hl with | [_, _, _], _ => rfl
  f__law_bad_table := fnF I G h118 h119 h120 h121 fun _ _ _ _ _ _ us hl => match us, hl with | [_, _], _ => rfl
  f__law_bad_crowd := fnF I G h122 h123 h124 h125 fun _ _ _ _ _ _ us hl => match us, hl with | [_, _, _], _ => rfl
  f__law_falls := fnF I G h126 h127 h128 h129 fun _ _ _ _ _ _ us hl => match us, hl with | [_, _, _], _ => rfl
  f_law := fnF I G h130 h131 h132 h133 fun _ _ _ _ _ _ us hl => match us, hl with | [_], _ => rfl
  g_MOST_HOLDERS := glF I G h134 (.int _ _)
  g_MOST_LINES := glF I G h135 (.int _ _)
  g_MOST_WORTH := glF I G h136 (.int _ _)
  x_Malformed := ⟨C_Malformed, PySem.W.mg_of I G h137, h138, h139, h140, h141⟩
  s_Malformed := ⟨C_Malformed, PySem.W.mg_of I G h137, fun y v e A hA => by
    unfold sub_Malformed at e
    split at e
    · rename_i hy; subst hy; cases e; rw [PySem.W.mg_of I G h137] at hA; cases hA; exact exm_mk h145 h142 h143 h144
    · cases e⟩
theorem fin {l : PySem.W.OpenLaw} {w : World} {K : PySem.W.Frag} {h : Heap} {mg : Str → Option Value} {fa : Addr} (T : Tp K mg) (hfa : mg "law" = some (.ref fa)) (hb : ∀ g : G, -1 ≤ g.at_ → ∃ g', b_law ((List.replicate 20 none).set 1 (some (.val .draw))) g = .ret (.bl true) g') :
    ∃ fd : FuncData, (∀ (s : Shared) (v : Value), BindsTo s fd ⟨[v], []⟩ [("script", v)]) ∧ ∀ base : Heap, K.In base → base.Ns mainGlobals mg → FnOk l.prog w K mg base (L2.CX l.prog w) 7 fa fd ["script"] (spLaw K) := by
  obtain ⟨f, fd, Fn, hm, _⟩ := T.f_law.ex
  cases hfa.symm.trans hm
  refine ⟨fd, ?_, fun base _ _ => ok_law T Fn hb⟩
  obtain ⟨oc, od, kV, doc, pm, an, cdv, ct, osl, rfl, _⟩ := Fn.ex
  exact fun s v => .of_eq rfl
end DI
open PySem PySem.W PyProof.Rows
set_option maxHeartbeats 0 in
theorem PySem.Challenge.cw_gamekinds_k78_whole_where_copying_leads_holds : PySem.Challenge.rw_gamekinds_k78_whole_where_copying_leads.Holds := by
  w_on; o_law; k_head; (case hw => w_witness2)
  k_fill
  refine L2.walk_of (l := PySem.Challenge.rw_gamekinds_k78_whole_where_copying_leads) (n := 63) (k := 7) (x := "script") (CX := fun w => L2.CX _ w) (sp := fun w => DI.spLaw _) rfl (by decide) rfl ⟨rfl, by decide, by decide⟩ (fun w h Y => PySem.W.kIn_of Y) ?F (fun _ _ a ns hl _ hS => ⟨a, ns, rfl, hS, hl, fun _ => rfl⟩) DI.cx_no
  case F =>
    intro w mg fa h KX G hmg
    refine DI.fin (h := h) ?T hmg DI.law_ok
    case T =>
      refine' DI.top_mk KX G ?h1 ?h2 ?h3 ?h4 ?h5 ?h6 ?h7 ?h8 ?h9 ?h10 ?h11 ?h12 ?h13 ?h14 ?h15 ?h16 ?h17 ?h18 ?h19 ?h20 ?h21 ?h22 ?h23 ?h24 ?h25 ?h26 ?h27 ?h28 ?h29 ?h30 ?h31 ?h32 ?h33 ?h34 ?h35 ?h36 ?h37 ?h38 ?h39 ?h40 ?h41 ?h42 ?h43 ?h44 ?h45 ?h46 ?h47 ?h48 ?h49 ?h50 ?h51 ?h52 ?h53 ?h54 ?h55 ?h56 ?h57 ?h58 ?h59 ?h60 ?h61 ?h62 ?h63 ?h64 ?h65 ?h66 ?h67 ?h68 ?h69 ?h70 ?h71 ?h72 ?h73 ?h74 ?h75 ?h76 ?h77 ?h78 ?h79 ?h80 ?h81 ?h82 ?h83 ?h84 ?h85 ?h86 ?h87 ?h88 ?h89 ?h90 ?h91 ?h92 ?h93 ?h94 ?h95 ?h96 ?h97 ?h98 ?h99 ?h100 ?h101 ?h102 ?h103 ?h104 ?h105 ?h106 ?h107 ?h108 ?h109 ?h110 ?h111 ?h112 ?h113 ?h114 ?h115 ?h116 ?h117 ?h118 ?h119 ?h120 ?h121 ?h122 ?h123 ?h124 ?h125 ?h126 ?h127 ?h128 ?h129 ?h130 ?h131 ?h132 ?h133 ?h134 ?h135 ?h136 ?h137 ?h138 ?h139 ?h140 ?h141 ?h142 ?h143 ?h144 ?h145
      (case h1 => k_is); (case h2 => k_is); (case h3 => k_is); (case h4 => k_is); (case h5 => k_is); (case h6 => k_is); (case h7 => k_is); (case h8 => k_is); (case h9 => k_is); (case h10 => k_is); (case h11 => k_is); (case h12 => k_is); (case h13 => k_is); (case h14 => k_is); (case h15 => k_is); (case h16 => k_is); (case h17 => k_is); (case h18 => k_is); (case h19 => k_is); (case h20 => k_is); (case h21 => k_is); (case h22 => k_is); (case h23 => k_is); (case h24 => k_is); (case h25 => k_is); (case h26 => k_is); (case h27 => k_is); (case h28 => k_is); (case h29 => k_is); (case h30 => k_is); (case h31 => k_is); (case h32 => k_is); (case h33 => k_is); (case h34 => k_is); (case h35 => k_is); (case h36 => k_is); (case h37 => k_is); (case h38 => k_is); (case h39 => k_is); (case h40 => k_is); (case h41 => k_is); (case h42 => k_is); (case h43 => k_is); (case h44 => k_is); (case h45 => k_is); (case h46 => k_is); (case h47 => k_is); (case h48 => k_is); (case h49 => k_is); (case h50 => k_is); (case h51 => k_is); (case h52 => k_is); (case h53 => k_is); (case h54 => k_is); (case h55 => k_is); (case h56 => k_is); (case h57 => k_is); (case h58 => k_is); (case h59 => k_is); (case h60 => k_is); (case h61 => k_is); (case h62 => k_is); (case h63 => k_is); (case h64 => k_is); (case h65 => k_is); (case h66 => k_is); (case h67 => k_is); (case h68 => k_is); (case h69 => k_is); (case h70 => k_is); (case h71 => k_is); (case h72 => k_is); (case h73 => k_is); (case h74 => k_is); (case h75 => k_is); (case h76 => k_is); (case h77 => k_is); (case h78 => k_is); (case h79 => k_is); (case h80 => k_is); (case h81 => k_is); (case h82 => k_is); (case h83 => k_is); (case h84 => k_is); (case h85 => k_is); (case h86 => k_is); (case h87 => k_is); (case h88 => k_is); (case h89 => k_is); (case h90 => k_is); (case h91 => k_is); (case h92 => k_is); (case h93 => k_is); (case h94 => k_is); (case h95 => k_is); (case h96 => k_is); (case h97 => k_is); (case h98 => k_is); (case h99 => k_is); (case h100 => k_is); (case h101 => k_is); (case h102 => k_is); (case h103 => k_is); (case h104 => k_is); (case h105 => k_is); (case h106 => k_is); (case h107 => k_is); (case h108 => k_is); (case h109 => k_is); (case h110 => k_is); (case h111 => k_is); (case h112 => k_is); (case h113 => k_is); (case h114 => k_is); (case h115 => k_is); (case h116 => k_is); (case h117 => k_is); (case h118 => k_is); (case h119 => k_is); (case h120 => k_is); (case h121 => k_is); (case h122 => k_is); (case h123 => k_is); (case h124 => k_is); (case h125 => k_is); (case h126 => k_is); (case h127 => k_is); (case h128 => k_is); (case h129 => k_is); (case h130 => k_is); (case h131 => k_is); (case h132 => k_is); (case h133 => k_is); (case h134 => k_is); (case h135 => k_is); (case h136 => k_is); (case h137 => k_is); (case h138 => k_exc); (case h139 => k_is); (case h140 => k_is); (case h141 => k_is); (case h142 => k_is); (case h143 => k_is); (case h144 => k_is); (case h145 => k_is)

